/- A part of the proof of TopRipening: an abstract machine, or what functions come to on it. -/
import Derived.Test.YtckllniniolhcaaGreatTopRipeningQ2
import Derived.WalkKit
import Derived.ChangeArms
import Derived.SizedLaws
import Derived.ChangeBears
import Derived.ChangeShapes
import Derived.WideShapes
import Derived.ProofKit
import Derived.OpenShut
import Derived.Lib.Strings
import Derived.Laws.RangeAny
set_option linter.unusedVariables false
set_option linter.unusedSimpArgs false
set_option linter.defProp false
namespace Go.Am
variable {P:Program} {hh:String→Bool} {G G0 G1 G2 G':Gh} {w w0 w1 w2 w':World} {σ σ' σ1 σ2:St} {env env':Env} {n m m':Nat} {v:AV} {a:Act} {Q R:Out→Prop}
theorem LX {c:ACode} (h:cW P hh (.code c env σ) R) (h1:∀ o,R o→Q o∨∃ env'' σ'',CH σ o.env o.σ env'' σ''∧Q ⟨o.j,env'',σ'',o.v⟩):cW P hh (.code c env σ) Q:=by
 intro F n cd G w a B f1 f2 f3 f4 f5 f6
 refine (h f1 f2 (f3.ghost (G':=G.shut σ) rfl rfl rfl rfl) f4.shut (f5.mono fun r e=>e) f6).mono fun e a' w' hp=>?_
 obtain ⟨o,G1,q1,q2,q3,q4,q5,q6⟩:=hp
 rcases h1 o q1 with hq|⟨env'',σ'',⟨t1,t2,t3,t4⟩,hq⟩
 ·refine ⟨o,{ G1 with res:=G.res },hq,q2,q3.ghost rfl rfl rfl rfl,q4.reserve _ fun id x e=>?_,?_,q6.mono fun r e=>e⟩
  ·exact q4.res id x (q5.res _ _ ((lI f4).res _ _ e))
  ·have h2:=(lI f4).trans q5
   exact ⟨h2.loc,h2.lim,h2.tok,h2.own,h2.defs,h2.B0,h2.h0,h2.os,h2.tape,h2.output,h2.size,fun _ _ e=>e⟩
 have hL:=oC (m:=σ''.length) q4 G.res
 refine ⟨_,G1.cut w' o.σ σ''.length G.res,hq,q2,⟨q3.1,fun t=>?_⟩,II f4 q5 q4 q3 t1 t2 t4,xL f4 q5 q4 t1,q6.mono fun r e=>e⟩
 show RelV _ _ (Env.get env'' t) _
 rcases yX t3 t with hu|hu
 ·rw [hu];exact .undef _
 ·exact (q3.2 t).thin q4 hL hu
theorem LH {a0:ACode} {az:List ACode} {c:ACode} {S:Env→St→Prop} (h:cW P hh (.chain (a0::az) env σ) R) (h1:∀ o,R o→o.j≠none→Q o)
  (h2:∀ o,R o→o.j=none→∃ env1 σ1 env2 σ2,CH σ o.env o.σ env1 σ1∧((env2=env1∧σ2=σ1)∨TD σ.length env1 σ1 env2 σ2)∧S env2 σ2)
  (h3:∀ env2 σ2,S env2 σ2→cW P hh (.code c env2 σ2) Q):cW P hh (.code (PO (a0::az) c) env σ) Q:=by
 intro F n cd G w a B f1 f2 f3 f4 f5 f6
 have hwp:∀ K,cd.wpIn F 0 P K a w→wpL F P cd K a w:=by
  intro K hk
  simp only [PO] at f2
  obtain ⟨x,y,rfl,_⟩:=DK f2
  exact hk
 refine hwp _ (h f1 f2 (f3.ghost (G':=G.shut σ) rfl rfl rfl rfl) f4.shut (f5.mono fun r e=>e) f6 (fun d o G1 a' w' p1 p2 p3 p4 p5 p6 p7 p8=>?_) fun o G1 a' w' p1 p2 p3 p4 p5 p6=>?_)
 ·obtain ⟨env1,σ1,env2,σ2,⟨t1,t2,t3,t4⟩,ht,hs⟩:=h2 o p3 p4
  have hL:=oC (m:=σ1.length) p6 G.res
  have hE1:eT (G1.cut w' o.σ σ1.length G.res) w' n env1 a'.tmps:=by
   refine ⟨p5.1,fun t=>?_⟩
   rcases yX t3 t with hu|hu
   ·rw [hu];exact .undef _
   ·exact (p5.2 t).thin p6 hL hu
  have hS1:=II f4 p7 p6 p5 t1 t2 t4
  have hV1:=xL f4 p7 p6 t1
  have hM1:qI (G1.cut w' o.σ σ1.length G.res) B a'.defers:=p8.mono fun r e=>e
  rcases ht with ⟨rfl,rfl⟩|ht
  ·exact ((h3 _ _ hs p2 p1 hE1 hS1 hM1 (Nat.le_trans f6 p7.size)).mono fun e a w=>rC.lift hV1).wpIn
  ·obtain ⟨G3,s1,s2,s3,s4⟩:=MP f4 hV1 hS1 hE1 (fun id r e=>e) ht
   exact ((h3 _ _ hs p2 p1 s2 s1 (hM1.mono fun r e=>by rw [s4];exact e) (Nat.le_trans f6 p7.size)).mono fun e a w=>rC.lift s3).wpIn
 ·refine ⟨o,{ G1 with res:=G.res },h1 o p1 p2,rfl,p3.ghost rfl rfl rfl rfl,p4.reserve _ fun id x e=>?_,?_,p6.mono fun r e=>e⟩
  ·exact p4.res id x (p5.res _ _ ((lI f4).res _ _ e))
  ·have h2:=(lI f4).trans p5
   exact ⟨h2.loc,h2.lim,h2.tok,h2.own,h2.defs,h2.B0,h2.h0,h2.os,h2.tape,h2.output,h2.size,fun _ _ e=>e⟩
theorem EI (h:Q ⟨none,env,σ,.undef⟩):cW P hh (.chain [] env σ) Q:=by
 intro F n c0 cd G w a B K f1 f2 f3 f4 f5 f6 f7 f8
 exact f7 cd _ G a w f2 f1 h rfl f3 f4 (.refl _ _) f5
theorem BZ {x:ACode} {az:List ACode} (h:cW P hh (.code x env σ) R) (h1:∀ o,R o→o.j=none→cW P hh (.chain az o.env o.σ) Q) (h2:∀ o,R o→o.j≠none→Q o):cW P hh (.chain (x::az) env σ) Q:=by
 intro F n c0 cd G w a B K f1 f2 f3 f4 f5 f6 f7 f8
 simp only [PO] at f2
 obtain ⟨c,d,rfl,c1,c2⟩:=DK f2
 refine wpIn_seq (wpIn_mono (h (rT f1 fun e=>by simp [o8] at e;exact e.1) c1 f3 f4 f5 f6).wpIn fun e a' w' hp=>?_)
 obtain ⟨o,G',q1,rfl,q3,q4,q5,q6⟩:=hp
 cases hj:o.j with
 |none =>
  refine (h1 o q1 hj) (rT f1 fun e=>by simp [o8] at e;exact e.2) c2 q3 q4 q6 (Nat.le_trans f6 q5.size) (fun d o2 G2 a2 w2 p1 p2 p3 p4 p5 p6 p7 p8=>f7 d o2 G2 a2 w2 p1 p2 p3 p4 p5 p6 (q5.trans p7) p8)
   fun o2 G2 a2 w2 p1 p2 p3 p4 p5 p6=>f8 o2 G2 a2 w2 p1 p2 p3 p4 (q5.trans p5) p6
 |some j =>
  have:=f8 o G' a' w' (h2 o q1 (by rw [hj];simp)) (by rw [hj];simp) q3 q4 q5 q6
  rw [hj] at this
  cases j<;>exact this
theorem RelV.free (hl:∀ b L,G.lim b=some L→(∀ t,G.own b≠some t)→∃ L',G'.lim b=some L'∧L≤L') (ho:∀ b L,G.lim b=some L→(∀ t,G.own b≠some t)→∀ t,G'.own b≠some t) {a:AV} {u:Value} (h:RelV G w a u) (hk:okV 0 a):RelV G' w a u:=by
 have htk:∀ {full tk n base cap},(∀ t,tk=some t→t<0)→nB G full tk n base cap→nB G' full tk n base cap:=fun q h=>⟨h.1,h.2.1,fun t e=>absurd (q t e) (by omega)⟩
 have hlit:∀ {xs tk b o sz},(∀ t,tk=some t→t<0)→LitAt G w xs tk b o sz→LitAt G' w xs tk b o sz:=by
  intro xs tk b o sz q ⟨⟨L,q1,q2⟩,q3,q4,q5⟩
  have hn:∀ t,G.own b≠some t:=fun t e=>absurd (q t (q3 t e)) (by omega)
  obtain ⟨L',r1,r2⟩:=hl b L q1 hn
  exact ⟨⟨L',r1,by omega⟩,fun t e=>absurd e (ho b L q1 hn t),q4,q5⟩
 induction h with
 |undef v=>exact .undef v
 |int k n=>exact .int k n
 |bool b=>exact .bool b
 |str s=>exact .str s
 |func e1 e2 _ _ e3 e4=>exact .func e1 e2 (fun i x u q1 q2=>e3 i x u q1 q2 (gX hk.1 q1)) (fun i x u q1 q2=>e4 i x u q1 q2 (gX hk.2 q1))
 |nilFunc=>exact .nilFunc
 |yield h=>exact absurd hk (by simp [okV])
 |ptr h=>exact absurd hk (by simp [okV])
 |nilPtr=>exact .nilPtr
 |lptr ht hi hl _ ih =>
  exact .lptr (fun t e=>absurd (hk.1 t e) (by omega)) hi (hlit hk.1 hl) fun i x j c u q1 q2 q3=>ih i x j c u q1 q2 q3 (w6 (gX hk.2 q1) q2)
 |nil ht hb=>exact .nil (htk hk.1 ht) hb
 |lit ht hl _ ih=>exact .lit (htk hk.1 ht) (hlit hk.1 hl) fun i x j c u q1 q2 q3=>ih i x j c u q1 q2 q3 (w6 (gX hk.2 q1) q2)
 |ref h hb hc hn=>exact absurd hk (by simp [okV])
 |map h=>exact absurd hk (by simp [okV])
 |nilMap=>exact .nilMap
 |agg h _ ih=>exact .agg h fun i x u q1 q2=>ih i x u q1 q2 (gX hk q1)
 |tuple h _ ih=>exact .tuple h fun i x u q1 q2=>ih i x u q1 q2 (gX hk q1)
theorem RelV.scal {a:AV} {u:Value} (h:RelV G w a u) (hk:Scal a):RelV G' w' a u:=by
 have hs:∀ {xs:List AV},Scals xs→∀ {i:Nat} {x:AV},xs[i]? = some x→Scal x:=by
  intro xs
  induction xs with
  |nil=>intro _ i x e;simp at e
  |cons y ys ih =>
   intro h (i:Nat) (x:AV) e
   cases i with
   |zero=>simp at e;subst e;exact h.1
   |succ i=>exact ih h.2 (by simpa using e)
 induction h with
 |undef v=>exact hk.elim
 |int k n=>exact .int k n
 |bool b=>exact .bool b
 |str s=>exact .str s
 |func e1 e2 _ _ e3 e4=>exact hk.elim
 |nilFunc=>exact hk.elim
 |yield h=>exact hk.elim
 |ptr h=>exact hk.elim
 |nilPtr=>exact hk.elim
 |lptr ht hi hl _ ih=>exact hk.elim
 |@nil full tk base cap ht hb =>
  cases tk with
  |none=>exact .nil ⟨ht.1,ht.2.1,fun t e=>by cases e⟩ hb
  |some t=>exact hk.elim
 |@lit xs full tk b o sz cap ht hl _ ih =>
  cases xs with
  |nil =>
   cases tk with
   |none=>exact .nil ⟨ht.1,ht.2.1,fun t e=>by cases e⟩ (fun e=>by cases e)
   |some t=>exact hk.elim
  |cons x xs=>cases tk<;>exact hk.elim
 |ref h hb hc hn=>exact hk.elim
 |map h=>exact hk.elim
 |nilMap=>exact hk.elim
 |agg h _ ih=>exact .agg h fun i x u q1 q2=>ih i x u q1 q2 (hs hk q1)
 |tuple h _ ih=>exact .tuple h fun i x u q1 q2=>ih i x u q1 q2 (hs hk q1)
open Classical in
noncomputable def Gh.fresh0 (G:Gh) (w:World) (lim:Nat→Option Nat) (old:Nat→Prop):Gh :=
  { loc:=fun _=>none,lim:=lim,tok:=fun _=>none,own:=fun _=>none,defs:=fun _=>False,B0:=w.heap.size
    h0:=w.heap++Array.ofFn (n:=w.heap.size) (fun i=>if old i then HK else .deferred (some [])),res:=fun _=>none }
theorem BQ {lim:Nat→Option Nat} {old:Nat→Prop} {b:Nat} (hb:b<w.heap.size):(G.fresh0 w lim old).h0[w.heap.size+b]? = some HK↔old b:=by
 simp only [Gh.fresh0]
 rw [Array.getElem?_append_right (by omega)]
 simp only [Nat.add_sub_cancel_left,Array.getElem?_ofFn,hb,dite_true,Option.some.injEq]
 split
 ·rename_i h;simp [h]
 ·rename_i h;simp [h,HK]
theorem wL {lim:Nat→Option Nat} {old:Nat→Prop} (hl:∀ b L,lim b=some L→old b∧∃ vs T fr,w.heap[b]? = some (.cells vs T fr)∧L≤vs.size):RelS P hh (G.fresh0 w lim old) w [] :=
 ⟨fun _ _ e=>(by cases e),fun _ _ _ e=>(by cases e),fun _ _ _ e=>(by cases e),fun _ _ e=>(by cases e),fun b L e=>by
  obtain ⟨h1,vs,T,fr,h2,h3⟩:=hl b L e
  exact ⟨vs,T,fr,h2,h3,fun hb=>(BQ hb).2 h1⟩,fun _ _ _ _ e=>(by cases e),fun _ _ e=>(by cases e),fun _ e=>e.elim,
  fun b hb=>by simp only [Gh.fresh0];rw [Array.getElem?_append_left hb],Nat.le_refl _,fun _ _ e=>(by cases e)⟩
theorem E9 {lim:Nat→Option Nat} {old:Nat→Prop} (hS:RelS P hh G w σ) (h1:RelS P hh G1 w' []) (he:Evo (G.fresh0 w lim old) w G1 w') (nl:Nat→Option Nat)
  (hn:∀ b,b<w.heap.size→(nl b=G.lim b)∨(∃ L L',G.lim b=some L∧(∀ t,G.own b≠some t)∧nl b=some L'∧L≤L'∧G1.lim b=some L')) (hn2:∀ b,w.heap.size≤b→nl b=G1.lim b) :
  RelS P hh { G with lim:=nl } w' σ∧Evo G w { G with lim:=nl } w':=by
 have hB:G1.B0=w.heap.size:=he.B0
 have hh0:G1.h0=_:=he.h0
 have heap:∀ b,b<w.heap.size→w'.heap[b]? = w.heap[b]?:=by
  intro b hb
  rw [h1.base b (by omega),hh0]
  simp only [Gh.fresh0]
  rw [Array.getElem?_append_left hb]
 have hsz:w.heap.size≤w'.heap.size:=he.size
 have lt:∀ {b L},G.lim b=some L→b<w.heap.size:=fun e=>by
  obtain ⟨vs,T,fr,q,_⟩:=hS.lim _ _ e
  exact (Array.getElem?_eq_some_iff.1 q).1
 have nlnone:∀ {b},b<w.heap.size→G.lim b=none→nl b=none:=by
  intro b hb e
  rcases hn b hb with h|⟨L,L',q,_⟩
  ·rw [h,e]
  ·rw [q] at e;cases e
 have hev:Evo G w { G with lim:=nl } w':=by
  refine ⟨fun _ _ h=>h,fun b L e=>?_,fun t b n c e=>⟨b,n,c,e,Nat.le_refl _,fun _=>⟨rfl,rfl⟩⟩,fun _ _ _ _ e=>e,fun _ e=>e,rfl,rfl,he.os,he.tape,he.output,hsz,fun _ _ e=>e⟩
  have hb:=lt e
  have hc:∀ k,k<L→w'.cell? ⟨b,k,none⟩=w.cell? ⟨b,k,none⟩:=by
   intro k _
   obtain ⟨vs,T,fr,q,_⟩:=hS.lim _ _ e
   rw [cell_of_row w b k vs T fr q,cell_of_row w' b k vs T fr (by rw [heap b hb];exact q)]
  rcases hn b hb with h|⟨L1,L',q,_,q2,q3,_⟩
  ·exact ⟨L,by show nl b=some L;rw [h,e],Nat.le_refl _,hc⟩
  ·rw [e] at q;cases q;exact ⟨L',q2,q3,hc⟩
 refine ⟨⟨hS.lt,fun id b x e1 e2=>(hS.blk id b x e1 e2).mono hev (heap b (hS.fresh _ _ e1).2.1),hS.inj,fun id b e=>?_,fun b L e=>?_,fun t b n c e=>?_,fun b t e=>?_,fun r e=>?_,fun b hb=>?_,Nat.le_trans hS.size hsz,hS.res⟩,hev⟩
 ·obtain ⟨q1,q2,q3,q4⟩:=hS.fresh id b e
  exact ⟨q1,by omega,nlnone q2 q3,q4⟩
 ·have e:nl b=some L:=e
  by_cases hb:b<w.heap.size
  ·rcases hn b hb with h|⟨L1,L',q,_,q2,q3,q4⟩
   ·rw [h] at e
    obtain ⟨vs,T,fr,p1,p2,p3⟩:=hS.lim b L e
    exact ⟨vs,T,fr,by rw [heap b hb];exact p1,p2,p3⟩
   ·rw [q2] at e
    cases e
    obtain ⟨vs,T,fr,p1,p2,p3⟩:=h1.lim b _ q4
    obtain ⟨_,_,_,_,_,p6⟩:=hS.lim b _ q
    exact ⟨vs,T,fr,p1,p2,p6⟩
  ·rw [hn2 b (by omega)] at e
   obtain ⟨vs,T,fr,p1,p2,p3⟩:=h1.lim b L e
   exact ⟨vs,T,fr,p1,p2,fun hlt=>absurd (Nat.lt_of_lt_of_le hlt hS.size) hb⟩
 ·obtain ⟨sz,ex,q1,q2,q3,q4⟩:=hS.tok t b n c e
  refine ⟨sz,ex,q1,q2,q3,fun hx=>?_⟩
  obtain ⟨bb,vs,T,r1,r2,r3,r4,r5,r6⟩:=q4 hx
  have hb:=lt r3
  refine ⟨bb,vs,T,r1,r2,?_,r4,by rw [heap bb hb];exact r5,r6⟩
  rcases hn bb hb with h|⟨_,_,_,q,_⟩
  ·show nl bb=_;rw [h,r3]
  ·exact absurd r2 (q t)
 ·obtain ⟨q1,q2⟩:=hS.own b t e
  exact ⟨by omega,q2⟩
 ·obtain ⟨q1,q2,q3⟩:=hS.defs r e
  have hr:=(Array.getElem?_eq_some_iff.1 q1).1
  exact ⟨by rw [heap r hr];exact q1,q2,nlnone hr q3⟩
 ·rw [heap b (Nat.lt_of_lt_of_le hb hS.size)]
  exact hS.base b hb
theorem AN {args:List AV} {vs:Array Value} (f:AV→AV) (hf:∀ (i:Nat) (x:AV) (u:Value),args[i]? = some x→vs[i]? = some u→RelV G' w (f x) u) (h:vs.size=args.length):fU G' w (args.map f) vs:=by
 refine ⟨by simp [h],fun i x u e1 e2=>?_⟩
 rw [List.getElem?_map] at e1
 cases e:args[i]? with
 |none=>rw [e] at e1;cases e1
 |some y=>rw [e] at e1;cases e1;exact hf i y u e e2
theorem MM {f:FuncId} {args args0:List AV} (hf:okVs 0 args) (h0:args0=args∨args0=clrs args) (h:cW P hh (.call f args0 []) R) (h1:∀ o,R o→o.σ=[]∧Q ⟨none,[],σ,o.v⟩):cW P hh (.call f args σ) Q:=by
 refine ⟨h.1,fun {G w vs} ha hS=>?_⟩
 let old:Nat→Prop:=fun b=>(∃ L,G.lim b=some L)∧∀ t,G.own b≠some t
 let lim:Nat→Option Nat:=fun b=>match G.own b with|none=>G.lim b|some _=>none
 have hlim:∀ {b L},lim b=some L→G.lim b=some L∧∀ t,G.own b≠some t:=by
  intro b L e
  simp only [lim] at e
  split at e
  ·rename_i hn;exact ⟨e,fun t e'=>by rw [hn] at e';cases e'⟩
  ·cases e
 have hrel0:RelS P hh (G.fresh0 w lim old) w []:=wL fun b L e=>by
  obtain ⟨q1,q2⟩:=hlim e
  obtain ⟨vs,T,fr,p1,p2,_⟩:=hS.lim b L q1
  exact ⟨⟨⟨L,q1⟩,q2⟩,vs,T,fr,p1,p2⟩
 have hv:∀ (i:Nat) (x:AV) (u:Value),args[i]? = some x→vs[i]? = some u→RelV (G.fresh0 w lim old) w x u:=fun i x u e1 e2 =>
  (ha.2 i x u e1 e2).free (fun b L q1 q2=>⟨L,by
   show lim b=_
   simp only [lim]
   cases e:G.own b with
   |none=>exact q1
   |some t=>exact absurd e (q2 t),Nat.le_refl _⟩) (fun _ _ _ _ t e=>by cases e) (gX hf e1)
 have ha0:fU (G.fresh0 w lim old) w args0 vs:=by
  rcases h0 with rfl|rfl
  ·exact ⟨ha.1,hv⟩
  ·rw [iF]
   exact AN clr (fun i x u e1 e2=>(hv i x u e1 e2).clr) ha.1
 refine (h.2 ha0 hrel0).mono fun e w' hr=>?_
 obtain ⟨r,G1,u,rfl,q1,q2,q3,q4⟩:=hr
 obtain ⟨hσ,hq⟩:=h1 r q1
 rw [hσ] at q3
 have hB:G1.B0=w.heap.size:=q4.B0
 have hold:∀ {b L},b<w.heap.size→G1.lim b=some L→old b:=by
  intro b L hb e
  obtain ⟨_,_,_,_,_,p⟩:=q3.lim b L e
  have:=p (by omega)
  rw [hB,show G1.h0=_ from q4.h0] at this
  exact (BQ hb).1 this
 let nl:Nat→Option Nat:=fun b=>if b<w.heap.size then (match G.own b,G.lim b with|none,some _=>G1.lim b|_,l=>l) else G1.lim b
 have hg:=E9 hS q3 q4 nl (fun b hb=>by
  simp only [nl,hb,if_true]
  cases e1:G.own b with
  |some t=>left;rfl
  |none =>
   cases e2:G.lim b with
   |none=>left;rfl
   |some L =>
    right
    obtain ⟨L',p1,p2,_⟩:=q4.lim b L (by show lim b=_;simp only [lim,e1,e2])
    exact ⟨L,L',rfl,(fun t e=>by cases e),p1,p2,p1⟩) (fun b hb=>by simp only [nl];rw [if_neg (by omega)])
 refine ⟨_,{ G with lim:=nl },u,rfl,hq,?_,hg.1,hg.2⟩
 refine q2.free (fun b L p1 p2=>⟨L,?_,Nat.le_refl _⟩) (fun b L p1 p2 t e=>?_) (q2.ok q3)
 ·show nl b=_
  simp only [nl]
  split
  ·rename_i hb
   obtain ⟨⟨L0,s1⟩,s2⟩:=hold hb p1
   cases e:G.own b with
   |some t=>exact absurd e (s2 t)
   |none=>rw [s1];exact p1
  ·exact p1
 ·have e:G.own b=some t:=e
  have hb:=(hS.own b t e).1
  exact (hold hb p1).2 t e
theorem I9 {f:FuncId} {args args0 as1:List AV} {d:Nat} (hf:snaps σ 0 d args=some as1) (h0:args0=as1∨args0=clrs as1) (h:cW P hh (.call f args0 []) R) (h1:∀ o,R o→o.σ=[]∧Scal o.v∧Q ⟨none,[],σ,o.v⟩) :
    cW P hh (.call f args σ) Q:=by
  refine ⟨h.1,fun {G w vs} ha hS=>?_⟩
  have hL:=oC (m:=0) hS G.res
  obtain ⟨lim,hlimeq⟩:∃ lim,lim=(G.cut w σ 0 G.res).lim:=⟨_,rfl⟩
  have hrel0:RelS P hh (G.fresh0 w lim fun _=>True) w []:=wL fun b L e=>by
    rw [hlimeq] at e
    refine ⟨trivial,?_⟩
    cases hn:G.lim b with
    |some L' =>
      have:(G.cut w σ 0 G.res).lim b=some L':=by simp [Gh.cut,hn]
      rw [this] at e
      cases e
      obtain ⟨vs,T,fr,p1,p2,_⟩:=hS.lim b _ hn
      exact ⟨vs,T,fr,p1,p2⟩
    |none =>
      obtain ⟨rfl,id,cs,p1,p2,p3⟩:=wX e hn
      obtain ⟨vs,T,q,l,_⟩:=hS.blk _ _ _ p2 p3
      exact ⟨vs,T,(0,0),q,by simp [rI,q]⟩
  have hL':Last σ G 0 (G.fresh0 w lim fun _=>True) :=
    { loc:=fun id b h _=>absurd h (by omega),lim:=fun b L e=>by obtain ⟨L',q⟩:=hL.lim b L e;exact ⟨L',by rw [hlimeq.symm] at q;exact q⟩,tok:=fun t p h _=>absurd h (by omega),own:=fun b t e=>(by cases e),
      frz:=fun id b cs h1 h2 h3=>by
        obtain ⟨⟨L,q1,q2⟩,_⟩:=hL.frz id b cs h1 h2 h3
        exact ⟨⟨L,by rw [hlimeq.symm] at q1;exact q1,q2⟩,fun t e=>by cases e⟩ }
  obtain ⟨hlen,hsp⟩:=eB hf
  have hv:∀ (i:Nat) (y:AV) (u:Value),as1[i]? = some y→vs[i]? = some u→RelV (G.fresh0 w lim fun _=>True) w y u:=fun i y u e1 e2=>by
    obtain ⟨x,p1,p2⟩:=rA hf e1
    exact sI hS hL' d p2 (ha.2 i x u p1 e2)
  have ha0:fU (G.fresh0 w lim fun _=>True) w args0 vs:=by
    rcases h0 with rfl|rfl
    · exact ⟨by rw [hlen];exact ha.1,hv⟩
    · rw [iF]
      exact AN clr (fun i x u e1 e2=>(hv i x u e1 e2).clr) (by rw [hlen];exact ha.1)
  refine (h.2 ha0 hrel0).mono fun e w' hr=>?_
  obtain ⟨r,G1,u,rfl,q1,q2,q3,q4⟩:=hr
  obtain ⟨hσ,hs,hq⟩:=h1 r q1
  rw [hσ] at q3
  have hg:=E9 hS q3 q4 (fun b=>if b<w.heap.size then G.lim b else G1.lim b) (fun b hb=>by left;simp [hb]) (fun b hb=>by simp;omega)
  exact ⟨_,_,u,rfl,hq,q2.scal hs,hg.1,hg.2⟩
end Go.Am
namespace Go.Am
variable {P:Program} {hh:String→Bool} {G G0 G1 G':Gh} {w w0 w1 w':World} {σ σ' σ1:St} {env env':Env} {n m m':Nat} {v:AV} {a:Act} {Q R S:Out→Prop}
theorem XY (env:Env) (t:Nat):Env.get env t = .undef∨∃ p∈env,p.1=t∧Env.get env t=p.2:=by
 induction env with
 |nil=>exact .inl rfl
 |cons p env ih =>
  obtain ⟨k,v⟩:=p
  by_cases hk:k=t
  ·exact .inr ⟨(k,v),by simp,hk,by simp [Env.get,hk]⟩
  ·rcases ih with h|⟨p,q1,q2,q3⟩
   ·exact .inl (by simp [Env.get,hk,h])
   ·exact .inr ⟨p,by simp [q1],q2,by simp [Env.get,hk,q3]⟩
theorem PJ {c:ACode} (h:cW P hh (.code c env σ) R) (h1:∀ o,R o→∃ env' m,ZR σ o.env o.σ env' m∧Q ⟨o.j,env',o.σ.take m,o.v⟩):cW P hh (.code c env σ) Q:=by
 intro F n cd G w a B f1 f2 f3 f4 f5 f6
 have he0:=lI f4
 refine (h f1 f2 (f3.ghost (G':=G.shut σ) rfl rfl rfl rfl) f4.shut (f5.mono fun r e=>e) f6).mono fun e a' w' hp=>?_
 obtain ⟨o,G1,q1,q2,q3,q4,q5,q6⟩:=hp
 obtain ⟨env',m,⟨t1,t2,t3,t4⟩,hq⟩:=h1 o q1
 have hkept:WT σ o.σ m:=⟨t1,t2,t4⟩
 have hless:=(oC (m:=m) q4 G.res).toLess
 refine ⟨_,G1.cut w' o.σ m G.res,hq,q2,⟨q3.1,fun t=>?_⟩,JO f4 q5 q4 hkept,xL f4 q5 q4 t1,q6.mono fun r e=>e⟩
 rcases XY env' t with hu|⟨p,p1,p2,p3⟩
 ·show RelV _ _ (Env.get env' t) _
  rw [hu]
  exact .undef _
 ·show RelV _ _ (Env.get env' t) _
  obtain ⟨g1,g2⟩:=t3 p p1
  rw [p3]
  have:=q3.2 t
  rw [←p2,←g1] at this
  rw [←p2]
  exact this.less hless g2
theorem LK {c:ACode} (t sz:Nat) (xs:List AV) (ht:Env.get env t = .lit xs true none) (h:cW P hh (.code c ((t,.lit xs false (some σ.length))::env) (σ++[.tok sz xs.length false])) Q):cW P hh (.code c env σ) Q:=by
 intro F n cd G w a B f1 f2 f3 f4 f5 f6
 have hr:=f3.2 t
 rw [ht] at hr
 generalize hu:a.tmps.getD t undef=u at hr
 obtain ⟨base,cap,rfl,htk,hbn⟩:=kX hr
 have hcap:=htk.2.1 rfl
 obtain ⟨G1,hG1⟩:∃ G1:Gh,G1={ G with tok:=fun i=>if i=σ.length then some (base,xs.length,xs.length) else G.tok i }:=⟨_,rfl⟩
 have hlt:∀ {t b n c},G.tok t=some (b,n,c)→t<σ.length:=fun e=>by
  obtain ⟨_,_,q,_⟩:=f4.tok _ _ _ _ e
  exact (List.getElem?_eq_some_iff.1 q).1
 have he:Evo G w G1 w:=by
  rw [hG1]
  refine ⟨fun _ _ h=>h,fun b L h=>⟨L,h,Nat.le_refl _,fun _ _=>rfl⟩,fun t b n c e=>⟨b,n,c,?_,Nat.le_refl _,fun _=>⟨rfl,rfl⟩⟩,fun _ _ _ _ h=>h,fun _ h=>h,rfl,rfl,rfl,rfl,rfl,Nat.le_refl _,fun _ _ h=>h⟩
  have:=hlt e
  simp only [show t≠σ.length by omega,if_false]
  exact e
 have hS1:RelS P hh G1 w (σ++[.tok sz xs.length false]):=by
  have hm:=f4.more [.tok sz xs.length false]
  rw [hG1] at he ⊢
  refine ⟨hm.lt,fun id b x e1 e2=>(hm.blk id b x e1 e2).mono he rfl,hm.inj,hm.fresh,hm.lim,fun t' b k c e=>?_,fun b t' e=>?_,hm.defs,hm.base,hm.size,hm.res⟩
  ·by_cases ht':t'=σ.length
   ·subst ht'
    simp only [if_true,Option.some.injEq,Prod.mk.injEq] at e
    obtain ⟨rfl,rfl,rfl⟩:=e
    exact ⟨sz,false,by simp,Nat.le_refl _,fun _=>rfl,fun h=>by cases h⟩
   ·simp only [ht',if_false] at e
    exact hm.tok _ _ _ _ e
  ·obtain ⟨q1,p,q2⟩:=hm.own b t' e
   refine ⟨q1,p,?_⟩
   obtain ⟨b',n',c'⟩:=p
   have:=hlt q2
   simp only [show t'≠σ.length by omega,if_false]
   exact q2
 have hv:RelV G1 w (.lit xs false (some σ.length)) (.slice base xs.length cap):=by
  have htk':nB G1 false (some σ.length) xs.length base cap:=by
   refine ⟨htk.1,by simp,fun t' e=>?_⟩
   cases e
   exact ⟨base,xs.length,xs.length,by rw [hG1];simp,Nat.le_refl _,fun _ _=>⟨rfl,hcap.symm⟩⟩
  have hr1:=hr.mono he
  cases hr1 with
  |nil _ hb=>exact .nil htk' hb
  |lit _ hl hc =>
   refine .lit htk' ⟨hl.lim,fun t' e=>?_,hl.size,hl.cells⟩ hc
   have:=hl.own t' e
   cases this
 have hE1:eT G1 w n ((t,.lit xs false (some σ.length))::env) a.tmps:=by
  refine ⟨f3.1,fun t'=>?_⟩
  by_cases htt:t=t'
  ·subst htt
   rw [hu]
   simpa [Env.get] using hv
  ·simpa [Env.get,htt] using (f3.2 t').mono he
 exact (h f1 f2 hE1 hS1 (f5.mono he.defs) f6).mono fun e a w=>rC.lift he
theorem AJ:∀ (args:List AV) (k t:Nat),Env.get (fC k args) t=if k≤t then (args[t-k]?).getD .undef else .undef
 |[],k,t=>by simp [fC,Env.get]
 |v::vs,k,t=>by
  simp only [fC,Env.get]
  by_cases hk:k=t
  ·subst hk;simp
  ·rw [if_neg hk,AJ vs (k+1) t]
   by_cases hlt:k≤t
   ·rw [if_pos hlt,if_pos (by omega),show t-k=(t-(k+1))+1 by omega]
    rfl
   ·rw [if_neg hlt,if_neg (by omega)]
theorem UE {args:List AV} {vs:Array Value} (h:fU G w args vs) (hn:args.length≤n):eT G w n (fC 0 args) (vs++Array.replicate (n-vs.size) undef):=by
 refine ⟨by have:=h.1;simp;omega,fun t=>?_⟩
 rw [AJ]
 simp only [Nat.zero_le,if_true,Nat.sub_zero]
 cases e:args[t]? with
 |none=>simpa using .undef _
 |some x =>
  have ht:t<vs.size:=by rw [h.1];exact (List.getElem?_eq_some_iff.1 e).1
  have:=h.2 t x vs[t] e (Array.getElem?_eq_getElem ht)
  simpa [Array.getD_eq_getD_getElem?,Array.getElem?_append_left ht,Array.getElem?_eq_getElem ht] using this
theorem D6 {fn:Func} {af:AFunc} (h:aD P hh fn=some af) :
  ∃ c,fn.body=some c∧comp P hh fn.ntmps c=some af.body∧nR P fn.results.toList=some af.results∧(fn.name== "runtime.NumGoroutine")=false∧af.ntmps=fn.ntmps:=by
 unfold aD at h
 split at h
 ·cases h
 ·rename_i c hb
  split at h
  ·rename_i b rs h1 h2
   split at h
   ·cases h
   ·rename_i hname
    cases h
    exact ⟨c,hb,h1,h2,by simpa using hname,rfl⟩
  ·cases h
theorem PK {T:FuncId→Option AFunc} (hT:∀ f af,T f=some af→∃ fn,P.funcs[f]? = some fn∧aD P hh fn=some af) {f:FuncId} {args:List AV} {af:AFunc} (hf:T f=some af) (hn:args.length≤af.ntmps)
  (h:cW P hh (.code af.body (fC 0 args) σ) R) (h1:∀ o,R o→(o.j=none∨o.j=some .ret)∧∃ v,f9 af.results o.env o.σ=some v∧NV σ o.σ v Q):cW P hh (.call f args σ) Q:=by
 obtain ⟨fn,hfn,hcomp⟩:=hT f af hf
 obtain ⟨c,hb,hc,hres,hname,hnt⟩:=D6 hcomp
 have hname':¬fn.name = "runtime.NumGoroutine":=by simpa using hname
 refine ⟨fun vs w=>by simp [callFunc,hfn,hname',hb],fun {G w vs} ha hS=>?_⟩
 refine callsIn_of_wp_marks hfn hb trivial (wpIn_mono (h (F:=Fence.wide) (cd:=c) (n:=fn.ntmps) (G:=G.shut σ) (w:=w) (a:={ tmps:=vs++Array.replicate (fn.ntmps-vs.size) undef,defers:=[] }) (B:=w.heap.size) (.inl rfl) hc ((UE ha (by omega)).ghost rfl rfl rfl rfl) hS.shut
  ⟨[],rfl,List.nodup_nil,fun r hr=>by cases hr⟩ (Nat.le_refl _)).wpIn fun e a' w' hp=>?_)
 obtain ⟨o,G1,q1,rfl,q3,q4,q5,rs,m1,m2,m3⟩:=hp
 obtain ⟨hj,v,hv,hl⟩:=h1 o q1
 have hleave:LeavesInM Fence.wide 0 P fn a'.tmps (fun e w'=>∃ r G' u,e = .returned u∧Q r∧RelV G' w' r.v u∧RelS P hh G' w' r.σ∧Evo G w G' w') a'.defers .returning w':=by
  rw [m1]
  refine zQ rs m2 (fun r hr=>⟨(m3 r hr).1,fun e=>?_⟩) q4 q3 q5 fun G2 w2 s1 s2 s3=>?_
  ·have:=(Array.getElem?_eq_some_iff.1 (hS.defs r e).1).1
   have:=(m3 r hr).2
   omega
  ·obtain ⟨u,r1,r2⟩:=D7 s2 s1 hres hv
   obtain ⟨o2,G3,t1,t2,t3,t4⟩:=JJ hS s3 s1 r2 hl
   exact ⟨u,r1,o2,G3,u,rfl,t1,t2,t3,t4⟩
 rcases hj with hj|hj<;>rw [hj]<;>exact hleave
theorem RelS.newDef (h:RelS P hh G w σ):RelS P hh { G with defs:=fun x=>G.defs x∨x=w.heap.size } (w.alloc (.deferred (some []))) σ ∧
  Evo G w { G with defs:=fun x=>G.defs x∨x=w.heap.size } (w.alloc (.deferred (some []))):=by
 have h1:=h.alloc (.deferred (some []))
 have he:=kS h (.deferred (some []))
 refine ⟨⟨h1.lt,fun id b x e1 e2=>(h1.blk id b x e1 e2).ghost rfl rfl rfl rfl,h1.inj,fun id b e=>?_,h1.lim,h1.tok,h1.own,fun r e=>?_,h1.base,h1.size,h1.res⟩,
  ⟨he.loc,he.lim,he.tok,he.own,fun r e=>.inl e,he.B0,he.h0,he.os,he.tape,he.output,he.size,he.res⟩⟩
 ·obtain ⟨q1,q2,q3,q4⟩:=h1.fresh id b e
  refine ⟨q1,q2,q3,fun hd=>hd.elim q4 fun e'=>?_⟩
  have:=(h.fresh id b e).2.1
  omega
 ·rcases e with e|rfl
  ·exact h1.defs r e
  ·refine ⟨by rw [d9,if_pos rfl],h.size,?_⟩
   cases e:G.lim w.heap.size with
   |none=>rfl
   |some L=>have:=rV h e;omega
theorem tS (w:World) (g:Nat) (o:Obj):Part g w (w.putObj g o):=kV w g o
theorem DP {f:AOpd} {g:FuncId} {first cap:List AV} {ps:List Nat} {x y:ACode} (hf:f.ev env = .func g first cap)
  (h:cW P hh (.call g (first++[.yield σ.length]++cap) (σ++[.loop .ready none env ps x y])) R)
  (h1:∀ o,R o→∃ st pend env' ps' a' b',o.σ[σ.length]? = some (.loop st pend env' ps' a' b')∧st≠.busy∧Q ⟨pend,env,o.σ.set σ.length .dead,.undef⟩):cW P hh (.code (.rangeFunc f ps x y) env σ) Q:=by
 intro F n cd G w a B f1 f2 f3 f4 f5 f6
 obtain ⟨fo,pa,c,d,rfl,c1,c2,c3,rfl,c5,c6,c7⟩:=LG f2
 have hF:F=Fence.wide:=by
  rcases f1 with h|⟨l,_,h⟩
  ·exact h
  ·simp [o8] at h
 subst hF
 refine wpIn_rangeFunc fun fn _=>?_
 obtain ⟨hD,heD⟩:=f4.newDef
 obtain ⟨GD,hGD⟩:∃ GD:Gh,GD={ G with defs:=fun z=>G.defs z∨z=w.heap.size }:=⟨_,rfl⟩
 rw [←hGD] at hD heD
 obtain ⟨rec,hrec⟩:∃ rec:Loop,rec={ state:=.ready,pending:=none,fn,tmps:=a.tmps,params:=pa,assign:=c,body:=d,defers:=w.heap.size }:=⟨_,rfl⟩
 have hED:=f3.mono heD
 obtain ⟨hL,heL⟩:=uZ (o:=.loop rec) hD (x:=.loop .ready none env pa.toList x y) fun G' he' =>
  ⟨rec,n,by rw [d9,if_pos rfl],by rw [hrec];rfl,by rw [hrec];rfl,by rw [hrec],by rw [hrec];exact c2,by rw [hrec];exact c3,c5,by rw [show rec.tmps=a.tmps by rw [hrec]];exact hED.mono he',by rw [hrec];exact ⟨c6,c7⟩⟩
 rw [show (w.alloc (.deferred (some []))).heap.size=w.heap.size+1 from by simp] at hL heL
 have hr:=cI (a:=a) c1 f3
 rw [hf] at hr
 have heGL:=heD.trans heL
 have hr2:=hr.mono heGL
 generalize hfu:a.eval fo=fu at hr2
 cases hr2 with
 |@func _ _ _ first' cap' e1 e2 e3 e4 =>
  refine ⟨w.heap.size+1,[DM w.heap.size],(w.alloc (.deferred (some []))).alloc (.loop rec),{ target:=.fn (.func g) cap',args:=first'++#[.func (.yield (w.heap.size+1)) #[] #[]] },(w.alloc (.deferred (some []))).alloc (.loop rec),g,
   first'++#[.func (.yield (w.heap.size+1)) #[] #[]]++cap',(w.alloc (.deferred (some []))).alloc (.loop rec),?_,?_,fun _ _=>trivial,?_,(fun h0=>by cases h0),?_⟩
  ·rw [hrec];exact run_enterLoop_outer _ _ _ _ _
  ·simp only [resolve,rangeCall]
   rw [hfu]
   simp [Deferred.ofValue,Act.eval]
  ·simp [invoke,h.1]
  ·have hargs:fU (GD.withLoc σ.length (w.heap.size+1)) ((w.alloc (.deferred (some []))).alloc (.loop rec)) (first++[.yield σ.length]++cap) (first'++#[.func (.yield (w.heap.size+1)) #[] #[]]++cap'):=by
    refine fU.append (fU.append ⟨e1,e3⟩ ⟨rfl,fun i z u q1 q2=>?_⟩) ⟨e2,e4⟩
    match i with
    |0=>simp at q1 q2;subst q1;subst q2;exact .yield eI
    |_+1=>simp at q1
   refine (h.2 hargs hL).mono fun e w3 hr3=>?_
   obtain ⟨o,G3,u,rfl,q1,q2,q3,q4⟩:=hr3
   obtain ⟨st,pend,env',ps',a',b',s1,s2,s3⟩:=h1 o q1
   have hloc:G3.loc σ.length=some (w.heap.size+1):=q4.loc _ _ eI
   obtain ⟨l,k,l1,l2,l3,l4⟩:=q3.blk _ _ _ hloc s1
   have hst:l.state≠.busy:=by
    rw [l2]
    cases st<;>simp [aBE] at s2 ⊢
   have hend:=run_endLoop (P:=P) l1 hst
   have hw:=q3.write (y:=.dead) hloc (tS w3 (w.heap.size+1) (.loop { l with state:=.exhausted })) s1 (fun _ _ _ e=>by cases e) trivial
   refine ⟨_,_,hend,?_⟩
   have hevo:=(heGL.trans q4).trans hw.2
   have hmarks:qI G3 B ({ a with defers:=[DM w.heap.size]++a.defers }:Act).defers:=by
    obtain ⟨rs,m1,m2,m3⟩:=f5
    refine ⟨w.heap.size::rs,by simp [m1],List.nodup_cons.2 ⟨fun hm=>?_,m2⟩,fun r hr=>?_⟩
    ·have:=(Array.getElem?_eq_some_iff.1 (f4.defs _ (m3 _ hm).1).1).1
     omega
    ·rcases List.mem_cons.1 hr with rfl|hr
     ·exact ⟨(heL.trans q4).defs _ (by rw [hGD];exact .inr rfl),f6⟩
     ·exact ⟨hevo.defs _ (m3 r hr).1,(m3 r hr).2⟩
   have hpost:rC P hh G w n B Q (OR pend) { a with defers:=[DM w.heap.size]++a.defers } (w3.putObj (w.heap.size+1) (.loop { l with state:=.exhausted })) :=
    ⟨_,G3,s3,rfl,f3.mono hevo,hw.1,hevo,hmarks⟩
   rw [l3] at hpost ⊢
   cases pend with
   |none=>exact hpost
   |some j =>
    cases j with
    |ret=>exact wpIn_ret hpost
    |exit id=>exact wpIn_exit hpost
theorem CP:∀ {ps:List Nat} {args:List AV} {us:List Value} {env:Env} {tmps:Array Value},ps.length=args.length→us.length=args.length→(∀ p∈ps,p<n) →
  (∀ (i:Nat) (x:AV) (u:Value),args[i]? = some x→us[i]? = some u→RelV G w x u)→eT G w n env tmps →
  eT G w n (pR env ps args) ((ps.zip us).foldl (fun tmps (t,a)=>tmps.setIfInBounds t a) tmps)
 |[],[],us,env,tmps,_,_,_,_,hE=>by simpa [pR] using hE
 |[],_::_,us,env,tmps,h,_,_,_,_=>by simp at h
 |_::_,[],us,env,tmps,h,_,_,_,_=>by simp at h
 |p::ps,v::args,[],env,tmps,_,h,_,_,_=>by simp at h
 |p::ps,v::args,u::us,env,tmps,h1,h2,h3,h4,hE=>by
  simp only [pR,List.zip_cons_cons,List.foldl_cons]
  refine CP (by simpa using h1) (by simpa using h2) (fun q hq=>h3 q (List.mem_cons_of_mem _ hq)) (fun i x u e1 e2=>h4 (i+1) x u (by simpa using e1) (by simpa using e2)) ?_
  exact hE.put (a:={ tmps:=tmps,defers:=[] }) (dst:=some p) (fun d e=>by cases e;exact h3 p (by simp)) (h4 0 v u rfl rfl)
theorem IU {r:Nat} {o o':Obj} (hb:w.heap[r]? = some o):(w.putObj r o').heap[r]? = some o':=tC hb
theorem K5 {id:Nat} {args:List AV} {ps:List Nat} {x y:ACode} (hl:σ[id]? = some (.loop .ready none env ps x y)) (hn:ps.length=args.length) (h:cW P hh (.code x (pR env ps args) σ) R)
  (h0:∀ o,R o→o.j=none∧o.σ[id]? = some (.loop .ready none env ps x y)) (h1:∀ o,R o→cW P hh (.code y o.env (o.σ.set id (.loop .busy none env ps x y))) S)
  (h2:∀ o,S o→o.σ[id]? = some (.loop .busy none env ps x y)∧Q ⟨none,[],o.σ.set id (.loop (if o.j=none then .ready else .done) o.j env ps x y),.bool (decide (o.j=none))⟩) :
  cW P hh (.callv (.yield id) args σ) Q:=by
 intro G w fv vs hf ha hS
 cases hf with
 |@yield _ b hloc =>
  obtain ⟨l,n,l1,l2,l3,l4,l5,l6,l7,l8,l9,l10⟩:=hS.blk _ _ _ hloc hl
  have hy:=run_yield (P:=P) (args:=#[]++vs) l1 (by have:=ha.1;rw [←l4] at hn;simp at hn ⊢;omega)
  refine ⟨{ target:=.fn (.yield b) #[],args:=#[]++vs },_,w,by simp [Deferred.ofValue],by simp only [invoke];exact hy,fun {F} o a next Qx hF hnext=>?_⟩
  rw [Oper.uponIn_round]
  refine ⟨fun e=>absurd e hF.depth,hF.round ?_⟩
  have htm:((l.params.zip (#[]++vs)).foldl (fun tmps (t,a)=>tmps.setIfInBounds t a) l.tmps)=((ps.zip vs.toList).foldl (fun tmps (t,a)=>tmps.setIfInBounds t a) l.tmps):=by
   rw [←Array.foldl_toList,Array.toList_zip,←l4]
   simp
  rw [htm]
  have hE:=CP (G:=G) (w:=w) (env:=env) (tmps:=l.tmps) hn (us:=vs.toList) (by simpa using ha.1) l7 (fun i z u e1 e2=>ha.2 i z u e1 (by simpa using e2)) l8
  refine roundIn_of_wpIn trivial (wpIn_mono (h (F:=Fence.wide.inRound b) (cd:=l.assign) (n:=n) (G:=G) (w:=w) (a:={ tmps:=(ps.zip vs.toList).foldl (fun tmps (t,a)=>tmps.setIfInBounds t a) l.tmps,defers:=[] }) (B:=w.heap.size)
   (.inr ⟨b,rfl,l9⟩) l5 hE hS ⟨[],rfl,List.nodup_nil,fun r hr=>by cases hr⟩ (Nat.le_refl _)).wpIn fun e a1 w1 hp=>?_)
  obtain ⟨o1,G1,q1,rfl,q3,q4,q5,q6⟩:=hp
  obtain ⟨j0,s0⟩:=h0 o1 q1
  rw [j0]
  have hloc1:=q5.loc _ _ hloc
  obtain ⟨r,n1,r1,r2,r3,r4,r5,r6,r7,r8,r9,r10⟩:=q4.blk _ _ _ hloc1 s0
  refine ⟨_,run_beginRound r1 r2,?_⟩
  have hp1:=tS w1 b (.loop { r with state:=.busy })
  have hev1:Evo G1 w1 G1 (w1.putObj b (.loop { r with state:=.busy })):=oE hp1 (q4.fresh _ _ hloc1).2.2.1
  have hw1:=q4.write (y:=.loop .busy none env ps x y) hloc1 hp1 s0 (fun _ _ _ e=>by cases e)
   ⟨{ r with state:=.busy },n1,IU r1,rfl,r3,r4,r5,r6,r7,r8.mono hev1,r9,r10⟩
  -- the body is the record's,from the first look on
  have hbody:comp P hh n l.body=some y:=l6
  refine wpIn_mono (h1 o1 q1 (F:=Fence.wide.inRound b) (cd:=l.body) (n:=n) (G:=G1) (w:=w1.putObj b (.loop { r with state:=.busy })) (a:=a1) (B:=w.heap.size)
   (.inr ⟨b,rfl,l10⟩) hbody (q3.mono hev1) hw1.1 (q6.mono hev1.defs) (Nat.le_trans q5.size hev1.size)).wpIn fun e2 a2 w2 hp2=>?_
  obtain ⟨o2,G2,p1,rfl,p3,p4,p5,p6⟩:=hp2
  obtain ⟨t0,tq⟩:=h2 o2 p1
  have hev2:=(q5.trans hev1).trans p5
  have hloc2:=hev2.loc _ _ hloc
  obtain ⟨z,n2,z1,z2,z3,z4,z5,z6,z7,z8,z9,z10⟩:=p4.blk _ _ _ hloc2 t0
  have fin:∀ (jump:Option Code),jump=o2.j.map NB→∃ v w',(Instr.endRound b jump).run P w2 = .ok v w'∧∃ v',Ending.returned v = .returned v'∧next (a.put o.dst v') w':=by
   intro jump hj
   have hp2:=tS w2 b (.loop { z with state:=if jump.isNone then .ready else .done,pending:=jump })
   have hev3:Evo G2 w2 G2 (w2.putObj b (.loop { z with state:=if jump.isNone then .ready else .done,pending:=jump })):=oE hp2 (p4.fresh _ _ hloc2).2.2.1
   have hnone:jump.isNone=decide (o2.j=none):=by rw [hj];cases o2.j<;>rfl
   have hw2:=p4.write (y:=.loop (if o2.j=none then .ready else .done) o2.j env ps x y) hloc2 hp2 t0 (fun _ _ _ e=>by cases e)
    ⟨{ z with state:=if jump.isNone then .ready else .done,pending:=jump },n2,IU z1,by
     simp only [hnone]
     by_cases hq:o2.j=none<;>simp [hq,aBE],hj,z4,z5,z6,z7,z8.mono hev3,z9,z10⟩
   refine ⟨_,_,run_endRound jump z1,_,rfl,?_⟩
   refine hnext _ G2 _ (.bool jump.isNone) tq ?_ hw2.1 (hev2.trans hev3)
   rw [hnone]
   exact .bool _
  cases hj:o2.j with
  |none =>
   obtain ⟨v,w3,g1,v',g2,g3⟩:=fin none (by rw [hj];rfl)
   cases g2
   exact ⟨v,w3,g1,g3⟩
  |some j =>
   cases j with
   |ret =>
    obtain ⟨v,w3,g1,v',g2,g3⟩:=fin (some .ret) (by rw [hj];rfl)
    cases g2
    exact ⟨v,w3,g1,g3⟩
   |exit id' =>
    obtain ⟨v,w3,g1,v',g2,g3⟩:=fin (some (.exit id')) (by rw [hj];rfl)
    cases g2
    exact ⟨v,w3,g1,g3⟩
theorem eT.same {tmps:Array Value} (h:eT G w n env' tmps) (he:∀ t,Env.get env t=Env.get env' t):eT G w n env tmps:=⟨h.1,fun t=>by rw [he];exact h.2 t⟩
theorem LL {c:ACode} (he:∀ t,Env.get env t=Env.get env' t) (h:cW P hh (.code c env' σ) Q):cW P hh (.code c env σ) Q:=by
 intro F n cd G w a B f1 f2 f3 f4 f5 f6
 exact h f1 f2 (f3.same fun t=>(he t).symm) f4 f5 f6
theorem K3 {os:List AOper} (he:∀ t,Env.get env t=Env.get env' t) (h:cW P hh (.ops os env' σ) Q):cW P hh (.ops os env σ) Q:=by
 intro F n ops l G w a B R f1 f2 f3 f4 f5 f6
 exact h f1 f2 (f3.same fun t=>(he t).symm) f4 f5 f6
theorem P7 {c:ACode} (he:∀ t,Env.get env' t = .undef∨Env.get env' t=Env.get env t∨Env.get env' t=clr (Env.get env t)) (h:cW P hh (.code c env' σ) Q):cW P hh (.code c env σ) Q:=by
 intro F n cd G w a B f1 f2 f3 f4 f5 f6
 refine h f1 f2 ⟨f3.1,fun t=>?_⟩ f4 f5 f6
 rcases he t with e|e|e
 ·rw [e];exact .undef _
 ·rw [e];exact f3.2 t
 ·rw [e];exact (f3.2 t).clr
theorem aG7 {T:FuncId→Option AFunc} (hT:∀ f af,T f=some af→∃ fn,P.funcs[f]? = some fn∧aD P hh fn=some af) {t:Task} (h:Run T t Q):cW P hh t Q:=by
 induction h with
 |mono _ hq ih=>exact OS ih hq
 |skip h=>exact O3 h
 |jump h=>exact O8 h
 |seq _ _ h2 ih ih1=>exact U4 ih ih1 h2
 |cond b hc _ ih=>exact PP b hc ih
 |block _ h1 ih=>exact MZ ih h1
 |loop _ _ h2 ih ih1=>exact O2 ih ih1 h2
 |scope _ ih=>exact MK ih
 |reg _ ih=>exact UZ ih fun _ _=>trivial
 |dreg _ ih=>exact P0 ih
 |rangeFunc hf _ h1 ih=>exact DP hf ih h1
 |trim _ h1 ih=>exact PJ ih h1
 |trim2 _ h1 ih=>exact LX ih h1
 |frame hf h0 _ h1 ih=>exact MM hf h0 ih h1
 |frameS hf h0 _ h1 ih=>exact I9 hf h0 ih h1
 |chainNil h=>exact EI h
 |chainCons _ _ h2 ih ih1=>exact BZ ih ih1 h2
 |chain _ h1 h2 _ ih ih1=>exact LH ih h1 h2 ih1
 |ghost t sz xs ht _ ih=>exact LK t sz xs ht ih
 |reenv he _ ih=>exact LL he ih
 |weak he _ ih=>exact P7 he ih
 |reops he _ ih=>exact K3 he ih
 |nil h=>exact Q9 h
 |off hw _ ih=>exact RY hw ih
 |step hw ha _ ih=>exact QZ hw ha ih
 |stepc hw ho _ _ ih ih1=>exact MI hw ho ih ih1
 |stepm hw ho hx hl he hn _ _ ih0 ih1=>exact K8 hw ho hx hl he hn ih0 ih1
 |dnil hr h=>exact P5 hr h
 |doff hw _ ih=>exact OT hw ih
 |dalloc hw ho _ ih=>exact KE hw ho ih
 |dpure hw hk ha _ ih=>exact KV hw hk ha ih
 |dread hw hk ha _ ih=>exact LY hw hk ih
 |dact hw hk ha _ ih=>exact PM hw hk ha ih
 |dcall hw ho _ _ ih ih1=>exact LB hw ho ih ih1
 |callf _ ih=>exact EC ih
 |round hl hn _ h0 _ h2 ih ih1=>exact K5 hl hn ih h0 ih1 h2
 |call hf hn _ h1 ih=>exact PK hT hf hn ih h1
end Go.Am
namespace Go.Am
variable {P:Program} {hh:String→Bool}
def Gh.start (w:World):Gh:=⟨fun _=>none,fun _=>none,fun _=>none,fun _=>none,fun _=>False,w.heap.size,w.heap,fun _=>none⟩
end Go.Am
namespace Go.Am
open Go.ChangeShapes Go.WideShapes Go.ChangeAt Go.RowKit
variable {P:Program} {hh:String→Bool} {H:Type} {enc:TypeId×Value→H} {w:World} {sp:Nat→Bool} {held:Bool}
def mkV (P:Program) (t:TypeId) (cs:List AV):AV:=match P.underlying t with
 |some (.struct _)=>.agg cs
 |some (.array _ _)=>.agg cs
 |_=>cs.headD .undef
def Typ (P:Program):Nat→TypeId→List AV→Prop
 |0,_,_=>False
 |n+1,t,cs =>
  match P.underlying t with
  |some .bool=>∃ b,cs=[.bool b]
  |some (.int k)=>∃ m,cs=[.int k m]∧(Lit.int k m).wf=true
  |some .string=>∃ s:ByteArray,cs=[.str s]∧s.size≤maxLen
  |some (.slice e)=>∃ ys:List (List AV),cs=[.lit (ys.map (mkV P e)) false none]∧(ys.length≤maxLen∧ys.length*P.bytesOf e≤reachBytes)∧∀ y∈ys,Typ P n e y
  |some (.struct fs)=>∃ parts:List (List AV),cs=parts.flatten∧parts.length=fs.toList.length∧∀ (i:Nat) f p,fs.toList[i]? = some f→parts[i]? = some p→Typ P n f.type p
  |some (.array k e)=>∃ parts:List (List AV),cs=parts.flatten∧parts.length=k∧∀ p∈parts,Typ P n e p
  |_=>False
def MN (P:Program):Nat→TypeId→Bool
 |0,_=>false
 |n+1,t =>
  match P.underlying t with
  |some .bool|some (.int _)|some .string=>true
  |some (.slice e)=>decide (0<P.cellsOf e)&&MN P n e
  |some (.struct fs)=>fs.toList.all fun f=>MN P n f.type
  |some (.array _ e)=>MN P n e
  |_=>false
def RT (w:World) (b:Nat):Option Nat:=match w.heap[b]? with
 |some (.cells vs _ _)=>some vs.size
 |_=>none
noncomputable def CR (w:World):Gh:=(Gh.start w).fresh0 w (RT w) fun b=>∃ L,RT w b=some L
theorem VH (w:World):RelS P hh (CR w) w []:=wL fun b L e=>by
 refine ⟨⟨L,e⟩,?_⟩
 unfold RT at e
 split at e
 ·rename_i vs T fr h
  simp only [Option.some.injEq] at e
  exact ⟨vs,T,fr,h,by omega⟩
 ·cases e
def w7 (G:Gh) (w:World) (az:List AV) (cs:List Value):Prop:=az.length=cs.length∧∀ (i:Nat) a v,az[i]? = some a→cs[i]? = some v→RelV G w a v
theorem w7.nil {G:Gh}:w7 G w [] []:=⟨rfl,by simp⟩
theorem w7.app {G:Gh} {az bs:List AV} {cs ds:List Value} (h:w7 G w az cs) (k:w7 G w bs ds):w7 G w (az++bs) (cs++ds):=by
 refine ⟨by simp [h.1,k.1],fun i a v e1 e2=>?_⟩
 by_cases hi:i<az.length
 ·rw [List.getElem?_append_left hi] at e1
  rw [List.getElem?_append_left (by rw [←h.1];exact hi)] at e2
  exact h.2 i a v e1 e2
 ·rw [List.getElem?_append_right (by omega)] at e1
  rw [List.getElem?_append_right (by rw [←h.1];omega),←h.1] at e2
  exact k.2 _ a v e1 e2
theorem w7.one {G:Gh} {a:AV} {v:Value} (h:RelV G w a v):w7 G w [a] [v]:=⟨rfl,fun i x u e1 e2=>by
 cases i with
 |zero=>simp at e1 e2;subst e1;subst e2;exact h
 |succ i=>simp at e1⟩
theorem O5 {n:Nat} {t:TypeId} {cs:List AV} (h:Typ P n t cs):(mkV P t cs).cells=cs:=by
 cases n with
 |zero=>exact h.elim
 |succ n =>
  simp only [Typ] at h
  unfold mkV
  split at h
  ·rename_i hu;rw [hu];obtain ⟨b,rfl⟩:=h;rfl
  ·rename_i hu;rw [hu];obtain ⟨b,rfl,_⟩:=h;rfl
  ·rename_i hu;rw [hu];obtain ⟨b,rfl,_⟩:=h;rfl
  ·rename_i hu;rw [hu];obtain ⟨b,rfl,_⟩:=h;rfl
  ·rename_i hu;rw [hu];rfl
  ·rename_i hu;rw [hu];rfl
  ·exact h.elim
theorem RG {a:Addr} {v:Value} (h:w.cell? a=some v) (n:Nat):a.add n=⟨a.block,a.off+n,none⟩:=by
 have hs:a.spot=none:=by
  unfold World.cell? at h
  split at h
  ·split at h
   ·cases h
   ·rename_i hs;simpa using hs
  ·cases h
 obtain ⟨b,o,s⟩:=a
 simp only at hs
 subst hs
 unfold Addr.add
 split
 ·rename_i h0;simp [h0]
 ·rfl
theorem V5 {b o:Nat} {v:Value} (h:w.cell? ⟨b,o,none⟩=some v):∃ L,RT w b=some L∧o<L:=by
 unfold World.cell? at h
 split at h
 ·rename_i c T fr hb
  refine ⟨c.size,by simp only at hb;simp [RT,hb],?_⟩
  simp at h
  exact (Array.getElem?_eq_some_iff.1 h).1
 ·cases h
theorem TI {G:Gh} {n:Nat} {cs:List Value}:∀ (fl:List Field) (o:Nat),(∀ (j:Nat) f,fl[j]? = some f→f.offset=o+((fl.take j).map fun f=>P.cellsOf f.type).sum)→cs.length=o+(fl.map fun f=>P.cellsOf f.type).sum →
  (∀ f∈fl,∃ az,Typ P n f.type az∧w7 G w az ((cs.drop f.offset).take (P.cellsOf f.type))) →
  ∃ parts:List (List AV),parts.length=fl.length∧(∀ (i:Nat) f p,fl[i]? = some f→parts[i]? = some p→Typ P n f.type p)∧w7 G w parts.flatten (cs.drop o)
 |[],o,_,hl,_=>⟨[],rfl,by simp,by
   have:cs.drop o=[]:=List.drop_of_length_le (by simp at hl;omega)
   rw [this];exact .nil⟩
 |f::fl,o,ho,hl,ht=>by
  have h0:=ho 0 f rfl
  simp only [List.take_zero,List.map_nil,List.sum_nil,Nat.add_zero] at h0
  simp only [List.map_cons,List.sum_cons] at hl
  obtain ⟨az,h1,h2⟩:=ht f (by simp)
  obtain ⟨parts,q1,q2,q3⟩:=TI fl (o+P.cellsOf f.type) (fun j g hj=>by
   have:=ho (j+1) g (by simpa using hj)
   simp only [List.take_succ_cons,List.map_cons,List.sum_cons] at this
   omega) (by omega) fun g hg=>ht g (List.mem_cons_of_mem _ hg)
  refine ⟨az::parts,by simp [q1],fun i g p e1 e2=>?_,?_⟩
  ·cases i with
   |zero=>simp at e1 e2;subst e1;subst e2;exact h1
   |succ i=>exact q2 i g p (by simpa using e1) (by simpa using e2)
  ·rw [List.flatten_cons]
   have e:cs.drop o=(cs.drop o).take (P.cellsOf f.type)++cs.drop (o+P.cellsOf f.type):=by
    rw [←List.drop_drop,List.take_append_drop]
   rw [e]
   rw [h0] at h2
   exact h2.app q3
theorem ZN {G:Gh} {m:Nat} {e:TypeId} {cs:List Value}:∀ (n o:Nat),cs.length=o+n*P.cellsOf e →
  (∀ i,i<n→∃ az,Typ P m e az∧w7 G w az ((cs.drop (o+i*P.cellsOf e)).take (P.cellsOf e)))→∃ parts:List (List AV),parts.length=n∧(∀ p∈parts,Typ P m e p)∧w7 G w parts.flatten (cs.drop o)
 |0,o,hl,_=>⟨[],rfl,by simp,by
   have:cs.drop o=[]:=List.drop_of_length_le (by simp at hl;omega)
   rw [this];exact .nil⟩
 |n+1,o,hl,ht=>by
  obtain ⟨az,h1,h2⟩:=ht 0 (by omega)
  rw [Nat.zero_mul,Nat.add_zero] at h2
  rw [Nat.add_mul,Nat.one_mul] at hl
  obtain ⟨parts,q1,q2,q3⟩:=ZN (e:=e) (cs:=cs) (m:=m) n (o+P.cellsOf e) (by omega) fun i hi=>by
   obtain ⟨az,k1,k2⟩:=ht (i+1) (by omega)
   rw [Nat.add_mul,Nat.one_mul,Nat.add_comm (i*_),←Nat.add_assoc] at k2
   exact ⟨az,k1,k2⟩
  refine ⟨az::parts,by simp [q1],fun p hp=>?_,?_⟩
  ·rcases List.mem_cons.1 hp with rfl|hp
   ·exact h1
   ·exact q2 p hp
  ·rw [List.flatten_cons]
   have e1:cs.drop o=(cs.drop o).take (P.cellsOf e)++cs.drop (o+P.cellsOf e):=by
    rw [←List.drop_drop,List.take_append_drop]
   rw [e1]
   exact h2.app q3
theorem zX {α:Type} {Q:Nat→α→Prop}:∀ n,(∀ i,i<n→∃ x,Q i x)→∃ l:List α,l.length=n∧∀ (i:Nat) x,l[i]? = some x→Q i x
 |0,_=>⟨[],rfl,by simp⟩
 |n+1,h=>by
  obtain ⟨l,h1,h2⟩:=zX n fun i hi=>h i (by omega)
  obtain ⟨x,hx⟩:=h n (by omega)
  refine ⟨l++[x],by simp [h1],fun i y e=>?_⟩
  by_cases hi:i<l.length
  ·rw [List.getElem?_append_left hi] at e;exact h2 i y e
  ·rw [List.getElem?_append_right (by omega)] at e
   have:i-l.length=0:=by
    by_cases h0:i-l.length=0
    ·exact h0
    ·rw [List.getElem?_eq_none (by simp;omega)] at e;cases e
   rw [this] at e
   simp at e
   subst e
   rw [show i=n by omega];exact hx
theorem pF (hl:laidOutB P=true):∀ (n m:Nat) (t:TypeId) (cs:List Value) (x:DataW H×List MemPlace),t<P.types.size→MN P n t=true→DataW.trod enc P w 0 sp held m t cs=some x→(∀ k∈x.1.weights P t,k≤reachBytes) →
  ∃ az,Typ P n t az∧w7 (CR w) w az cs
 |0,m,t,cs,x,_,ho,_,_=>by simp [MN] at ho
 |n+1,m,t,cs,x,ht,ho,h,hwt=>by
  simp only [MN] at ho
  split at ho
  ·rename_i hu
   obtain ⟨b,rfl,_⟩:=DataW.trod_bool hu h
   exact ⟨[.bool b],by simp only [Typ,hu];exact ⟨b,rfl⟩,.one (.bool b)⟩
  ·rename_i k hu
   obtain ⟨b,rfl,_,hw⟩:=DataW.trod_int hu h
   exact ⟨[.int k b],by simp only [Typ,hu];exact ⟨b,rfl,hw⟩,.one (.int k b)⟩
  ·rename_i hu
   obtain ⟨s,rfl,_,hs⟩:=DataW.trod_string hu h
   exact ⟨[.str s],by simp only [Typ,hu];exact ⟨s,rfl,hs⟩,.one (.str s)⟩
  ·rename_i e hu
   simp only [Bool.and_eq_true,decide_eq_true_eq] at ho
   rcases DataW.trod_slice hu h with ⟨rfl,_⟩|⟨a,len,cap,elems,rest,m',_,rfl,hxe,_,hlc,hcm,hel,hei,_,_⟩
   ·refine ⟨[.lit [] false none],by simp only [Typ,hu];exact ⟨[],rfl,⟨by simp,by simp⟩,by simp⟩,.one (.nil ⟨Nat.le_refl _,(fun e=>by cases e),(fun t e=>by cases e)⟩ fun _=>rfl)⟩
   ·
    have hws:∀ k∈x.1.weights P t,k≤reachBytes:=hwt
    rw [hxe] at hws
    simp only [DataW.weights,hu,List.mem_cons,List.mem_append,List.length_map] at hws
    have hwl:len*P.bytesOf e≤reachBytes:=by
     have h1:=hws _ (.inl rfl)
     rw [hel] at h1
     exact Nat.le_trans (Nat.mul_le_mul_right _ (Nat.le_add_right _ _)) h1
    have hwe:∀ (d:DataW H),d∈elems.map (·.1)→∀ k∈d.weights P e,k≤reachBytes:=by
     have key:∀ (l:List (DataW H)) (d:DataW H),d∈l→∀ k∈d.weights P e,k∈DataW.weightsAll P e l:=by
      intro l
      induction l with
      |nil=>intro d hd;cases hd
      |cons a l ih =>
       intro d hd k hk
       simp only [DataW.weightsAll,List.mem_append]
       rcases List.mem_cons.1 hd with rfl|hd
       ·exact .inl hk
       ·exact .inr (ih d hd k hk)
     exact fun d hd k hk=>hws k (.inr (.inl (key _ d hd k hk)))
    have hel2:∀ i,i<len→∃ y,Typ P n e y∧∃ vs,w.cells? 0 (a.add (i*P.cellsOf e)) (P.cellsOf e)=some vs∧w7 (CR w) w y vs:=by
     intro i hi
     have h1:=hei i hi
     rw [List.getElem?_eq_getElem (by omega),Option.bind_eq_some_iff] at h1
     obtain ⟨vs,q1,q2⟩:=h1
     obtain ⟨y,q3,q4⟩:=pF hl n m' e vs _ (kid_slice hl ht hu) ho.2 q2 (hwe _ (List.mem_map.2 ⟨_,List.getElem_mem (by omega),rfl⟩))
     exact ⟨y,q3,vs,q1,q4⟩
    obtain ⟨ys,hyl,hys⟩:=zX len hel2
    refine ⟨[.lit (ys.map (mkV P e)) false none],by
     simp only [Typ,hu]
     refine ⟨ys,rfl,⟨by omega,by rw [hyl];exact hwl⟩,fun y hy=>?_⟩
     obtain ⟨i,hi⟩:=List.getElem?_of_mem hy
     exact (hys i y hi).1,.one ?_⟩
    by_cases h0:len=0
    ·subst h0
     obtain rfl:ys=[]:=List.eq_nil_of_length_eq_zero hyl
     exact .nil ⟨Nat.zero_le _,(fun e=>by cases e),(fun t e=>by cases e)⟩ fun e=>by cases e
    ·
     have hcell:∀ i j,i<len→j<P.cellsOf e→∃ v,w.cell? ((a.add (i*P.cellsOf e)).add j)=some v:=by
      intro i j hi hj
      obtain ⟨y,_,vs,q1,_⟩:=hel2 i hi
      simp only [World.cells?,Nat.zero_le,if_true] at q1
      have hlen:=mapM_some_length q1
      have:=mapM_some_get q1 j j (by simp [hj])
      rw [List.length_range] at hlen
      rw [List.getElem?_eq_getElem (by omega)] at this
      exact ⟨_,this⟩
     obtain ⟨v0,hv0⟩:=hcell 0 0 (by omega) ho.1
     rw [Nat.zero_mul] at hv0
     have ha0:a.add 0=a:=by simp [Addr.add]
     rw [ha0,ha0] at hv0
     have hplain:∀ i,a.add i=⟨a.block,a.off+i,none⟩:=RG hv0
     have hae:a=⟨a.block,a.off,none⟩:=by have:=hplain 0;rw [ha0] at this;simpa using this
     have hplain2:∀ i j,(a.add i).add j=⟨a.block,a.off+(i+j),none⟩:=by
      intro i j
      rw [hplain]
      unfold Addr.add
      split
      ·rename_i h;simp [h]
      ·simp [Nat.add_assoc]
     have hcell2:∀ i j,i<len→j<P.cellsOf e→∃ v,w.cell? ⟨a.block,a.off+(i*P.cellsOf e+j),none⟩=some v:=by
      intro i j hi hj
      have:=hcell i j hi hj
      rw [hplain2] at this
      exact this
     rw [hae,show len=(ys.map (mkV P e)).length by simp [hyl]]
     have hsz:∀ (i:Nat) (x:AV),(ys.map (mkV P e))[i]? = some x→∃ y,ys[i]? = some y∧x=mkV P e y∧x.cells=y:=by
      intro i x hx
      rw [List.getElem?_map] at hx
      cases hy:ys[i]? with
      |none=>rw [hy] at hx;cases hx
      |some y =>
       rw [hy] at hx
       simp at hx
       exact ⟨y,rfl,hx.symm,by rw [←hx,O5 (hys i y hy).1]⟩
     have hvl:∀ (i:Nat) y,ys[i]? = some y→y.length=P.cellsOf e:=by
      intro i y hy
      obtain ⟨_,vs,q1,q2⟩:=hys i y hy
      rw [q2.1]
      simp only [World.cells?,Nat.zero_le,if_true] at q1
      rw [mapM_some_length q1,List.length_range]
     refine .lit (sz:=P.cellsOf e) ⟨by simp;omega,(fun e=>by cases e),(fun t e=>by cases e)⟩ ⟨?_,(fun t e=>by cases e),fun i x hx=>?_,fun k hk=>?_⟩ fun i x j c u hx hc hu2=>?_
     ·obtain ⟨v,hv⟩:=hcell2 (len-1) (P.cellsOf e-1) (by omega) (by omega)
      obtain ⟨L,q1,q2⟩:=V5 hv
      refine ⟨L,q1,?_⟩
      rw [List.length_map,hyl]
      have:(len-1)*P.cellsOf e+P.cellsOf e=len*P.cellsOf e:=by
       rw [←Nat.succ_mul];congr 1;omega
      omega
     ·obtain ⟨y,q1,q2,q3⟩:=hsz i x hx
      rw [q3];exact hvl i y q1
     ·rw [List.length_map,hyl] at hk
      have hd:k/P.cellsOf e<len:=Nat.div_lt_of_lt_mul (by rw [Nat.mul_comm];exact hk)
      have hm:k%P.cellsOf e<P.cellsOf e:=Nat.mod_lt _ ho.1
      obtain ⟨v,hv⟩:=hcell2 _ _ hd hm
      have:k/P.cellsOf e*P.cellsOf e+k%P.cellsOf e=k:=by rw [Nat.mul_comm];exact Nat.div_add_mod _ _
      rw [this] at hv
      rw [hv];rfl
     ·obtain ⟨y,q1,q2,q3⟩:=hsz i x hx
      rw [q3] at hc
      obtain ⟨_,vs,p1,p2⟩:=hys i y q1
      have hjl:j<P.cellsOf e:=by
       rw [←hvl i y q1]
       exact (List.getElem?_eq_some_iff.1 hc).1
      simp only [World.cells?,Nat.zero_le,if_true] at p1
      have hg:=mapM_some_get p1 j j (by simp [hjl])
      rw [hplain2] at hg
      rw [hu2] at hg
      exact p2.2 j c u hc hg.symm
  ·rename_i fs hu
   rw [List.all_eq_true] at ho
   obtain ⟨xs,m',_,hxe,hcl,hxl,hf⟩:=DataW.trod_struct hu h
   obtain ⟨k1,k2,k3⟩:=kid_struct hl ht hu
   obtain ⟨parts,q1,q2,q3⟩:=TI (P:=P) (G:=CR w) (w:=w) (n:=n) (cs:=cs) fs.toList 0 (fun j f hj=>by rw [k3 j f hj];omega) (by rw [hcl,k2];omega) fun f hfm=>by
    obtain ⟨i,hi⟩:=List.getElem?_of_mem hfm
    have h1:=hf i f (by simpa using hi)
    have hil:i<xs.length:=by rw [hxl];have:=(List.getElem?_eq_some_iff.1 hi).1;simpa using this
    rw [List.getElem?_eq_getElem hil] at h1
    have hd:(xs.map (·.1))[i]? = some xs[i].1:=by rw [List.getElem?_map,List.getElem?_eq_getElem hil];rfl
    have hty:(fs.toList.map (·.type))[i]? = some f.type:=by rw [List.getElem?_map,hi];rfl
    refine pF hl n m' f.type _ _ (k1 f hfm) (ho f hfm) h1 fun k hk=>hwt k ?_
    rw [hxe]
    simp only [DataW.weights,hu]
    exact DataW.weights_mem_each hty hd k hk
   rw [List.drop_zero] at q3
   exact ⟨parts.flatten,by simp only [Typ,hu];exact ⟨parts,rfl,q1,q2⟩,q3⟩
  ·rename_i k e hu
   obtain ⟨xs,m',_,hxe,hcl,hxl,hf⟩:=DataW.trod_array hu h
   obtain ⟨k1,k2⟩:=kid_array hl ht hu
   have hwe:∀ (d:DataW H),d∈xs.map (·.1)→∀ q∈d.weights P e,q≤reachBytes:=by
    have key:∀ (l:List (DataW H)) (d:DataW H),d∈l→∀ q∈d.weights P e,q∈DataW.weightsAll P e l:=by
     intro l
     induction l with
     |nil=>intro d hd;cases hd
     |cons a l ih =>
      intro d hd q hq
      simp only [DataW.weightsAll,List.mem_append]
      rcases List.mem_cons.1 hd with rfl|hd
      ·exact .inl hq
      ·exact .inr (ih d hd q hq)
    intro d hd q hq
    refine hwt q ?_
    rw [hxe]
    simp only [DataW.weights,hu]
    exact key _ d hd q hq
   obtain ⟨parts,q1,q2,q3⟩:=ZN (P:=P) (G:=CR w) (w:=w) (m:=n) (e:=e) (cs:=cs) k 0 (by rw [hcl,k2];omega) fun i hi=>by
    have h1:=hf i hi
    have hil:i<xs.length:=by omega
    rw [List.getElem?_eq_getElem hil] at h1
    rw [Nat.zero_add]
    exact pF hl n m' e _ _ k1 ho h1 (hwe _ (List.mem_map.2 ⟨_,List.getElem_mem hil,rfl⟩))
   rw [List.drop_zero] at q3
   exact ⟨parts.flatten,by simp only [Typ,hu];exact ⟨parts,rfl,q1,q2⟩,q3⟩
  ·cases ho
theorem tY (hl:laidOutB P=true) (n:Nat) {t:TypeId} {v:Value} {d:DataW H} {ps:List MemPlace} (ht:t<P.types.size) (ho:MN P n t=true) (hv:Value.okWide P w .any 0 t v) (h:DataW.Trod enc P w 0 sp held t v d ps) (hwt:∀ k∈d.weights P t,k≤reachBytes) :
  ∃ az,Typ P n t az∧RelV (CR w) w (mkV P t az) v:=by
 obtain ⟨m,hm⟩:=h
 obtain ⟨az,h1,h2⟩:=pF hl n m t _ _ ht ho hm hwt
 refine ⟨az,h1,?_⟩
 have hone:∀ {a:AV},az=[a]→(∀ cs,v≠.agg cs)→RelV (CR w) w a v:=by
  rintro a rfl hx
  have hc:v.cells.toList=[v]:=by cases v<;>first|rfl|exact absurd rfl (hx _)
  rw [hc] at h2
  exact h2.2 0 a v rfl rfl
 cases n with
 |zero=>exact h1.elim
 |succ n =>
  unfold mkV
  simp only [Typ] at h1
  split at h1<;>rename_i hu
  ·obtain ⟨b,rfl⟩:=h1
   rw [hu]
   obtain ⟨c,hc⟩:=okWide_bool hu hv
   exact hone rfl (by rw [hc];intro cs e;cases e)
  ·obtain ⟨b,rfl,_⟩:=h1
   rw [hu]
   obtain ⟨c,hc⟩:=okWide_int hu hv
   exact hone rfl (by rw [hc];intro cs e;cases e)
  ·obtain ⟨b,rfl,_⟩:=h1
   rw [hu]
   obtain ⟨c,hc⟩:=okWide_string hu hv
   exact hone rfl (by rw [hc];intro cs e;cases e)
  ·obtain ⟨b,rfl,_⟩:=h1
   rw [hu]
   obtain ⟨_,_,_,hc⟩:=okWide_slice hu hv
   exact hone rfl (by rw [hc];intro cs e;cases e)
  ·rw [hu]
   unfold Value.okWide at hv
   rw [hu] at hv
   obtain ⟨cs,rfl,_,_⟩:=hv
   refine .agg ?_ fun i a u e1 e2=>?_
   ·have:=h2.1;simpa [Value.cells] using this.symm
   ·exact h2.2 i a u e1 (by simpa [Value.cells] using e2)
  ·rw [hu]
   unfold Value.okWide at hv
   rw [hu] at hv
   obtain ⟨cs,rfl,_,_⟩:=hv
   refine .agg ?_ fun i a u e1 e2=>?_
   ·have:=h2.1;simpa [Value.cells] using this.symm
   ·exact h2.2 i a u e1 (by simpa [Value.cells] using e2)
  ·exact h1.elim
theorem EA {T:FuncId→Option AFunc} (hT:∀ f af,T f=some af→∃ fn,P.funcs[f]? = some fn∧aD P hh fn=some af) {f:FuncId} {az:List AV} {vs:Array Value} {w:World} (ha:fU (CR w) w az vs) (h:Run T (.call f az []) fun o=>o.v = .bool true) :
  Calls P f vs w fun e w'=>e = .returned (.bool true)∧RowKit.Below w.heap.size w w':=by
 have hs:=aG7 hT h
 refine (callsIn_wide.1 (hs.2 (G:=CR w) (w:=w) (vs:=vs) ha (VH w))).mono fun e w' hr=>?_
 obtain ⟨r,G',u,rfl,q1,q2,q3,q4⟩:=hr
 rw [q1] at q2
 cases q2
 refine ⟨rfl,q4.os,q4.tape,q4.output,q4.size,fun k hk=>?_⟩
 have hB:G'.B0=w.heap.size:=q4.B0
 have hh0:G'.h0=(CR w).h0:=q4.h0
 rw [q3.base k (by rw [hB];exact hk),hh0]
 simp only [CR,Gh.fresh0]
 rw [Array.getElem?_append_left hk]
theorem HX {G:Gh}:fU G w [] #[]:=⟨rfl,by simp⟩
theorem sE {G:Gh} {a:AV} {v:Value} {az:List AV} {vs:List Value} (h:RelV G w a v) (hs:fU G w az vs.toArray):fU G w (a::az) (v::vs).toArray:=by
 refine ⟨by have:=hs.1;simp at this;simp [this],fun i x u e1 e2=>?_⟩
 cases i with
 |zero=>simp at e1 e2;subst e1;subst e2;exact h
 |succ i=>exact hs.2 i x u (by simpa using e1) (by simpa using e2)
def NW (P:Program) (n:Nat):List TypeId→List AV→Prop
 |[],cs=>cs=[]
 |t::ts,cs=>∃ a b,cs=a++b∧Typ P n t a∧NW P n ts b
theorem JR {n:Nat}:∀ (fl:List Field) (parts:List (List AV)),parts.length=fl.length→(∀ (i:Nat) f p,fl[i]? = some f→parts[i]? = some p→Typ P n f.type p)→NW P n (fl.map Field.type) parts.flatten
 |[],parts,hl,_=>by rw [List.length_eq_zero_iff.1 hl];rfl
 |f::fl,[],hl,_=>by simp at hl
 |f::fl,p::parts,hl,h=>⟨p,parts.flatten,rfl,h 0 f p rfl rfl,JR fl parts (by simpa using hl) fun i g q e1 e2=>h (i+1) g q (by simpa using e1) (by simpa using e2)⟩
theorem NA {n:Nat} {t:TypeId} {fs:Array Field} {cs:List AV} (hu:P.underlying t=some (.struct fs)) (h:Typ P (n+1) t cs):NW P n (fs.toList.map Field.type) cs:=by
 simp only [Typ,hu] at h
 obtain ⟨parts,rfl,h1,h2⟩:=h
 exact JR fs.toList parts h1 h2
theorem fJ {n:Nat} {t:TypeId} {k:IntKind} {cs:List AV} (hu:P.underlying t=some (.int k)) (h:Typ P (n+1) t cs):∃ m,cs=[.int k m]∧(Lit.int k m).wf=true:=by
 simp only [Typ,hu] at h;exact h
theorem OF {n:Nat} {t:TypeId} {cs:List AV} (hu:P.underlying t=some .string) (h:Typ P (n+1) t cs):∃ s:ByteArray,cs=[.str s]∧s.size≤maxLen:=by
 simp only [Typ,hu] at h;exact h
theorem mC {n:Nat} {t e:TypeId} {cs:List AV} {α:Type} {f:α→AV} {Q:α→Prop} (hu:P.underlying t=some (.slice e)) (h:Typ P (n+1) t cs) (hq:∀ y,Typ P n e y→∃ x,mkV P e y=f x∧Q x):∃ l:List α,cs=[.lit (l.map f) false none]∧(l.length<9223372036854775808∧l.length*P.bytesOf e≤reachBytes)∧∀ x∈l,Q x:=by
 simp only [Typ,hu] at h
 obtain ⟨ys,rfl,⟨h1,h1b⟩,h2⟩:=h
 have key:∀ ys:List (List AV),(∀ y∈ys,Typ P n e y)→∃ l:List α,ys.map (mkV P e)=l.map f∧l.length=ys.length∧∀ x∈l,Q x:=by
  intro ys
  induction ys with
  |nil=>intro _;exact ⟨[],rfl,rfl,by simp⟩
  |cons y ys ih =>
   intro hy
   obtain ⟨x,q1,q2⟩:=hq y (hy y (by simp))
   obtain ⟨l,q3,q4,q5⟩:=ih fun z hz=>hy z (List.mem_cons_of_mem _ hz)
   exact ⟨x::l,by simp [q1,q3],by simp [q4],fun z hz=>by
    rcases List.mem_cons.1 hz with rfl|hz
    ·exact q2
    ·exact q5 z hz⟩
 obtain ⟨l,q1,q2,q3⟩:=key ys h2
 exact ⟨l,by rw [q1],⟨by simp only [maxLen] at h1;omega,by rw [q2];exact h1b⟩,q3⟩
theorem L8 {t:TypeId} {fs:Array Field} {cs:List AV} (hu:P.underlying t=some (.struct fs)):mkV P t cs = .agg cs:=by simp [mkV,hu]
theorem WZ {t:TypeId} {a:AV} (hu:∀ fs,P.underlying t≠some (.struct fs)) (hu2:∀ k e,P.underlying t≠some (.array k e)):mkV P t [a]=a:=by
 unfold mkV
 split
 ·rename_i fs h;exact absurd h (hu fs)
 ·rename_i k e h;exact absurd h (hu2 k e)
 ·rfl
theorem J0 {m:Int} (h:(Lit.int .u8 m).wf=true):0≤m∧m<256:=by
 simp [Lit.wf,IntKind.min,IntKind.max,IntKind.signed,IntKind.bits] at h
 omega
end Go.Am
namespace Go.Am
variable {T:FuncId→Option AFunc}
def nK (r:Option (AV×St)) (K:AV→St→Prop):Prop :=
 match r with
 |some (v,σ)=>K v σ
 |none=>False
@[congr] theorem ZV {r r':Option (AV×St)} {K:AV→St→Prop} (h:r=r'):nK r K=nK r' K:=by rw [h]
@[simp] theorem aDN (v:AV) (σ:St) (K:AV→St→Prop):nK (some (v,σ)) K=K v σ:=rfl
@[simp] theorem aB4 (K:AV→St→Prop):nK none K=False:=rfl
@[simp] theorem aDR (c:Prop) [Decidable c] (r q:Option (AV×St)) (K:AV→St→Prop):nK (if c then r else q) K=if c then nK r K else nK q K:=by split<;>rfl
def B3 (v:AV) (A B:Unit→Prop):Prop :=
 match v with
 |.bool true=>A ()
 |.bool false=>B ()
 |_=>False
@[congr] theorem Z9 {v v':AV} {A B:Unit→Prop} (h:v=v'):B3 v A B=B3 v' A B:=by rw [h]
@[simp] theorem aAP (b:Bool) (A B:Unit→Prop):B3 (.bool b) A B=if b=true then A () else B ():=by cases b<;>rfl
def oU (v:AV) (want:Bool) (A B:Unit→Prop):Prop :=
 match v with
 |.bool b=>if b=want then A () else B ()
 |.tuple []=>B ()
 |_=>False
@[congr] theorem aAH {v v':AV} {want:Bool} {A B:Unit→Prop} (h:v=v'):oU v want A B=oU v' want A B:=by rw [h]
@[simp] theorem aA0 (b want:Bool) (A B:Unit→Prop):oU (.bool b) want A B=if b=want then A () else B ():=rfl
@[simp] theorem aDS (want:Bool) (A B:Unit→Prop):oU (.tuple []) want A B=B ():=rfl
def NO (T:FuncId→Option AFunc) (f:AV) (args:List AV) (σ:St) (K:AV→St→Prop):Prop:=Run T (.callv f args σ) fun r=>K r.v r.σ
@[congr] theorem Z5 {f f':AV} {args args':List AV} {σ σ':St} {K:AV→St→Prop} (h1:f=f') (h2:args=args') (h3:σ=σ'):NO T f args σ K=NO T f' args' σ' K:=by rw [h1,h2,h3]
def gS (T:FuncId→Option AFunc) (q:AOp) (e:Env) (σ:St) (K:AV→St→Prop):Prop :=
 match q with
 |.call f args=>NO T (f.ev e) (args.map (·.ev e)) σ K
 |q=>nK (aop q e σ) K
@[congr] theorem aAX {q:AOp} {e e':Env} {σ σ':St} {K:AV→St→Prop} (h2:e=e') (h3:σ=σ'):gS T q e σ K=gS T q e' σ' K:=by rw [h2,h3]
def aO (T:FuncId→Option AFunc):List AOper→Env→St→(Env→St→Prop)→Prop
 |[],e,σ,K=>K e σ
 |⟨dst,q,none⟩::os,e,σ,K=>gS T q e σ fun v σ'=>aO T os (Env.put e dst v) σ' K
 |⟨dst,q,some (t,want)⟩::os,e,σ,K =>
  oU (Env.get e t) want (fun _=>gS T q e σ fun v σ'=>aO T os (Env.put e dst v) σ' K) (fun _=>aO T os (Env.put e dst (.tuple [])) σ K)
@[congr] theorem ZO {os:List AOper} {e e':Env} {σ σ':St} {K:Env→St→Prop} (h2:e=e') (h3:σ=σ'):aO T os e σ K=aO T os e' σ' K:=by rw [h2,h3]
theorem qV {Q:Out→Prop}:∀ {os:List AOper} {e:Env} {σ:St} {K:Env→St→Prop},aO T os e σ K→(∀ e σ,K e σ→Q ⟨none,e,σ,.undef⟩)→Run T (.ops os e σ) Q
 |[],e,σ,K,h,hq=>.nil (hq _ _ h)
 |o::os,e,σ,K,h,hq=>by
  have key:o.wanted e=some true→gS T o.op e σ (fun v σ'=>aO T os (Env.put e o.dst v) σ' K)→Run T (.ops (o::os) e σ) Q:=by
   intro hw h
   by_cases hc:∃ f args,o.op = .call f args
   ·obtain ⟨f,args,ho⟩:=hc
    rw [ho] at h
    exact .stepc hw ho h fun r hr=>qV hr hq
   ·have:∃ v σ',aop o.op e σ=some (v,σ')∧aO T os (Env.put e o.dst v) σ' K:=by
     unfold gS at h
     split at h
     ·rename_i f args ho;exact absurd ⟨f,args,ho⟩ hc
     ·unfold nK at h
      split at h
      ·rename_i v σ' hv;exact ⟨v,σ',hv,h⟩
      ·exact h.elim
    obtain ⟨v,σ',h1,h2⟩:=this
    exact .step hw h1 (qV h2 hq)
  obtain ⟨dst,q,g⟩:=o
  cases g with
  |none=>exact key rfl h
  |some g =>
   obtain ⟨t,want⟩:=g
   simp only [aO,oU] at h
   split at h
   ·rename_i b h1
    split at h
    ·rename_i hb
     exact key (by simp [AOper.wanted,h1,hb]) h
    ·rename_i hb
     exact .off (by simp [AOper.wanted,h1];simpa using hb) (qV h hq)
   ·rename_i h1
    exact .off (by simp [AOper.wanted,h1]) (qV h hq)
   ·exact h.elim
abbrev KJ:=Option AJump→Env→St→Prop
def vJ (A K:KJ):KJ:=fun j e σ=>match j with|none=>A none e σ|some j=>K (some j) e σ
@[simp] theorem aC2 (A K:KJ) (e:Env) (σ:St):vJ A K none e σ=A none e σ:=rfl
@[simp] theorem aA1 (A K:KJ) (j:AJump) (e:Env) (σ:St):vJ A K (some j) e σ=K (some j) e σ:=rfl
def lL (id:Nat) (K:KJ):KJ:=fun j e σ=>match j with|some (.exit i)=>if i=id then K none e σ else K (some (.exit i)) e σ|j=>K j e σ
@[simp] theorem ZB (id:Nat) (K:KJ) (e:Env) (σ:St):lL id K none e σ=K none e σ:=rfl
@[simp] theorem aCI (id:Nat) (K:KJ) (e:Env) (σ:St):lL id K (some .ret) e σ=K (some .ret) e σ:=rfl
@[simp] theorem Y2 (id i:Nat) (K:KJ) (e:Env) (σ:St):lL id K (some (.exit i)) e σ=if i=id then K none e σ else K (some (.exit i)) e σ:=rfl
def MS (T:FuncId→Option AFunc) (c:ACode) (e:Env) (σ:St) (K:KJ):Prop:=Run T (.code c e σ) fun o=>K o.j o.env o.σ
@[congr] theorem aA6 {c:ACode} {e e':Env} {σ σ':St} {K:KJ} (h2:e=e') (h3:σ=σ'):MS T c e σ K=MS T c e' σ' K:=by rw [h2,h3]
def wp (T:FuncId→Option AFunc):ACode→Env→St→KJ→Prop
 |.skip,e,σ,K=>K none e σ
 |.reg os,e,σ,K=>aO T os e σ fun e σ=>K none e σ
 |.seq a b,e,σ,K=>wp T a e σ (vJ (fun _ e σ=>wp T b e σ K) K)
 |.cond c a b,e,σ,K=>B3 (c.ev e) (fun _=>wp T a e σ K) (fun _=>wp T b e σ K)
 |.block id b,e,σ,K=>wp T b e σ (lL id K)
 |.jump j,e,σ,K=>K (some j) e σ
 |.scope b,e,σ,K=>wp T b e σ K
 |c,e,σ,K=>MS T c e σ K
@[congr] theorem aFW {c:ACode} {e e':Env} {σ σ':St} {K:KJ} (h2:e=e') (h3:σ=σ'):wp T c e σ K=wp T c e' σ' K:=by rw [h2,h3]
theorem eQ {Q:Out→Prop}:∀ {c:ACode} {e:Env} {σ:St} {K:KJ},wp T c e σ K→(∀ o,K o.j o.env o.σ→Q o)→Run T (.code c e σ) Q:=by
 intro c
 induction c generalizing Q with
 |skip=>intro e σ K h hq;exact .skip (hq ⟨none,e,σ,.undef⟩ h)
 |reg os=>intro e σ K h hq;exact .reg (qV h fun e σ hk=>hq ⟨none,e,σ,.undef⟩ hk)
 |dreg ds=>intro e σ K h hq;exact .mono h hq
 |seq a b iha ihb =>
  intro e σ K h hq
  refine .seq (iha h fun o ho=>ho) (fun o ho hj=>?_) fun o ho hj=>?_
  ·simp only [hj,vJ] at ho
   exact ihb ho hq
  ·refine hq o ?_
   cases hj':o.j with
   |none=>exact absurd hj' hj
   |some j=>simp only [hj',vJ] at ho;exact ho
 |cond c a b iha ihb =>
  intro e σ K h hq
  simp only [wp,B3] at h
  split at h
  ·rename_i h1;exact .cond true h1 (iha h hq)
  ·rename_i h1;exact .cond false h1 (ihb h hq)
  ·exact h.elim
 |block id b ih =>
  intro e σ K h hq
  refine .block (ih h fun o ho=>ho) fun o ho=>hq _ ?_
  unfold lL at ho
  split at ho
  ·rename_i i hj
   split at ho
   ·rename_i hi;subst hi;rw [if_pos hj];exact ho
   ·rename_i hi;rw [if_neg (by rw [hj];simpa using hi),hj];exact ho
  ·rename_i hj
   rw [if_neg (fun e=>hj _ e)]
   exact ho
 |loop b ih=>intro e σ K h hq;exact .mono h hq
 |rangeFunc f ps a b _ _=>intro e σ K h hq;exact .mono h hq
 |jump j=>intro e σ K h hq;exact .jump (hq ⟨some j,e,σ,.undef⟩ h)
 |scope b ih=>intro e σ K h hq;exact .scope (ih h hq)
def cN (T:FuncId→Option AFunc) (f:FuncId) (args:List AV) (v:AV):Prop:=∀ σ,Run T (.call f args σ) fun o=>o.v=v∧o.σ=σ
theorem oI (σ τ:St) (k:Nat):(σ++τ)[σ.length+k]? = τ[k]?:=by rw [List.getElem?_append_right (by omega)];congr 1;omega
theorem oP (σ τ:St) (k:Nat) (x:ABlk):(σ++τ).set (σ.length+k) x=σ++τ.set k x:=by rw [List.set_append_right _ _ (by omega)];congr 2;omega
theorem WG (σ τ:St) (x:ABlk):(σ++τ).set σ.length x=σ++τ.set 0 x:=oP σ τ 0 x
end Go.Am
namespace Go.Am
variable {T:FuncId→Option AFunc}
theorem aD1 (e:Env) (d:Nat) (v:AV):Env.put e (some d) v=(d,v)::e:=by simp only [Env.put]
theorem aCY (e:Env) (v:AV):Env.put e none v=e:=by simp only [Env.put]
theorem TP (k:Nat) (v:AV) (e:Env) (t:Nat):Env.get ((k,v)::e) t=if k=t then v else Env.get e t:=by simp only [Env.get]
theorem OB (e:Env) (t:Nat):AOpd.ev e (.t t)=Env.get e t:=by simp only [AOpd.ev]
theorem aE7 (e:Env) (v:AV):AOpd.ev e (.c v)=v:=by simp only [AOpd.ev]
theorem aDY (os:List AOper) (e:Env) (σ:St) (K:KJ):wp T (.reg os) e σ K=aO T os e σ fun e σ=>K none e σ:=by simp only [wp]
theorem aEN (a b:ACode) (e:Env) (σ:St) (K:KJ):wp T (.seq a b) e σ K=wp T a e σ (vJ (fun _ e σ=>wp T b e σ K) K):=by simp only [wp]
theorem aA7 (j:AJump) (e:Env) (σ:St) (K:KJ):wp T (.jump j) e σ K=K (some j) e σ:=by simp only [wp]
theorem aDG (A K:KJ) (e:Env) (σ:St):vJ A K none e σ=A none e σ:=by simp only [vJ]
theorem aFT (e:Env) (σ:St) (K:Env→St→Prop):aO T [] e σ K=K e σ:=by simp only [aO]
def aFI (r:Option AV) (σ:St) (K:AV→St→Prop):Prop:=match r with|some v=>K v σ|none=>False
@[congr] theorem aAS {r r':Option AV} {σ σ':St} {K:AV→St→Prop} (h:r=r') (h2:σ=σ'):aFI r σ K=aFI r' σ' K:=by rw [h,h2]
def aG8 (r:Option (List AV)) (σ:St) (K:AV→St→Prop):Prop:=match r with|some cs=>K (.agg cs) σ|none=>False
@[congr] theorem aBO {r r':Option (List AV)} {σ σ':St} {K:AV→St→Prop} (h:r=r') (h2:σ=σ'):aG8 r σ K=aG8 r' σ' K:=by rw [h,h2]
def aES (r:Option St) (K:AV→St→Prop):Prop:=match r with|some σ=>K (.tuple []) σ|none=>False
@[congr] theorem aA9 {r r':Option St} {K:AV→St→Prop} (h:r=r'):aES r K=aES r' K:=by rw [h]
def sK (n:Nat) (v:AV):Option (List AV):=if (v.cells.length==n&&v.cells.all (·.cell))=true then some v.cells else none
def y1 (off:Nat):AV→Option AV
 |.ptr id o=>some (.ptr id (o+off))
 |.lptr xs i o t=>some (.lptr xs i (o+off) t)
 |_=>none
theorem VP (off id o:Nat):y1 off (.ptr id o)=some (.ptr id (o+off)):=by simp [y1]
theorem VO (off:Nat) (xs:List AV) (i o:Nat) (t:Option Nat):y1 off (.lptr xs i o t)=some (.lptr xs i (o+off) t):=by simp [y1]
def aHF (r:Option (List AV)) (σ:St) (K:AV→St→Prop):Prop:=match r with|some cs=>K (.ptr σ.length 0) (σ++[.cells cs])|none=>False
@[congr] theorem aDP {r r':Option (List AV)} {σ σ':St} {K:AV→St→Prop} (h:r=r') (h2:σ=σ'):aHF r σ K=aHF r' σ' K:=by rw [h,h2]
def X0 (i:Nat):AV→Option AV
 |.tuple vs=>vs[i]?
 |_=>none
theorem aBD (i:Nat) (vs:List AV):X0 i (.tuple vs)=vs[i]?:=by simp [X0]
def VV:AV→Option AV
 |.bool b=>some (.bool !b)
 |_=>none
theorem aCL (b:Bool):VV (.bool b)=some (.bool !b):=by simp [VV]
def EF (sh:EqTy) (neg:Bool) (x y:AV):Option AV:=(jV sh x y).map fun b=>.bool (if neg then !b else b)
theorem aBI (e:Env) (σ:St) (K:KJ):wp T .skip e σ K=K none e σ:=by simp only [wp]
theorem WM (id:Nat) (b:ACode) (e:Env) (σ:St) (K:KJ):wp T (.block id b) e σ K=wp T b e σ (lL id K):=by simp only [wp]
theorem WY (b:ACode) (e:Env) (σ:St) (K:KJ):wp T (.scope b) e σ K=wp T b e σ K:=by simp only [wp]
theorem YQ (A K:KJ) (j:AJump) (e:Env) (σ:St):vJ A K (some j) e σ=K (some j) e σ:=by simp only [vJ]
theorem aC8 (k:Nat):fC k []=[]:=by simp only [fC]
theorem aFG (k:Nat) (v:AV) (vs:List AV):fC k (v::vs)=(k,v)::fC (k+1) vs:=by simp only [fC]
theorem aG9 (e:Env) (cs:List AV) (off n:Nat) (x:AOpd) (rest:List (Nat×Nat×AOpd)) :
  cF e cs ((off,n,x)::rest)=((sK n (x.ev e)).bind fun us=>fX cs off us).bind fun cs=>cF e cs rest:=by
 simp only [cF,sK];split
 ·simp only [Option.bind_some];cases fX cs off (x.ev e).cells<;>simp
 ·simp
end Go.Am
namespace Go.Am
variable {T:FuncId→Option AFunc}
def I3 (I:Nat→Env→St→Prop) (k:Nat) (K:KJ):KJ:=fun j e σ=>match j with|none=>∃ k',k'<k∧I k' e σ|some j=>K (some j) e σ
theorem DL (I:Nat→Env→St→Prop) (k:Nat) (K:KJ) (e:Env) (σ:St):I3 I k K none e σ = ∃ k',k'<k∧I k' e σ:=by simp only [I3]
theorem BP (I:Nat→Env→St→Prop) (k:Nat) (K:KJ) (j:AJump) (e:Env) (σ:St):I3 I k K (some j) e σ=K (some j) e σ:=by simp only [I3]
theorem aEV {b:ACode} {K:KJ} (I:Nat→Env→St→Prop) (step:∀ k e σ,I k e σ→wp T b e σ (I3 I k K)):∀ n e σ,I n e σ→MS T (.loop b) e σ K:=by
 intro n
 induction n using Nat.strongRecOn with
 |_ n ih =>
  intro e σ h
  refine .loop (eQ (step n e σ h) fun o ho=>ho) (fun o ho hj=>?_) fun o ho hj=>?_
  ·simp only [hj,DL] at ho
   obtain ⟨k',hk,hI⟩:=ho
   exact ih k' hk o.env o.σ hI
  ·cases hj':o.j with
   |none=>exact absurd hj' hj
   |some j=>simp only [hj',BP] at ho;exact ho
end Go.Am
namespace Go.Am
variable {T:FuncId→Option AFunc}
def EN (r:ARead):List St→Nat→Prop
 |[],_=>True
 |s::ss,j=>(if r.lo≤j∧j≤r.hi then aop r.op r.env s=some (r.v,s) else True)∧EN r ss (j+1)
theorem H9 {r:ARead}:∀ {hist:List St} {k:Nat},EN r hist k→∀ j s,r.lo≤k+j→k+j≤r.hi→hist[j]? = some s→aop r.op r.env s=some (r.v,s)
 |[],k,_,j,s,_,_,h=>by simp at h
 |t::ss,k,h,j,s,h1,h2,h3=>by
  obtain ⟨q1,q2⟩:=h
  cases j with
  |zero=>simp at h3;subst h3;rw [if_pos ⟨by omega,by omega⟩] at q1;exact q1
  |succ j=>exact H9 q2 j s (by omega) (by omega) (by simpa using h3)
def sA:List ARead→List St→Prop
 |[],_=>True
 |r::rs,hist=>EN r hist 0∧sA rs hist
theorem E2:∀ {rs:List ARead} {hist:List St},sA rs hist→∀ r∈rs,ARead.ok r hist
 |[],_,_,r,h=>by cases h
 |r::rs,hist,h,q,hq=>by
  rcases List.mem_cons.1 hq with rfl|hq
  ·intro j s h1 h2 h3
   exact H9 h.1 j s (by omega) (by omega) h3
  ·exact E2 h.2 q hq
def FG (T:FuncId→Option AFunc) (f:AV) (args:List AV) (σ:St) (K:AV→St→Prop):Prop:=∃ v σ',Run T (.callv f args σ) (fun r=>r.v=v∧r.σ=σ')∧K v σ'
@[congr] theorem ZG {f f':AV} {args args':List AV} {σ σ':St} {K:AV→St→Prop} (h1:f=f') (h2:args=args') (h3:σ=σ'):FG T f args σ K=FG T f' args' σ' K:=by rw [h1,h2,h3]
def wpD (T:FuncId→Option AFunc):List ADOper→Env→St→Nat→List St→List ARead→(Env→St→Prop)→Prop
 |[],e,σ,_,hist,reads,K=>sA reads hist∧K e σ
 |⟨⟨dst,.call f args,none⟩,_,_⟩::ds,e,σ,next,hist,reads,K=>FG T (f.ev e) (args.map (·.ev e)) σ fun v σ'=>wpD T ds (Env.put e dst v) σ' next (hist++[σ']) reads K
 |⟨⟨dst,.alloc _,none⟩,_,_⟩::ds,e,σ,next,hist,reads,K=>wpD T ds (Env.put e dst (.ptr next 0)) σ (next+1) hist reads K
 |⟨⟨dst,q,none⟩,lo,hi⟩::ds,e,σ,next,hist,reads,K =>
  nK (aop q e σ) fun v σ' =>
   if q.acts=true then wpD T ds (Env.put e dst v) σ' next (hist++[σ']) reads K
   else σ'=σ∧if q.reads=true then wpD T ds (Env.put e dst v) σ next hist (⟨lo,hi,q,e,v⟩::reads) K else wpD T ds (Env.put e dst v) σ next hist reads K
 |⟨⟨dst,.call f args,some (t,want)⟩,_,_⟩::ds,e,σ,next,hist,reads,K =>
  oU (Env.get e t) want (fun _=>FG T (f.ev e) (args.map (·.ev e)) σ fun v σ'=>wpD T ds (Env.put e dst v) σ' next (hist++[σ']) reads K)
   (fun _=>wpD T ds (Env.put e dst (.tuple [])) σ next (hist++[σ]) reads K)
 |⟨⟨dst,q,some (t,want)⟩,lo,hi⟩::ds,e,σ,next,hist,reads,K =>
  oU (Env.get e t) want
   (fun _=>q.allocs=false∧nK (aop q e σ) fun v σ' =>
    if q.acts=true then wpD T ds (Env.put e dst v) σ' next (hist++[σ']) reads K
    else σ'=σ∧if q.reads=true then wpD T ds (Env.put e dst v) σ next hist (⟨lo,hi,q,e,v⟩::reads) K else wpD T ds (Env.put e dst v) σ next hist reads K)
   (fun _=>wpD T ds (Env.put e dst (.tuple [])) σ (if q.allocs then next+1 else next) (if q.acts then hist++[σ] else hist) reads K)
theorem kZ {Q:Out→Prop}:∀ {ds:List ADOper} {e:Env} {σ:St} {next:Nat} {hist:List St} {reads:List ARead} {K:Env→St→Prop},wpD T ds e σ next hist reads K →
  (∀ e σ,K e σ→Q ⟨none,e,σ,.undef⟩)→Run T (.dops ds e σ next hist reads) Q
 |[],e,σ,next,hist,reads,K,h,hq=>.dnil (E2 h.1) (hq _ _ h.2)
 |⟨⟨dst,q,g⟩,lo,hi⟩::ds,e,σ,next,hist,reads,K,h,hq=>by
  -- an operation that is neither a call nor a new variable
  have key:AOper.wanted ⟨dst,q,g⟩ e=some true→q.allocs=false→(nK (aop q e σ) fun v σ' =>
    if q.acts=true then wpD T ds (Env.put e dst v) σ' next (hist++[σ']) reads K
    else σ'=σ∧if q.reads=true then wpD T ds (Env.put e dst v) σ next hist (⟨lo,hi,q,e,v⟩::reads) K else wpD T ds (Env.put e dst v) σ next hist reads K) →
    Run T (.dops (⟨⟨dst,q,g⟩,lo,hi⟩::ds) e σ next hist reads) Q:=by
   intro hw hal h
   unfold nK at h
   split at h
   ·rename_i v σ' hv
    split at h
    ·rename_i ha;exact .dact hw ha hv (kZ h hq)
    ·rename_i ha
     obtain ⟨rfl,h⟩:=h
     split at h
     ·rename_i hr;exact .dread hw hr hv (kZ h hq)
     ·rename_i hr;exact .dpure hw (by simp [hal];exact ⟨by simpa using ha,by simpa using hr⟩) hv (kZ h hq)
   ·exact h.elim
  by_cases hc:∃ f args,q = .call f args
  ·obtain ⟨f,args,rfl⟩:=hc
   cases g with
   |none =>
    simp only [wpD,FG] at h
    obtain ⟨v,σ',h1,h2⟩:=h
    exact .dcall rfl rfl h1 (kZ h2 hq)
   |some g =>
    obtain ⟨t,want⟩:=g
    simp only [wpD,oU] at h
    split at h
    ·rename_i b h1
     split at h
     ·rename_i hb
      obtain ⟨v,σ',h3,h4⟩:=h
      exact .dcall (by simp [AOper.wanted,h1,hb]) rfl h3 (kZ h4 hq)
     ·rename_i hb
      exact .doff (by simp [AOper.wanted,h1];simpa using hb) (by simpa [AOp.allocs,AOp.acts] using kZ h hq)
    ·rename_i h1
     exact .doff (by simp [AOper.wanted,h1]) (by simpa [AOp.allocs,AOp.acts] using kZ h hq)
    ·exact h.elim
  ·cases g with
   |none =>
    by_cases hal:∃ z,q = .alloc z
    ·obtain ⟨z,rfl⟩:=hal
     simp only [wpD] at h
     exact .dalloc rfl rfl (kZ h hq)
    ·refine key rfl ?_ ?_
     ·cases q<;>first|rfl|exact absurd ⟨_,rfl⟩ hal
     ·cases q<;>first|exact h|exact absurd ⟨_,_,rfl⟩ hc|exact absurd ⟨_,rfl⟩ hal
   |some g =>
    obtain ⟨t,want⟩:=g
    have h:oU (Env.get e t) want (fun _=>q.allocs=false∧nK (aop q e σ) fun v σ' =>
      if q.acts=true then wpD T ds (Env.put e dst v) σ' next (hist++[σ']) reads K
      else σ'=σ∧if q.reads=true then wpD T ds (Env.put e dst v) σ next hist (⟨lo,hi,q,e,v⟩::reads) K else wpD T ds (Env.put e dst v) σ next hist reads K)
      (fun _=>wpD T ds (Env.put e dst (.tuple [])) σ (if q.allocs then next+1 else next) (if q.acts then hist++[σ] else hist) reads K):=by
     cases q<;>first|exact h|exact absurd ⟨_,_,rfl⟩ hc
    simp only [oU] at h
    split at h
    ·rename_i b h1
     split at h
     ·rename_i hb
      exact key (by simp [AOper.wanted,h1,hb]) h.1 h.2
     ·rename_i hb
      exact .doff (by simp [AOper.wanted,h1];simpa using hb) (kZ h hq)
    ·rename_i h1
     exact .doff (by simp [AOper.wanted,h1]) (kZ h hq)
    ·exact h.elim
end Go.Am
namespace Go.Am
variable {T:FuncId→Option AFunc}
class HP (α:Type) where
 out:α
def bO (r:Option (AV×St)) [K:HP (AV→St→Prop)]:Prop:=nK r K.out
theorem aBV (v:AV) (σ:St) (K:AV→St→Prop):bO (K:=⟨K⟩) (some (v,σ))=K v σ:=by simp only [bO,nK]
def cK (T:FuncId→Option AFunc) (f:AV) (args:List AV) (σ:St) [K:HP (AV→St→Prop)]:Prop:=NO T f args σ K.out
def cD (T:FuncId→Option AFunc) (f:AV) (args:List AV) (σ:St) [K:HP (AV→St→Prop)]:Prop:=FG T f args σ K.out
def rK (T:FuncId→Option AFunc) (c:ACode) (e:Env) (σ:St) [K:HP KJ]:Prop:=MS T c e σ K.out
def AS (b:Bool) [A:HP Prop] [B:HP Prop]:Prop:=if b=true then A.out else B.out
theorem yY (A:Prop) (B:HP Prop):AS (A:=⟨A⟩) true=A:=by simp [AS]
theorem K0 (A:HP Prop) (B:Prop):AS (B:=⟨B⟩) false=B:=by simp [AS]
theorem aJ {b:Bool} {A B:Prop} (h1:b=true→A) (h2:b=false→B):AS (A:=⟨A⟩) (B:=⟨B⟩) b:=by cases b<;>simp [AS]<;>first|exact h1 rfl|exact h2 rfl
def bB (v:AV) [A:HP Prop] [B:HP Prop]:Prop:=B3 v (fun _=>A.out) (fun _=>B.out)
def bG (v:AV) (want:Bool) [A:HP Prop] [B:HP Prop]:Prop:=oU v want (fun _=>A.out) (fun _=>B.out)
theorem aA2 (b:ACode) (e:Env) (σ:St) (K:KJ):wp T (.loop b) e σ K=rK (K:=⟨K⟩) T (.loop b) e σ:=by simp only [wp,rK]
theorem XV (f:AOpd) (ps:List Nat) (a b:ACode) (e:Env) (σ:St) (K:KJ):wp T (.rangeFunc f ps a b) e σ K=rK (K:=⟨K⟩) T (.rangeFunc f ps a b) e σ:=by simp only [wp,rK]
theorem aCB (c:AOpd) (a b:ACode) (e:Env) (σ:St) (K:KJ):wp T (.cond c a b) e σ K=bB (A:=⟨wp T a e σ K⟩) (B:=⟨wp T b e σ K⟩) (c.ev e):=by simp only [wp,bB]
def evs (e:Env):List AOpd→List AV
 |[]=>[]
 |x::xs=>x.ev e::evs e xs
theorem nP (e:Env):∀ xs:List AOpd,xs.map (·.ev e)=evs e xs
 |[]=>rfl
 |x::xs=>by simp [evs,nP e xs]
def ovs (e:Env):Option AOpd→Option AV
 |none=>none
 |some x=>some (x.ev e)
def E6:AV→AV→AV→Option AV
 |.bool true,x,_=>some x
 |.bool false,_,y=>some y
 |_,_,_=>none
def OW (n:Nat) (xs:List AV):Option AV:=if aU n xs=true then some (.lit xs true none) else none
def HZ:AV→Option AV
 |.ptr i o=>some (.ptr i o)
 |.lptr xs i o t=>some (.lptr xs i o t)
 |.func f a b=>some (.func f a b)
 |.yield i=>some (.yield i)
 |_=>none
def W6:AV→Option AV
 |.int k n=>some (.int k (k.wrap (0-n)))
 |_=>none
def NJ (k:IntKind):AV→Option AV
 |.int _ n=>some (.int k (k.wrap n))
 |_=>none
def V4:AV→Option ByteArray
 |.str s=>some s
 |_=>none
def yU (σ:St):AV→Option (AV×St)
 |.ptr id 0 =>
  match σ[id]? with
  |some (.siter s pos) =>
   if pos<s.size then some (.tuple [.bool true,.int .i64 pos,.int .i32 (Utf8.decode s pos).1],σ.set id (.siter s (pos+(Utf8.decode s pos).2)))
   else some (.tuple [.bool false],σ)
  |_=>none
 |_=>none
def qU (bytes:Nat) (l c:AV):Option Nat :=
 match l,c with
 |.int _ n,.int _ m=>if 0≤n∧n=m∧n*bytes≤room∧n≤room then some n.toNat else none
 |_,_=>none
def nH (d:Nat):Option AV→Option Int
 |none=>some d
 |some x=>fP x
def uG (sz:Nat) (σ:St) (x:AV) (lo hi mx:Option AV):Option AV :=
 match iY 1 σ x with
 |none=>none
 |some n =>
  match nH 0 lo,nH n hi,mx.map fP with
  |some l,some h,none=>mL sz x l h false
  |some l,some h,some (some m)=>if m=h∧hi.isSome=true then mL sz x l h true else none
  |_,_,_=>none
def BD (n sz:Nat) (x:AV) (lo hi:Option AV):Option AV :=
 match x,nH 0 lo,nH n hi with
 |.ptr id off,some l,some h=>if 0≤l∧l≤h∧h≤n then some (.ref id (off+l.toNat*sz) (h.toNat-l.toNat) sz) else none
 |_,_,_=>none
def GT (off:Nat) (sh:Option Nat):AV→Option AV
 |.agg cs=>gC sh cs off
 |_=>none
def qD (arr:Option Nat) (sz:Nat) (x i:AV):Option AV :=
 match fP i,arr,x with
 |some j,some n,.ptr id off=>if 0≤j∧j<n then some (.ptr id (off+j.toNat*sz)) else none
 |some j,some n,.lptr xs q off t=>if 0≤j∧j<n then some (.lptr xs q (off+j.toNat*sz) t) else none
 |some j,none,.lit xs _ t =>
  match xs[j.toNat]? with
  |some y=>if 0≤j∧y.cells.length=sz then some (.lptr xs j.toNat 0 t) else none
  |none=>none
 |some j,none,.ref id off len sz'=>if 0≤j∧j<len∧sz'=sz then some (.ptr id (off+j.toNat*sz)) else none
 |_,_,_=>none
def T9 (n sz:Nat) (sh:Option Nat) (x i:AV):Option AV :=
 match fP i,x with
 |some j,.agg cs=>if 0≤j∧j<n then gC sh cs (j.toNat*sz) else none
 |_,_=>none
def AX (x i:AV):Option AV :=
 match fP i,x with
 |some j,.str s=>if 0≤j then (s[j.toNat]?).map fun b=>.int .u8 b.toNat else none
 |_,_=>none
def E0 (ok:Bool) (zero:AV):Option (Option AV)→Option AV
 |some (some v)=>some (if ok then .tuple [v,.bool true] else v)
 |some none=>some (if ok then .tuple [zero,.bool false] else zero)
 |none=>none
def sO (sh:EqTy) (σ:St) (m k v:AV):Option St :=
 match m with
 |.map id =>
  if (jV sh k k).isSome=false then none else
  match σ[id]? with
  |some (.map es)=>(mF sh k v es).map fun es'=>σ.set id (.map es')
  |_=>none
 |_=>none
theorem aGI (x:AOpd) (e:Env) (σ:St):aop (.mov x) e σ=some (x.ev e,σ):=by
 simp only [aop]
theorem YA (z:List AV) (e:Env) (σ:St):aop (.alloc z) e σ=some (.ptr σ.length 0,σ++[.cells z]):=by
 simp only [aop]
theorem aB1 (c x y:AOpd) (e:Env) (σ:St):aop (.pick c x y) e σ=(E6 (c.ev e) (x.ev e) (y.ev e)).map (·,σ):=by
 simp only [aop,E6];repeat' split
 all_goals simp_all
theorem aE2 (n:Nat) (x:AOpd) (e:Env) (σ:St):aop (.box n x) e σ=(sK n (x.ev e)).map fun cs=>(.ptr σ.length 0,σ++[.cells cs]):=by
 simp only [aop,sK];split<;>simp_all
theorem XG (z:List AV) (ps:List (Nat×Nat×AOpd)) (e:Env) (σ:St):aop (.build z ps) e σ=(cF e z ps).map fun cs=>(.agg cs,σ):=by
 simp only [aop];cases cF e z ps<;>simp
theorem W7 (n:Nat) (xs:List AOpd) (e:Env) (σ:St):aop (.mklit n xs) e σ=(OW n (evs e xs)).map (·,σ):=by
 simp only [aop,OW,nP];split<;>simp_all
theorem X6 (n:Nat) (xs:List AOpd) (e:Env) (σ:St):aop (.mkref n xs) e σ=(OW n (evs e xs)).map fun _=>(.ref σ.length 0 (evs e xs).length n,σ++[.cells ((evs e xs).flatMap AV.cells)]):=by
 simp only [aop,OW,nP];have:=congrArg List.length (nP e xs);split<;>simp_all
theorem aAK (sh:Option Nat) (x:AOpd) (e:Env) (σ:St):aop (.load sh x) e σ=(lP sh σ (x.ev e)).map (·,σ):=by
 simp only [aop];cases lP sh σ (x.ev e)<;>simp
theorem WC (n:Nat) (x y:AOpd) (e:Env) (σ:St):aop (.store n x y) e σ=(pE n σ (x.ev e) (y.ev e)).map (.tuple [],·):=by
 simp only [aop];cases pE n σ (x.ev e) (y.ev e)<;>simp
theorem MB (x:AOpd) (e:Env) (σ:St):aop (.nilCheck x) e σ=(HZ (x.ev e)).map (·,σ):=by
 simp only [aop,HZ];cases x.ev e<;>simp
theorem aEI (op:BinOp) (x y:AOpd) (e:Env) (σ:St):aop (.bin op x y) e σ=(d7 op (x.ev e) (y.ev e)).map (·,σ):=by
 simp only [aop];cases d7 op (x.ev e) (y.ev e)<;>simp
theorem aEH (sh:EqTy) (n:Bool) (x y:AOpd) (e:Env) (σ:St):aop (.eql sh n x y) e σ=(EF sh n (x.ev e) (y.ev e)).map (·,σ):=by
 simp only [aop,EF];cases jV sh (x.ev e) (y.ev e)<;>simp
theorem aGH (x:AOpd) (e:Env) (σ:St):aop (.not x) e σ=(VV (x.ev e)).map (·,σ):=by
 simp only [aop,VV];cases x.ev e<;>simp
theorem aFC (x:AOpd) (e:Env) (σ:St):aop (.neg x) e σ=(W6 (x.ev e)).map (·,σ):=by
 simp only [aop,W6];cases x.ev e<;>simp
theorem aCM (k:IntKind) (x:AOpd) (e:Env) (σ:St):aop (.conv k x) e σ=(NJ k (x.ev e)).map (·,σ):=by
 simp only [aop,NJ];cases x.ev e<;>simp
theorem X8 (f:FuncId) (xs ys:List AOpd) (e:Env) (σ:St):aop (.mkfun f xs ys) e σ=some (.func f (evs e xs) (evs e ys),σ):=by
 simp only [aop,nP]
theorem V6  (e:Env) (σ:St):aop (.mkmap) e σ=some (.map σ.length,σ++[.map []]):=by
 simp only [aop]
theorem QU (z:List AV) (b:Nat) (x y:AOpd) (e:Env) (σ:St):aop (.mkslice z b x y) e σ=(qU b (x.ev e) (y.ev e)).map fun n=>(.ref σ.length 0 n z.length,σ++[.cells (List.replicate n z).flatten]):=by
 simp only [aop,qU];generalize x.ev e=u;generalize y.ev e=v;cases u<;>cases v<;>first|rfl|(dsimp only;split<;>first|rfl|simp_all|(split<;>simp_all))
theorem SN (n:Nat) (x:AOpd) (lo hi mx:Option AOpd) (e:Env) (σ:St):aop (.slicev n x lo hi mx) e σ=(uG n σ (x.ev e) (ovs e lo) (ovs e hi) (ovs e mx)).map (·,σ):=by
 simp only [aop,uG];cases iY 1 σ (x.ev e)<;>cases lo<;>cases hi<;>cases mx<;>simp only [bV,nH,ovs,Option.map_none,Option.map_some]<;>repeat' split
 all_goals simp_all
theorem VF (n s:Nat) (x:AOpd) (lo hi:Option AOpd) (e:Env) (σ:St):aop (.slicea n s x lo hi) e σ=(BD n s (x.ev e) (ovs e lo) (ovs e hi)).map (·,σ):=by
 simp only [aop,BD];generalize x.ev e=u;cases lo with
 |none=>cases hi with
  |none=>simp only [bV,nH,ovs];cases u<;>first|rfl|(dsimp only;split<;>first|rfl|simp_all|(split<;>simp_all))
  |some h=>simp only [bV,nH,ovs];generalize fP (h.ev e)=p;cases u<;>cases p<;>first|rfl|(dsimp only;split<;>first|rfl|simp_all|(split<;>simp_all))
 |some l=>cases hi with
  |none=>simp only [bV,nH,ovs];generalize fP (l.ev e)=p;cases u<;>cases p<;>first|rfl|(dsimp only;split<;>first|rfl|simp_all|(split<;>simp_all))
  |some h=>simp only [bV,nH,ovs];generalize fP (l.ev e)=p;generalize fP (h.ev e)=q;cases u<;>cases p<;>cases q<;>first|rfl|(dsimp only;split<;>first|rfl|simp_all|(split<;>simp_all))
theorem X4 (x:AOpd) (o:Nat) (e:Env) (σ:St):aop (.faddr x o) e σ=(y1 o (x.ev e)).map (·,σ):=by
 simp only [aop,y1];cases x.ev e<;>simp
theorem X5 (x:AOpd) (o:Nat) (sh:Option Nat) (e:Env) (σ:St):aop (.field x o sh) e σ=(GT o sh (x.ev e)).map (·,σ):=by
 simp only [aop,GT];cases x.ev e<;>simp<;>(rename_i cs;cases gC sh cs o<;>simp)
theorem WU (a:Option Nat) (s:Nat) (x i:AOpd) (e:Env) (σ:St):aop (.iaddr a s x i) e σ=(qD a s (x.ev e) (i.ev e)).map (·,σ):=by
 simp only [aop,qD];generalize fP (i.ev e)=q;generalize x.ev e=u;cases q<;>cases a<;>cases u<;>first|rfl|(dsimp only;split<;>first|rfl|simp_all|(split<;>simp_all))
theorem X7 (n s:Nat) (sh:Option Nat) (x i:AOpd) (e:Env) (σ:St):aop (.index n s sh x i) e σ=(T9 n s sh (x.ev e) (i.ev e)).map (·,σ):=by
 simp only [aop,T9];generalize fP (i.ev e)=q;generalize x.ev e=u;cases q<;>cases u<;>first|rfl|(dsimp only;split<;>first|rfl|simp_all|(split<;>simp_all))
theorem Q6 (x i:AOpd) (e:Env) (σ:St):aop (.sindex x i) e σ=(AX (x.ev e) (i.ev e)).map (·,σ):=by
 simp only [aop,AX];generalize fP (i.ev e)=q;generalize x.ev e=u;cases q<;>cases u<;>first|rfl|(dsimp only;split<;>first|rfl|(rename_i k b h;cases b[k.toNat]?<;>rfl))
theorem VS (sh:EqTy) (ok:Bool) (z:AV) (m k:AOpd) (e:Env) (σ:St):aop (.lookup sh ok z m k) e σ=(E0 ok z (wG sh σ (m.ev e) (k.ev e))).map (·,σ):=by
 simp only [aop,E0];cases wG sh σ (m.ev e) (k.ev e) with
 |none=>rfl
 |some o=>cases o<;>rfl
theorem UN (sh:EqTy) (m k v:AOpd) (e:Env) (σ:St):aop (.mapset sh m k v) e σ=(sO sh σ (m.ev e) (k.ev e) (v.ev e)).map (.tuple [],·):=by
 simp only [aop,sO];repeat' split
 all_goals simp_all
theorem aFF (x:AOpd) (i:Nat) (e:Env) (σ:St):aop (.ext x i) e σ=(X0 i (x.ev e)).map (·,σ):=by
 simp only [aop,X0];cases x.ev e<;>simp<;>(rename_i vs;cases vs[i]?<;>simp)
theorem aFZ (k:Nat) (x:AOpd) (e:Env) (σ:St):aop (.len k x) e σ=(iY k σ (x.ev e)).map fun n=>(.int .i64 n,σ):=by
 simp only [aop];cases iY k σ (x.ev e)<;>simp
theorem SE (n b:Nat) (x y:AOpd) (e:Env) (σ:St):aop (.append n b x y) e σ=cZ n b σ (x.ev e) (y.ev e):=by
 simp only [aop]
theorem W3 (n b:Nat) (x y:AOpd) (e:Env) (σ:St):aop (.apref n b x y) e σ=uY n b σ (x.ev e) (y.ev e):=by
 simp only [aop]
theorem aB2 (n:Nat) (x y:AOpd) (e:Env) (σ:St):aop (.copy n x y) e σ=pT n σ (x.ev e) (y.ev e):=by
 simp only [aop]
theorem aFA (xs:List AOpd) (e:Env) (σ:St):aop (.min xs) e σ=(zO (evs e xs)).map (·,σ):=by
 simp only [aop,nP];cases zO (evs e xs)<;>simp
theorem aDX (xs:List AOpd) (e:Env) (σ:St):aop (.max xs) e σ=(zR (evs e xs)).map (·,σ):=by
 simp only [aop,nP];cases zR (evs e xs)<;>simp
theorem RO (x:AOpd) (e:Env) (σ:St):aop (.srange x) e σ=(V4 (x.ev e)).map fun s=>(.ptr σ.length 0,σ++[.siter s 0]):=by
 simp only [aop,V4];cases x.ev e<;>simp
theorem V8 (x:AOpd) (e:Env) (σ:St):aop (.snext x) e σ=yU σ (x.ev e):=by
 simp only [aop,yU];cases x.ev e<;>rfl
theorem aHC (x:AOpd) (d:Option Nat) (os:List AOper) (e:Env) (σ:St) (K:Env→St→Prop):aO T (⟨d,.mov x,none⟩::os) e σ K=bO (K:=⟨fun v σ'=>aO T os (Env.put e d v) σ' K⟩) (aop (.mov x) e σ):=by simp only [aO,gS,bO]
theorem YS (z:List AV) (d:Option Nat) (os:List AOper) (e:Env) (σ:St) (K:Env→St→Prop):aO T (⟨d,.alloc z,none⟩::os) e σ K=bO (K:=⟨fun v σ'=>aO T os (Env.put e d v) σ' K⟩) (aop (.alloc z) e σ):=by simp only [aO,gS,bO]
theorem aBJ (c x y:AOpd) (d:Option Nat) (os:List AOper) (e:Env) (σ:St) (K:Env→St→Prop):aO T (⟨d,.pick c x y,none⟩::os) e σ K=bO (K:=⟨fun v σ'=>aO T os (Env.put e d v) σ' K⟩) (aop (.pick c x y) e σ):=by simp only [aO,gS,bO]
theorem aE4 (n:Nat) (x:AOpd) (d:Option Nat) (os:List AOper) (e:Env) (σ:St) (K:Env→St→Prop):aO T (⟨d,.box n x,none⟩::os) e σ K=bO (K:=⟨fun v σ'=>aO T os (Env.put e d v) σ' K⟩) (aop (.box n x) e σ):=by simp only [aO,gS,bO]
theorem WV (z:List AV) (ps:List (Nat×Nat×AOpd)) (d:Option Nat) (os:List AOper) (e:Env) (σ:St) (K:Env→St→Prop):aO T (⟨d,.build z ps,none⟩::os) e σ K=bO (K:=⟨fun v σ'=>aO T os (Env.put e d v) σ' K⟩) (aop (.build z ps) e σ):=by simp only [aO,gS,bO]
theorem V1 (n:Nat) (xs:List AOpd) (d:Option Nat) (os:List AOper) (e:Env) (σ:St) (K:Env→St→Prop):aO T (⟨d,.mklit n xs,none⟩::os) e σ K=bO (K:=⟨fun v σ'=>aO T os (Env.put e d v) σ' K⟩) (aop (.mklit n xs) e σ):=by simp only [aO,gS,bO]
theorem W2 (n:Nat) (xs:List AOpd) (d:Option Nat) (os:List AOper) (e:Env) (σ:St) (K:Env→St→Prop):aO T (⟨d,.mkref n xs,none⟩::os) e σ K=bO (K:=⟨fun v σ'=>aO T os (Env.put e d v) σ' K⟩) (aop (.mkref n xs) e σ):=by simp only [aO,gS,bO]
theorem aB0 (sh:Option Nat) (x:AOpd) (d:Option Nat) (os:List AOper) (e:Env) (σ:St) (K:Env→St→Prop):aO T (⟨d,.load sh x,none⟩::os) e σ K=bO (K:=⟨fun v σ'=>aO T os (Env.put e d v) σ' K⟩) (aop (.load sh x) e σ):=by simp only [aO,gS,bO]
theorem XQ (n:Nat) (x y:AOpd) (d:Option Nat) (os:List AOper) (e:Env) (σ:St) (K:Env→St→Prop):aO T (⟨d,.store n x y,none⟩::os) e σ K=bO (K:=⟨fun v σ'=>aO T os (Env.put e d v) σ' K⟩) (aop (.store n x y) e σ):=by simp only [aO,gS,bO]
theorem LW (x:AOpd) (d:Option Nat) (os:List AOper) (e:Env) (σ:St) (K:Env→St→Prop):aO T (⟨d,.nilCheck x,none⟩::os) e σ K=bO (K:=⟨fun v σ'=>aO T os (Env.put e d v) σ' K⟩) (aop (.nilCheck x) e σ):=by simp only [aO,gS,bO]
theorem aG0 (op:BinOp) (x y:AOpd) (d:Option Nat) (os:List AOper) (e:Env) (σ:St) (K:Env→St→Prop):aO T (⟨d,.bin op x y,none⟩::os) e σ K=bO (K:=⟨fun v σ'=>aO T os (Env.put e d v) σ' K⟩) (aop (.bin op x y) e σ):=by simp only [aO,gS,bO]
theorem aGD (sh:EqTy) (n:Bool) (x y:AOpd) (d:Option Nat) (os:List AOper) (e:Env) (σ:St) (K:Env→St→Prop):aO T (⟨d,.eql sh n x y,none⟩::os) e σ K=bO (K:=⟨fun v σ'=>aO T os (Env.put e d v) σ' K⟩) (aop (.eql sh n x y) e σ):=by simp only [aO,gS,bO]
theorem aFH (x:AOpd) (d:Option Nat) (os:List AOper) (e:Env) (σ:St) (K:Env→St→Prop):aO T (⟨d,.not x,none⟩::os) e σ K=bO (K:=⟨fun v σ'=>aO T os (Env.put e d v) σ' K⟩) (aop (.not x) e σ):=by simp only [aO,gS,bO]
theorem aEU (x:AOpd) (d:Option Nat) (os:List AOper) (e:Env) (σ:St) (K:Env→St→Prop):aO T (⟨d,.neg x,none⟩::os) e σ K=bO (K:=⟨fun v σ'=>aO T os (Env.put e d v) σ' K⟩) (aop (.neg x) e σ):=by simp only [aO,gS,bO]
theorem aC1 (k:IntKind) (x:AOpd) (d:Option Nat) (os:List AOper) (e:Env) (σ:St) (K:Env→St→Prop):aO T (⟨d,.conv k x,none⟩::os) e σ K=bO (K:=⟨fun v σ'=>aO T os (Env.put e d v) σ' K⟩) (aop (.conv k x) e σ):=by simp only [aO,gS,bO]
theorem WF (f:FuncId) (xs ys:List AOpd) (d:Option Nat) (os:List AOper) (e:Env) (σ:St) (K:Env→St→Prop):aO T (⟨d,.mkfun f xs ys,none⟩::os) e σ K=bO (K:=⟨fun v σ'=>aO T os (Env.put e d v) σ' K⟩) (aop (.mkfun f xs ys) e σ):=by simp only [aO,gS,bO]
theorem V9  (d:Option Nat) (os:List AOper) (e:Env) (σ:St) (K:Env→St→Prop):aO T (⟨d,.mkmap,none⟩::os) e σ K=bO (K:=⟨fun v σ'=>aO T os (Env.put e d v) σ' K⟩) (aop (.mkmap) e σ):=by simp only [aO,gS,bO]
theorem PG (z:List AV) (b:Nat) (x y:AOpd) (d:Option Nat) (os:List AOper) (e:Env) (σ:St) (K:Env→St→Prop):aO T (⟨d,.mkslice z b x y,none⟩::os) e σ K=bO (K:=⟨fun v σ'=>aO T os (Env.put e d v) σ' K⟩) (aop (.mkslice z b x y) e σ):=by simp only [aO,gS,bO]
theorem SG (n:Nat) (x:AOpd) (lo hi mx:Option AOpd) (d:Option Nat) (os:List AOper) (e:Env) (σ:St) (K:Env→St→Prop):aO T (⟨d,.slicev n x lo hi mx,none⟩::os) e σ K=bO (K:=⟨fun v σ'=>aO T os (Env.put e d v) σ' K⟩) (aop (.slicev n x lo hi mx) e σ):=by simp only [aO,gS,bO]
theorem VN (n s:Nat) (x:AOpd) (lo hi:Option AOpd) (d:Option Nat) (os:List AOper) (e:Env) (σ:St) (K:Env→St→Prop):aO T (⟨d,.slicea n s x lo hi,none⟩::os) e σ K=bO (K:=⟨fun v σ'=>aO T os (Env.put e d v) σ' K⟩) (aop (.slicea n s x lo hi) e σ):=by simp only [aO,gS,bO]
theorem W0 (x:AOpd) (o:Nat) (d:Option Nat) (os:List AOper) (e:Env) (σ:St) (K:Env→St→Prop):aO T (⟨d,.faddr x o,none⟩::os) e σ K=bO (K:=⟨fun v σ'=>aO T os (Env.put e d v) σ' K⟩) (aop (.faddr x o) e σ):=by simp only [aO,gS,bO]
theorem X9 (x:AOpd) (o:Nat) (sh:Option Nat) (d:Option Nat) (os:List AOper) (e:Env) (σ:St) (K:Env→St→Prop):aO T (⟨d,.field x o sh,none⟩::os) e σ K=bO (K:=⟨fun v σ'=>aO T os (Env.put e d v) σ' K⟩) (aop (.field x o sh) e σ):=by simp only [aO,gS,bO]
theorem WJ (a:Option Nat) (s:Nat) (x i:AOpd) (d:Option Nat) (os:List AOper) (e:Env) (σ:St) (K:Env→St→Prop):aO T (⟨d,.iaddr a s x i,none⟩::os) e σ K=bO (K:=⟨fun v σ'=>aO T os (Env.put e d v) σ' K⟩) (aop (.iaddr a s x i) e σ):=by simp only [aO,gS,bO]
theorem YK (n s:Nat) (sh:Option Nat) (x i:AOpd) (d:Option Nat) (os:List AOper) (e:Env) (σ:St) (K:Env→St→Prop):aO T (⟨d,.index n s sh x i,none⟩::os) e σ K=bO (K:=⟨fun v σ'=>aO T os (Env.put e d v) σ' K⟩) (aop (.index n s sh x i) e σ):=by simp only [aO,gS,bO]
theorem R0 (x i:AOpd) (d:Option Nat) (os:List AOper) (e:Env) (σ:St) (K:Env→St→Prop):aO T (⟨d,.sindex x i,none⟩::os) e σ K=bO (K:=⟨fun v σ'=>aO T os (Env.put e d v) σ' K⟩) (aop (.sindex x i) e σ):=by simp only [aO,gS,bO]
theorem TR (sh:EqTy) (ok:Bool) (z:AV) (m k:AOpd) (d:Option Nat) (os:List AOper) (e:Env) (σ:St) (K:Env→St→Prop):aO T (⟨d,.lookup sh ok z m k,none⟩::os) e σ K=bO (K:=⟨fun v σ'=>aO T os (Env.put e d v) σ' K⟩) (aop (.lookup sh ok z m k) e σ):=by simp only [aO,gS,bO]
theorem SJ (sh:EqTy) (m k v:AOpd) (d:Option Nat) (os:List AOper) (e:Env) (σ:St) (K:Env→St→Prop):aO T (⟨d,.mapset sh m k v,none⟩::os) e σ K=bO (K:=⟨fun v σ'=>aO T os (Env.put e d v) σ' K⟩) (aop (.mapset sh m k v) e σ):=by simp only [aO,gS,bO]
theorem aE1 (x:AOpd) (i:Nat) (d:Option Nat) (os:List AOper) (e:Env) (σ:St) (K:Env→St→Prop):aO T (⟨d,.ext x i,none⟩::os) e σ K=bO (K:=⟨fun v σ'=>aO T os (Env.put e d v) σ' K⟩) (aop (.ext x i) e σ):=by simp only [aO,gS,bO]
theorem aGG (k:Nat) (x:AOpd) (d:Option Nat) (os:List AOper) (e:Env) (σ:St) (K:Env→St→Prop):aO T (⟨d,.len k x,none⟩::os) e σ K=bO (K:=⟨fun v σ'=>aO T os (Env.put e d v) σ' K⟩) (aop (.len k x) e σ):=by simp only [aO,gS,bO]
theorem S9 (n b:Nat) (x y:AOpd) (d:Option Nat) (os:List AOper) (e:Env) (σ:St) (K:Env→St→Prop):aO T (⟨d,.append n b x y,none⟩::os) e σ K=bO (K:=⟨fun v σ'=>aO T os (Env.put e d v) σ' K⟩) (aop (.append n b x y) e σ):=by simp only [aO,gS,bO]
theorem V7 (n b:Nat) (x y:AOpd) (d:Option Nat) (os:List AOper) (e:Env) (σ:St) (K:Env→St→Prop):aO T (⟨d,.apref n b x y,none⟩::os) e σ K=bO (K:=⟨fun v σ'=>aO T os (Env.put e d v) σ' K⟩) (aop (.apref n b x y) e σ):=by simp only [aO,gS,bO]
theorem aDH (n:Nat) (x y:AOpd) (d:Option Nat) (os:List AOper) (e:Env) (σ:St) (K:Env→St→Prop):aO T (⟨d,.copy n x y,none⟩::os) e σ K=bO (K:=⟨fun v σ'=>aO T os (Env.put e d v) σ' K⟩) (aop (.copy n x y) e σ):=by simp only [aO,gS,bO]
theorem aG3 (xs:List AOpd) (d:Option Nat) (os:List AOper) (e:Env) (σ:St) (K:Env→St→Prop):aO T (⟨d,.min xs,none⟩::os) e σ K=bO (K:=⟨fun v σ'=>aO T os (Env.put e d v) σ' K⟩) (aop (.min xs) e σ):=by simp only [aO,gS,bO]
theorem aD0 (xs:List AOpd) (d:Option Nat) (os:List AOper) (e:Env) (σ:St) (K:Env→St→Prop):aO T (⟨d,.max xs,none⟩::os) e σ K=bO (K:=⟨fun v σ'=>aO T os (Env.put e d v) σ' K⟩) (aop (.max xs) e σ):=by simp only [aO,gS,bO]
theorem SU (x:AOpd) (d:Option Nat) (os:List AOper) (e:Env) (σ:St) (K:Env→St→Prop):aO T (⟨d,.srange x,none⟩::os) e σ K=bO (K:=⟨fun v σ'=>aO T os (Env.put e d v) σ' K⟩) (aop (.srange x) e σ):=by simp only [aO,gS,bO]
theorem YV (x:AOpd) (d:Option Nat) (os:List AOper) (e:Env) (σ:St) (K:Env→St→Prop):aO T (⟨d,.snext x,none⟩::os) e σ K=bO (K:=⟨fun v σ'=>aO T os (Env.put e d v) σ' K⟩) (aop (.snext x) e σ):=by simp only [aO,gS,bO]
theorem aAQ (f:AOpd) (xs:List AOpd) (d:Option Nat) (os:List AOper) (e:Env) (σ:St) (K:Env→St→Prop):aO T (⟨d,.call f xs,none⟩::os) e σ K=cK (K:=⟨fun v σ'=>aO T os (Env.put e d v) σ' K⟩) T (f.ev e) (evs e xs) σ:=by simp only [aO,gS,nP,cK]
theorem XS (b:Bool) (A B:HP Prop):bB (.bool b) (A:=A) (B:=B)=AS (A:=A) (B:=B) b:=by cases b<;>simp [bB,B3,AS]
theorem RZ (b:Bool) (A B:HP Prop):bG (.bool b) true (A:=A) (B:=B)=AS (A:=A) (B:=B) b:=by cases b<;>simp [bG,oU,AS]
theorem U6 (b:Bool) (A B:HP Prop):bG (.bool b) false (A:=A) (B:=B)=AS (A:=B) (B:=A) b:=by cases b<;>simp [bG,oU,AS]
theorem UV (w:Bool) (A:HP Prop) (B:Prop):bG (.tuple []) w (A:=A) (B:=⟨B⟩)=B:=by simp [bG,oU]
theorem YR (d:Option Nat) (q:AOp) (t:Nat) (want:Bool) (os:List AOper) (e:Env) (σ:St) (K:Env→St→Prop):aO T (⟨d,q,some (t,want)⟩::os) e σ K =
  bG (A:=⟨aO T (⟨d,q,none⟩::os) e σ K⟩) (B:=⟨aO T os (Env.put e d (.tuple [])) σ K⟩) (Env.get e t) want:=by simp only [aO,bG]
theorem aGY (ds:List ADOper) (e:Env) (σ:St) (K:KJ):wp T (.dreg ds) e σ K=rK (K:=⟨K⟩) T (.dreg ds) e σ:=by simp only [wp,rK]
theorem NX {ds:List ADOper} {e:Env} {σ:St} {K:KJ} (h:wpD T ds e (σ++dX ds) σ.length [σ++dX ds] [] fun e σ=>K none e σ):rK (K:=⟨K⟩) T (.dreg ds) e σ:=.dreg (kZ h fun e σ hk=>hk)
theorem aF8 (e:Env) (σ:St) (next:Nat) (hist:List St) (reads:List ARead) (K:Env→St→Prop):wpD T [] e σ next hist reads K=(sA reads hist∧K e σ):=by simp only [wpD]
theorem aAZ (f:AOpd) (xs:List AOpd) (d:Option Nat) (lo hi:Nat) (ds:List ADOper) (e:Env) (σ:St) (next:Nat) (hist:List St) (reads:List ARead) (K:Env→St→Prop) :
  wpD T (⟨⟨d,.call f xs,none⟩,lo,hi⟩::ds) e σ next hist reads K=cD (K:=⟨fun v σ'=>wpD T ds (Env.put e d v) σ' next (hist++[σ']) reads K⟩) T (f.ev e) (evs e xs) σ:=by simp only [wpD,nP,cD]
theorem XM (z:List AV) (d:Option Nat) (lo hi:Nat) (ds:List ADOper) (e:Env) (σ:St) (next:Nat) (hist:List St) (reads:List ARead) (K:Env→St→Prop) :
  wpD T (⟨⟨d,.alloc z,none⟩,lo,hi⟩::ds) e σ next hist reads K=wpD T ds (Env.put e d (.ptr next 0)) σ (next+1) hist reads K:=by simp only [wpD]
def vK (lo hi:Nat) (q:AOp) (e:Env) (v:AV):List St→Nat→Prop
 |[],_=>True
 |s::ss,j=>(if lo≤j∧j≤hi then aop q e s=some (v,s) else True)∧vK lo hi q e v ss (j+1)
theorem JQ (r:ARead):∀ (ss:List St) (j:Nat),vK r.lo r.hi r.op r.env r.v ss j=EN r ss j
 |[],j=>by simp only [vK,EN]
 |s::ss,j=>by simp only [vK,EN,JQ r ss (j+1)]
theorem RE (hist:List St):sA [] hist=True:=by simp only [sA]
theorem SM (lo hi:Nat) (q:AOp) (e:Env) (v:AV) (rs:List ARead) (hist:List St):sA (⟨lo,hi,q,e,v⟩::rs) hist=(vK lo hi q e v hist 0∧sA rs hist):=by
 simp only [sA];rw [←JQ]
theorem WS (lo hi:Nat) (q:AOp) (e:Env) (v:AV) (j:Nat):vK lo hi q e v [] j=True:=by simp only [vK]
theorem YB (lo hi:Nat) (q:AOp) (e:Env) (v:AV) (s:St) (ss:List St) (j:Nat):vK lo hi q e v (s::ss) j=((if lo≤j∧j≤hi then aop q e s=some (v,s) else True)∧vK lo hi q e v ss (j+1)):=by simp only [vK]
theorem aGV (x:AOpd) (d:Option Nat) (wl wh:Nat) (ds:List ADOper) (e:Env) (σ:St) (next:Nat) (hist:List St) (reads:List ARead) (K:Env→St→Prop):wpD T (⟨⟨d,.mov x,none⟩,wl,wh⟩::ds) e σ next hist reads K=bO (K:=⟨fun v σ'=>σ'=σ∧wpD T ds (Env.put e d v) σ next hist reads K⟩) (aop (.mov x) e σ):=by
 simp only [wpD,bO,AOp.acts,AOp.reads,if_true,Bool.false_eq_true,if_false]
theorem aCQ (c x y:AOpd) (d:Option Nat) (wl wh:Nat) (ds:List ADOper) (e:Env) (σ:St) (next:Nat) (hist:List St) (reads:List ARead) (K:Env→St→Prop):wpD T (⟨⟨d,.pick c x y,none⟩,wl,wh⟩::ds) e σ next hist reads K=bO (K:=⟨fun v σ'=>σ'=σ∧wpD T ds (Env.put e d v) σ next hist reads K⟩) (aop (.pick c x y) e σ):=by
 simp only [wpD,bO,AOp.acts,AOp.reads,if_true,Bool.false_eq_true,if_false]
theorem aFR (n:Nat) (x:AOpd) (d:Option Nat) (wl wh:Nat) (ds:List ADOper) (e:Env) (σ:St) (next:Nat) (hist:List St) (reads:List ARead) (K:Env→St→Prop):wpD T (⟨⟨d,.box n x,none⟩,wl,wh⟩::ds) e σ next hist reads K=bO (K:=⟨fun v σ'=>wpD T ds (Env.put e d v) σ' next (hist++[σ']) reads K⟩) (aop (.box n x) e σ):=by
 simp only [wpD,bO,AOp.acts,AOp.reads,if_true,Bool.false_eq_true,if_false]
theorem XP (z:List AV) (ps:List (Nat×Nat×AOpd)) (d:Option Nat) (wl wh:Nat) (ds:List ADOper) (e:Env) (σ:St) (next:Nat) (hist:List St) (reads:List ARead) (K:Env→St→Prop):wpD T (⟨⟨d,.build z ps,none⟩,wl,wh⟩::ds) e σ next hist reads K=bO (K:=⟨fun v σ'=>σ'=σ∧wpD T ds (Env.put e d v) σ next hist reads K⟩) (aop (.build z ps) e σ):=by
 simp only [wpD,bO,AOp.acts,AOp.reads,if_true,Bool.false_eq_true,if_false]
theorem XX (n:Nat) (xs:List AOpd) (d:Option Nat) (wl wh:Nat) (ds:List ADOper) (e:Env) (σ:St) (next:Nat) (hist:List St) (reads:List ARead) (K:Env→St→Prop):wpD T (⟨⟨d,.mklit n xs,none⟩,wl,wh⟩::ds) e σ next hist reads K=bO (K:=⟨fun v σ'=>σ'=σ∧wpD T ds (Env.put e d v) σ next hist reads K⟩) (aop (.mklit n xs) e σ):=by
 simp only [wpD,bO,AOp.acts,AOp.reads,if_true,Bool.false_eq_true,if_false]
theorem WH (n:Nat) (xs:List AOpd) (d:Option Nat) (wl wh:Nat) (ds:List ADOper) (e:Env) (σ:St) (next:Nat) (hist:List St) (reads:List ARead) (K:Env→St→Prop):wpD T (⟨⟨d,.mkref n xs,none⟩,wl,wh⟩::ds) e σ next hist reads K=bO (K:=⟨fun v σ'=>wpD T ds (Env.put e d v) σ' next (hist++[σ']) reads K⟩) (aop (.mkref n xs) e σ):=by
 simp only [wpD,bO,AOp.acts,AOp.reads,if_true,Bool.false_eq_true,if_false]
theorem aB5 (sh:Option Nat) (x:AOpd) (d:Option Nat) (wl wh:Nat) (ds:List ADOper) (e:Env) (σ:St) (next:Nat) (hist:List St) (reads:List ARead) (K:Env→St→Prop):wpD T (⟨⟨d,.load sh x,none⟩,wl,wh⟩::ds) e σ next hist reads K=bO (K:=⟨fun v σ'=>σ'=σ∧wpD T ds (Env.put e d v) σ next hist (⟨wl,wh,.load sh x,e,v⟩::reads) K⟩) (aop (.load sh x) e σ):=by
 simp only [wpD,bO,AOp.acts,AOp.reads,if_true,Bool.false_eq_true,if_false]
theorem YL (n:Nat) (x y:AOpd) (d:Option Nat) (wl wh:Nat) (ds:List ADOper) (e:Env) (σ:St) (next:Nat) (hist:List St) (reads:List ARead) (K:Env→St→Prop):wpD T (⟨⟨d,.store n x y,none⟩,wl,wh⟩::ds) e σ next hist reads K=bO (K:=⟨fun v σ'=>wpD T ds (Env.put e d v) σ' next (hist++[σ']) reads K⟩) (aop (.store n x y) e σ):=by
 simp only [wpD,bO,AOp.acts,AOp.reads,if_true,Bool.false_eq_true,if_false]
theorem MU (x:AOpd) (d:Option Nat) (wl wh:Nat) (ds:List ADOper) (e:Env) (σ:St) (next:Nat) (hist:List St) (reads:List ARead) (K:Env→St→Prop):wpD T (⟨⟨d,.nilCheck x,none⟩,wl,wh⟩::ds) e σ next hist reads K=bO (K:=⟨fun v σ'=>σ'=σ∧wpD T ds (Env.put e d v) σ next hist reads K⟩) (aop (.nilCheck x) e σ):=by
 simp only [wpD,bO,AOp.acts,AOp.reads,if_true,Bool.false_eq_true,if_false]
theorem aE5 (op:BinOp) (x y:AOpd) (d:Option Nat) (wl wh:Nat) (ds:List ADOper) (e:Env) (σ:St) (next:Nat) (hist:List St) (reads:List ARead) (K:Env→St→Prop):wpD T (⟨⟨d,.bin op x y,none⟩,wl,wh⟩::ds) e σ next hist reads K=bO (K:=⟨fun v σ'=>σ'=σ∧wpD T ds (Env.put e d v) σ next hist reads K⟩) (aop (.bin op x y) e σ):=by
 simp only [wpD,bO,AOp.acts,AOp.reads,if_true,Bool.false_eq_true,if_false]
theorem aGO (sh:EqTy) (n:Bool) (x y:AOpd) (d:Option Nat) (wl wh:Nat) (ds:List ADOper) (e:Env) (σ:St) (next:Nat) (hist:List St) (reads:List ARead) (K:Env→St→Prop):wpD T (⟨⟨d,.eql sh n x y,none⟩,wl,wh⟩::ds) e σ next hist reads K=bO (K:=⟨fun v σ'=>σ'=σ∧wpD T ds (Env.put e d v) σ next hist reads K⟩) (aop (.eql sh n x y) e σ):=by
 simp only [wpD,bO,AOp.acts,AOp.reads,if_true,Bool.false_eq_true,if_false]
theorem aHA (x:AOpd) (d:Option Nat) (wl wh:Nat) (ds:List ADOper) (e:Env) (σ:St) (next:Nat) (hist:List St) (reads:List ARead) (K:Env→St→Prop):wpD T (⟨⟨d,.not x,none⟩,wl,wh⟩::ds) e σ next hist reads K=bO (K:=⟨fun v σ'=>σ'=σ∧wpD T ds (Env.put e d v) σ next hist reads K⟩) (aop (.not x) e σ):=by
 simp only [wpD,bO,AOp.acts,AOp.reads,if_true,Bool.false_eq_true,if_false]
theorem aE9 (x:AOpd) (d:Option Nat) (wl wh:Nat) (ds:List ADOper) (e:Env) (σ:St) (next:Nat) (hist:List St) (reads:List ARead) (K:Env→St→Prop):wpD T (⟨⟨d,.neg x,none⟩,wl,wh⟩::ds) e σ next hist reads K=bO (K:=⟨fun v σ'=>σ'=σ∧wpD T ds (Env.put e d v) σ next hist reads K⟩) (aop (.neg x) e σ):=by
 simp only [wpD,bO,AOp.acts,AOp.reads,if_true,Bool.false_eq_true,if_false]
theorem aA4 (k:IntKind) (x:AOpd) (d:Option Nat) (wl wh:Nat) (ds:List ADOper) (e:Env) (σ:St) (next:Nat) (hist:List St) (reads:List ARead) (K:Env→St→Prop):wpD T (⟨⟨d,.conv k x,none⟩,wl,wh⟩::ds) e σ next hist reads K=bO (K:=⟨fun v σ'=>σ'=σ∧wpD T ds (Env.put e d v) σ next hist reads K⟩) (aop (.conv k x) e σ):=by
 simp only [wpD,bO,AOp.acts,AOp.reads,if_true,Bool.false_eq_true,if_false]
theorem WN (f:FuncId) (xs ys:List AOpd) (d:Option Nat) (wl wh:Nat) (ds:List ADOper) (e:Env) (σ:St) (next:Nat) (hist:List St) (reads:List ARead) (K:Env→St→Prop):wpD T (⟨⟨d,.mkfun f xs ys,none⟩,wl,wh⟩::ds) e σ next hist reads K=bO (K:=⟨fun v σ'=>σ'=σ∧wpD T ds (Env.put e d v) σ next hist reads K⟩) (aop (.mkfun f xs ys) e σ):=by
 simp only [wpD,bO,AOp.acts,AOp.reads,if_true,Bool.false_eq_true,if_false]
theorem WQ  (d:Option Nat) (wl wh:Nat) (ds:List ADOper) (e:Env) (σ:St) (next:Nat) (hist:List St) (reads:List ARead) (K:Env→St→Prop):wpD T (⟨⟨d,.mkmap,none⟩,wl,wh⟩::ds) e σ next hist reads K=bO (K:=⟨fun v σ'=>wpD T ds (Env.put e d v) σ' next (hist++[σ']) reads K⟩) (aop (.mkmap) e σ):=by
 simp only [wpD,bO,AOp.acts,AOp.reads,if_true,Bool.false_eq_true,if_false]
theorem P1 (z:List AV) (b:Nat) (x y:AOpd) (d:Option Nat) (wl wh:Nat) (ds:List ADOper) (e:Env) (σ:St) (next:Nat) (hist:List St) (reads:List ARead) (K:Env→St→Prop):wpD T (⟨⟨d,.mkslice z b x y,none⟩,wl,wh⟩::ds) e σ next hist reads K=bO (K:=⟨fun v σ'=>wpD T ds (Env.put e d v) σ' next (hist++[σ']) reads K⟩) (aop (.mkslice z b x y) e σ):=by
 simp only [wpD,bO,AOp.acts,AOp.reads,if_true,Bool.false_eq_true,if_false]
theorem VC (n:Nat) (x:AOpd) (lo hi mx:Option AOpd) (d:Option Nat) (wl wh:Nat) (ds:List ADOper) (e:Env) (σ:St) (next:Nat) (hist:List St) (reads:List ARead) (K:Env→St→Prop):wpD T (⟨⟨d,.slicev n x lo hi mx,none⟩,wl,wh⟩::ds) e σ next hist reads K=bO (K:=⟨fun v σ'=>σ'=σ∧wpD T ds (Env.put e d v) σ next hist (⟨wl,wh,.slicev n x lo hi mx,e,v⟩::reads) K⟩) (aop (.slicev n x lo hi mx) e σ):=by
 simp only [wpD,bO,AOp.acts,AOp.reads,if_true,Bool.false_eq_true,if_false]
theorem UW (n s:Nat) (x:AOpd) (lo hi:Option AOpd) (d:Option Nat) (wl wh:Nat) (ds:List ADOper) (e:Env) (σ:St) (next:Nat) (hist:List St) (reads:List ARead) (K:Env→St→Prop):wpD T (⟨⟨d,.slicea n s x lo hi,none⟩,wl,wh⟩::ds) e σ next hist reads K=bO (K:=⟨fun v σ'=>σ'=σ∧wpD T ds (Env.put e d v) σ next hist reads K⟩) (aop (.slicea n s x lo hi) e σ):=by
 simp only [wpD,bO,AOp.acts,AOp.reads,if_true,Bool.false_eq_true,if_false]
theorem VX (x:AOpd) (o:Nat) (d:Option Nat) (wl wh:Nat) (ds:List ADOper) (e:Env) (σ:St) (next:Nat) (hist:List St) (reads:List ARead) (K:Env→St→Prop):wpD T (⟨⟨d,.faddr x o,none⟩,wl,wh⟩::ds) e σ next hist reads K=bO (K:=⟨fun v σ'=>σ'=σ∧wpD T ds (Env.put e d v) σ next hist reads K⟩) (aop (.faddr x o) e σ):=by
 simp only [wpD,bO,AOp.acts,AOp.reads,if_true,Bool.false_eq_true,if_false]
theorem XI (x:AOpd) (o:Nat) (sh:Option Nat) (d:Option Nat) (wl wh:Nat) (ds:List ADOper) (e:Env) (σ:St) (next:Nat) (hist:List St) (reads:List ARead) (K:Env→St→Prop):wpD T (⟨⟨d,.field x o sh,none⟩,wl,wh⟩::ds) e σ next hist reads K=bO (K:=⟨fun v σ'=>σ'=σ∧wpD T ds (Env.put e d v) σ next hist reads K⟩) (aop (.field x o sh) e σ):=by
 simp only [wpD,bO,AOp.acts,AOp.reads,if_true,Bool.false_eq_true,if_false]
theorem XL (a:Option Nat) (s:Nat) (x i:AOpd) (d:Option Nat) (wl wh:Nat) (ds:List ADOper) (e:Env) (σ:St) (next:Nat) (hist:List St) (reads:List ARead) (K:Env→St→Prop):wpD T (⟨⟨d,.iaddr a s x i,none⟩,wl,wh⟩::ds) e σ next hist reads K=bO (K:=⟨fun v σ'=>σ'=σ∧wpD T ds (Env.put e d v) σ next hist reads K⟩) (aop (.iaddr a s x i) e σ):=by
 simp only [wpD,bO,AOp.acts,AOp.reads,if_true,Bool.false_eq_true,if_false]
theorem XF (n s:Nat) (sh:Option Nat) (x i:AOpd) (d:Option Nat) (wl wh:Nat) (ds:List ADOper) (e:Env) (σ:St) (next:Nat) (hist:List St) (reads:List ARead) (K:Env→St→Prop):wpD T (⟨⟨d,.index n s sh x i,none⟩,wl,wh⟩::ds) e σ next hist reads K=bO (K:=⟨fun v σ'=>σ'=σ∧wpD T ds (Env.put e d v) σ next hist reads K⟩) (aop (.index n s sh x i) e σ):=by
 simp only [wpD,bO,AOp.acts,AOp.reads,if_true,Bool.false_eq_true,if_false]
theorem U8 (x i:AOpd) (d:Option Nat) (wl wh:Nat) (ds:List ADOper) (e:Env) (σ:St) (next:Nat) (hist:List St) (reads:List ARead) (K:Env→St→Prop):wpD T (⟨⟨d,.sindex x i,none⟩,wl,wh⟩::ds) e σ next hist reads K=bO (K:=⟨fun v σ'=>σ'=σ∧wpD T ds (Env.put e d v) σ next hist reads K⟩) (aop (.sindex x i) e σ):=by
 simp only [wpD,bO,AOp.acts,AOp.reads,if_true,Bool.false_eq_true,if_false]
theorem UP (sh:EqTy) (ok:Bool) (z:AV) (m k:AOpd) (d:Option Nat) (wl wh:Nat) (ds:List ADOper) (e:Env) (σ:St) (next:Nat) (hist:List St) (reads:List ARead) (K:Env→St→Prop):wpD T (⟨⟨d,.lookup sh ok z m k,none⟩,wl,wh⟩::ds) e σ next hist reads K=bO (K:=⟨fun v σ'=>σ'=σ∧wpD T ds (Env.put e d v) σ next hist (⟨wl,wh,.lookup sh ok z m k,e,v⟩::reads) K⟩) (aop (.lookup sh ok z m k) e σ):=by
 simp only [wpD,bO,AOp.acts,AOp.reads,if_true,Bool.false_eq_true,if_false]
theorem SF (sh:EqTy) (m k v:AOpd) (d:Option Nat) (wl wh:Nat) (ds:List ADOper) (e:Env) (σ:St) (next:Nat) (hist:List St) (reads:List ARead) (K:Env→St→Prop):wpD T (⟨⟨d,.mapset sh m k v,none⟩,wl,wh⟩::ds) e σ next hist reads K=bO (K:=⟨fun v σ'=>wpD T ds (Env.put e d v) σ' next (hist++[σ']) reads K⟩) (aop (.mapset sh m k v) e σ):=by
 simp only [wpD,bO,AOp.acts,AOp.reads,if_true,Bool.false_eq_true,if_false]
theorem aEC (x:AOpd) (i:Nat) (d:Option Nat) (wl wh:Nat) (ds:List ADOper) (e:Env) (σ:St) (next:Nat) (hist:List St) (reads:List ARead) (K:Env→St→Prop):wpD T (⟨⟨d,.ext x i,none⟩,wl,wh⟩::ds) e σ next hist reads K=bO (K:=⟨fun v σ'=>σ'=σ∧wpD T ds (Env.put e d v) σ next hist reads K⟩) (aop (.ext x i) e σ):=by
 simp only [wpD,bO,AOp.acts,AOp.reads,if_true,Bool.false_eq_true,if_false]
theorem aD4 (k:Nat) (x:AOpd) (d:Option Nat) (wl wh:Nat) (ds:List ADOper) (e:Env) (σ:St) (next:Nat) (hist:List St) (reads:List ARead) (K:Env→St→Prop):wpD T (⟨⟨d,.len k x,none⟩,wl,wh⟩::ds) e σ next hist reads K=bO (K:=⟨fun v σ'=>σ'=σ∧wpD T ds (Env.put e d v) σ next hist (⟨wl,wh,.len k x,e,v⟩::reads) K⟩) (aop (.len k x) e σ):=by
 simp only [wpD,bO,AOp.acts,AOp.reads,if_true,Bool.false_eq_true,if_false]
theorem RW (n b:Nat) (x y:AOpd) (d:Option Nat) (wl wh:Nat) (ds:List ADOper) (e:Env) (σ:St) (next:Nat) (hist:List St) (reads:List ARead) (K:Env→St→Prop):wpD T (⟨⟨d,.append n b x y,none⟩,wl,wh⟩::ds) e σ next hist reads K=bO (K:=⟨fun v σ'=>wpD T ds (Env.put e d v) σ' next (hist++[σ']) reads K⟩) (aop (.append n b x y) e σ):=by
 simp only [wpD,bO,AOp.acts,AOp.reads,if_true,Bool.false_eq_true,if_false]
theorem VZ (n b:Nat) (x y:AOpd) (d:Option Nat) (wl wh:Nat) (ds:List ADOper) (e:Env) (σ:St) (next:Nat) (hist:List St) (reads:List ARead) (K:Env→St→Prop):wpD T (⟨⟨d,.apref n b x y,none⟩,wl,wh⟩::ds) e σ next hist reads K=bO (K:=⟨fun v σ'=>wpD T ds (Env.put e d v) σ' next (hist++[σ']) reads K⟩) (aop (.apref n b x y) e σ):=by
 simp only [wpD,bO,AOp.acts,AOp.reads,if_true,Bool.false_eq_true,if_false]
theorem aDB (n:Nat) (x y:AOpd) (d:Option Nat) (wl wh:Nat) (ds:List ADOper) (e:Env) (σ:St) (next:Nat) (hist:List St) (reads:List ARead) (K:Env→St→Prop):wpD T (⟨⟨d,.copy n x y,none⟩,wl,wh⟩::ds) e σ next hist reads K=bO (K:=⟨fun v σ'=>wpD T ds (Env.put e d v) σ' next (hist++[σ']) reads K⟩) (aop (.copy n x y) e σ):=by
 simp only [wpD,bO,AOp.acts,AOp.reads,if_true,Bool.false_eq_true,if_false]
theorem aFO (xs:List AOpd) (d:Option Nat) (wl wh:Nat) (ds:List ADOper) (e:Env) (σ:St) (next:Nat) (hist:List St) (reads:List ARead) (K:Env→St→Prop):wpD T (⟨⟨d,.min xs,none⟩,wl,wh⟩::ds) e σ next hist reads K=bO (K:=⟨fun v σ'=>σ'=σ∧wpD T ds (Env.put e d v) σ next hist reads K⟩) (aop (.min xs) e σ):=by
 simp only [wpD,bO,AOp.acts,AOp.reads,if_true,Bool.false_eq_true,if_false]
theorem aEB (xs:List AOpd) (d:Option Nat) (wl wh:Nat) (ds:List ADOper) (e:Env) (σ:St) (next:Nat) (hist:List St) (reads:List ARead) (K:Env→St→Prop):wpD T (⟨⟨d,.max xs,none⟩,wl,wh⟩::ds) e σ next hist reads K=bO (K:=⟨fun v σ'=>σ'=σ∧wpD T ds (Env.put e d v) σ next hist reads K⟩) (aop (.max xs) e σ):=by
 simp only [wpD,bO,AOp.acts,AOp.reads,if_true,Bool.false_eq_true,if_false]
theorem Q2 (x:AOpd) (d:Option Nat) (wl wh:Nat) (ds:List ADOper) (e:Env) (σ:St) (next:Nat) (hist:List St) (reads:List ARead) (K:Env→St→Prop):wpD T (⟨⟨d,.srange x,none⟩,wl,wh⟩::ds) e σ next hist reads K=bO (K:=⟨fun v σ'=>wpD T ds (Env.put e d v) σ' next (hist++[σ']) reads K⟩) (aop (.srange x) e σ):=by
 simp only [wpD,bO,AOp.acts,AOp.reads,if_true,Bool.false_eq_true,if_false]
theorem WW (x:AOpd) (d:Option Nat) (wl wh:Nat) (ds:List ADOper) (e:Env) (σ:St) (next:Nat) (hist:List St) (reads:List ARead) (K:Env→St→Prop):wpD T (⟨⟨d,.snext x,none⟩,wl,wh⟩::ds) e σ next hist reads K=bO (K:=⟨fun v σ'=>wpD T ds (Env.put e d v) σ' next (hist++[σ']) reads K⟩) (aop (.snext x) e σ):=by
 simp only [wpD,bO,AOp.acts,AOp.reads,if_true,Bool.false_eq_true,if_false]
theorem TW (f:AOpd) (xs:List AOpd) (t:Nat) (want:Bool) (d:Option Nat) (wl wh:Nat) (ds:List ADOper) (e:Env) (σ:St) (next:Nat) (hist:List St) (reads:List ARead) (K:Env→St→Prop):wpD T (⟨⟨d,.call f xs,some (t,want)⟩,wl,wh⟩::ds) e σ next hist reads K =
  bG (A:=⟨wpD T (⟨⟨d,.call f xs,none⟩,wl,wh⟩::ds) e σ next hist reads K⟩) (B:=⟨wpD T ds (Env.put e d (.tuple [])) σ next (hist++[σ]) reads K⟩) (Env.get e t) want:=by simp only [wpD,bG]
theorem aD6 (x:AOpd) (t:Nat) (want:Bool) (d:Option Nat) (wl wh:Nat) (ds:List ADOper) (e:Env) (σ:St) (next:Nat) (hist:List St) (reads:List ARead) (K:Env→St→Prop):wpD T (⟨⟨d,.mov x,some (t,want)⟩,wl,wh⟩::ds) e σ next hist reads K =
  bG (A:=⟨wpD T (⟨⟨d,.mov x,none⟩,wl,wh⟩::ds) e σ next hist reads K⟩) (B:=⟨wpD T ds (Env.put e d (.tuple [])) σ next hist reads K⟩) (Env.get e t) want:=by
 simp only [wpD,bG,AOp.allocs,AOp.acts,true_and,if_true,Bool.false_eq_true,if_false]
theorem aCX (c x y:AOpd) (t:Nat) (want:Bool) (d:Option Nat) (wl wh:Nat) (ds:List ADOper) (e:Env) (σ:St) (next:Nat) (hist:List St) (reads:List ARead) (K:Env→St→Prop):wpD T (⟨⟨d,.pick c x y,some (t,want)⟩,wl,wh⟩::ds) e σ next hist reads K =
  bG (A:=⟨wpD T (⟨⟨d,.pick c x y,none⟩,wl,wh⟩::ds) e σ next hist reads K⟩) (B:=⟨wpD T ds (Env.put e d (.tuple [])) σ next hist reads K⟩) (Env.get e t) want:=by
 simp only [wpD,bG,AOp.allocs,AOp.acts,true_and,if_true,Bool.false_eq_true,if_false]
theorem aEW (n:Nat) (x:AOpd) (t:Nat) (want:Bool) (d:Option Nat) (wl wh:Nat) (ds:List ADOper) (e:Env) (σ:St) (next:Nat) (hist:List St) (reads:List ARead) (K:Env→St→Prop):wpD T (⟨⟨d,.box n x,some (t,want)⟩,wl,wh⟩::ds) e σ next hist reads K =
  bG (A:=⟨wpD T (⟨⟨d,.box n x,none⟩,wl,wh⟩::ds) e σ next hist reads K⟩) (B:=⟨wpD T ds (Env.put e d (.tuple [])) σ next (hist++[σ]) reads K⟩) (Env.get e t) want:=by
 simp only [wpD,bG,AOp.allocs,AOp.acts,true_and,if_true,Bool.false_eq_true,if_false]
theorem V2 (z:List AV) (ps:List (Nat×Nat×AOpd)) (t:Nat) (want:Bool) (d:Option Nat) (wl wh:Nat) (ds:List ADOper) (e:Env) (σ:St) (next:Nat) (hist:List St) (reads:List ARead) (K:Env→St→Prop):wpD T (⟨⟨d,.build z ps,some (t,want)⟩,wl,wh⟩::ds) e σ next hist reads K =
  bG (A:=⟨wpD T (⟨⟨d,.build z ps,none⟩,wl,wh⟩::ds) e σ next hist reads K⟩) (B:=⟨wpD T ds (Env.put e d (.tuple [])) σ next hist reads K⟩) (Env.get e t) want:=by
 simp only [wpD,bG,AOp.allocs,AOp.acts,true_and,if_true,Bool.false_eq_true,if_false]
theorem WO (n:Nat) (xs:List AOpd) (t:Nat) (want:Bool) (d:Option Nat) (wl wh:Nat) (ds:List ADOper) (e:Env) (σ:St) (next:Nat) (hist:List St) (reads:List ARead) (K:Env→St→Prop):wpD T (⟨⟨d,.mklit n xs,some (t,want)⟩,wl,wh⟩::ds) e σ next hist reads K =
  bG (A:=⟨wpD T (⟨⟨d,.mklit n xs,none⟩,wl,wh⟩::ds) e σ next hist reads K⟩) (B:=⟨wpD T ds (Env.put e d (.tuple [])) σ next hist reads K⟩) (Env.get e t) want:=by
 simp only [wpD,bG,AOp.allocs,AOp.acts,true_and,if_true,Bool.false_eq_true,if_false]
theorem WK (n:Nat) (xs:List AOpd) (t:Nat) (want:Bool) (d:Option Nat) (wl wh:Nat) (ds:List ADOper) (e:Env) (σ:St) (next:Nat) (hist:List St) (reads:List ARead) (K:Env→St→Prop):wpD T (⟨⟨d,.mkref n xs,some (t,want)⟩,wl,wh⟩::ds) e σ next hist reads K =
  bG (A:=⟨wpD T (⟨⟨d,.mkref n xs,none⟩,wl,wh⟩::ds) e σ next hist reads K⟩) (B:=⟨wpD T ds (Env.put e d (.tuple [])) σ next (hist++[σ]) reads K⟩) (Env.get e t) want:=by
 simp only [wpD,bG,AOp.allocs,AOp.acts,true_and,if_true,Bool.false_eq_true,if_false]
theorem aA5 (sh:Option Nat) (x:AOpd) (t:Nat) (want:Bool) (d:Option Nat) (wl wh:Nat) (ds:List ADOper) (e:Env) (σ:St) (next:Nat) (hist:List St) (reads:List ARead) (K:Env→St→Prop):wpD T (⟨⟨d,.load sh x,some (t,want)⟩,wl,wh⟩::ds) e σ next hist reads K =
  bG (A:=⟨wpD T (⟨⟨d,.load sh x,none⟩,wl,wh⟩::ds) e σ next hist reads K⟩) (B:=⟨wpD T ds (Env.put e d (.tuple [])) σ next hist reads K⟩) (Env.get e t) want:=by
 simp only [wpD,bG,AOp.allocs,AOp.acts,true_and,if_true,Bool.false_eq_true,if_false]
theorem YU (n:Nat) (x y:AOpd) (t:Nat) (want:Bool) (d:Option Nat) (wl wh:Nat) (ds:List ADOper) (e:Env) (σ:St) (next:Nat) (hist:List St) (reads:List ARead) (K:Env→St→Prop):wpD T (⟨⟨d,.store n x y,some (t,want)⟩,wl,wh⟩::ds) e σ next hist reads K =
  bG (A:=⟨wpD T (⟨⟨d,.store n x y,none⟩,wl,wh⟩::ds) e σ next hist reads K⟩) (B:=⟨wpD T ds (Env.put e d (.tuple [])) σ next (hist++[σ]) reads K⟩) (Env.get e t) want:=by
 simp only [wpD,bG,AOp.allocs,AOp.acts,true_and,if_true,Bool.false_eq_true,if_false]
theorem ND (x:AOpd) (t:Nat) (want:Bool) (d:Option Nat) (wl wh:Nat) (ds:List ADOper) (e:Env) (σ:St) (next:Nat) (hist:List St) (reads:List ARead) (K:Env→St→Prop):wpD T (⟨⟨d,.nilCheck x,some (t,want)⟩,wl,wh⟩::ds) e σ next hist reads K =
  bG (A:=⟨wpD T (⟨⟨d,.nilCheck x,none⟩,wl,wh⟩::ds) e σ next hist reads K⟩) (B:=⟨wpD T ds (Env.put e d (.tuple [])) σ next hist reads K⟩) (Env.get e t) want:=by
 simp only [wpD,bG,AOp.allocs,AOp.acts,true_and,if_true,Bool.false_eq_true,if_false]
theorem aEL (op:BinOp) (x y:AOpd) (t:Nat) (want:Bool) (d:Option Nat) (wl wh:Nat) (ds:List ADOper) (e:Env) (σ:St) (next:Nat) (hist:List St) (reads:List ARead) (K:Env→St→Prop):wpD T (⟨⟨d,.bin op x y,some (t,want)⟩,wl,wh⟩::ds) e σ next hist reads K =
  bG (A:=⟨wpD T (⟨⟨d,.bin op x y,none⟩,wl,wh⟩::ds) e σ next hist reads K⟩) (B:=⟨wpD T ds (Env.put e d (.tuple [])) σ next hist reads K⟩) (Env.get e t) want:=by
 simp only [wpD,bG,AOp.allocs,AOp.acts,true_and,if_true,Bool.false_eq_true,if_false]
theorem aFS (sh:EqTy) (n:Bool) (x y:AOpd) (t:Nat) (want:Bool) (d:Option Nat) (wl wh:Nat) (ds:List ADOper) (e:Env) (σ:St) (next:Nat) (hist:List St) (reads:List ARead) (K:Env→St→Prop):wpD T (⟨⟨d,.eql sh n x y,some (t,want)⟩,wl,wh⟩::ds) e σ next hist reads K =
  bG (A:=⟨wpD T (⟨⟨d,.eql sh n x y,none⟩,wl,wh⟩::ds) e σ next hist reads K⟩) (B:=⟨wpD T ds (Env.put e d (.tuple [])) σ next hist reads K⟩) (Env.get e t) want:=by
 simp only [wpD,bG,AOp.allocs,AOp.acts,true_and,if_true,Bool.false_eq_true,if_false]
theorem aFE (x:AOpd) (t:Nat) (want:Bool) (d:Option Nat) (wl wh:Nat) (ds:List ADOper) (e:Env) (σ:St) (next:Nat) (hist:List St) (reads:List ARead) (K:Env→St→Prop):wpD T (⟨⟨d,.not x,some (t,want)⟩,wl,wh⟩::ds) e σ next hist reads K =
  bG (A:=⟨wpD T (⟨⟨d,.not x,none⟩,wl,wh⟩::ds) e σ next hist reads K⟩) (B:=⟨wpD T ds (Env.put e d (.tuple [])) σ next hist reads K⟩) (Env.get e t) want:=by
 simp only [wpD,bG,AOp.allocs,AOp.acts,true_and,if_true,Bool.false_eq_true,if_false]
theorem aEY (x:AOpd) (t:Nat) (want:Bool) (d:Option Nat) (wl wh:Nat) (ds:List ADOper) (e:Env) (σ:St) (next:Nat) (hist:List St) (reads:List ARead) (K:Env→St→Prop):wpD T (⟨⟨d,.neg x,some (t,want)⟩,wl,wh⟩::ds) e σ next hist reads K =
  bG (A:=⟨wpD T (⟨⟨d,.neg x,none⟩,wl,wh⟩::ds) e σ next hist reads K⟩) (B:=⟨wpD T ds (Env.put e d (.tuple [])) σ next hist reads K⟩) (Env.get e t) want:=by
 simp only [wpD,bG,AOp.allocs,AOp.acts,true_and,if_true,Bool.false_eq_true,if_false]
theorem aBK (k:IntKind) (x:AOpd) (t:Nat) (want:Bool) (d:Option Nat) (wl wh:Nat) (ds:List ADOper) (e:Env) (σ:St) (next:Nat) (hist:List St) (reads:List ARead) (K:Env→St→Prop):wpD T (⟨⟨d,.conv k x,some (t,want)⟩,wl,wh⟩::ds) e σ next hist reads K =
  bG (A:=⟨wpD T (⟨⟨d,.conv k x,none⟩,wl,wh⟩::ds) e σ next hist reads K⟩) (B:=⟨wpD T ds (Env.put e d (.tuple [])) σ next hist reads K⟩) (Env.get e t) want:=by
 simp only [wpD,bG,AOp.allocs,AOp.acts,true_and,if_true,Bool.false_eq_true,if_false]
theorem Y0 (f:FuncId) (xs ys:List AOpd) (t:Nat) (want:Bool) (d:Option Nat) (wl wh:Nat) (ds:List ADOper) (e:Env) (σ:St) (next:Nat) (hist:List St) (reads:List ARead) (K:Env→St→Prop):wpD T (⟨⟨d,.mkfun f xs ys,some (t,want)⟩,wl,wh⟩::ds) e σ next hist reads K =
  bG (A:=⟨wpD T (⟨⟨d,.mkfun f xs ys,none⟩,wl,wh⟩::ds) e σ next hist reads K⟩) (B:=⟨wpD T ds (Env.put e d (.tuple [])) σ next hist reads K⟩) (Env.get e t) want:=by
 simp only [wpD,bG,AOp.allocs,AOp.acts,true_and,if_true,Bool.false_eq_true,if_false]
theorem XK  (t:Nat) (want:Bool) (d:Option Nat) (wl wh:Nat) (ds:List ADOper) (e:Env) (σ:St) (next:Nat) (hist:List St) (reads:List ARead) (K:Env→St→Prop):wpD T (⟨⟨d,.mkmap,some (t,want)⟩,wl,wh⟩::ds) e σ next hist reads K =
  bG (A:=⟨wpD T (⟨⟨d,.mkmap,none⟩,wl,wh⟩::ds) e σ next hist reads K⟩) (B:=⟨wpD T ds (Env.put e d (.tuple [])) σ next (hist++[σ]) reads K⟩) (Env.get e t) want:=by
 simp only [wpD,bG,AOp.allocs,AOp.acts,true_and,if_true,Bool.false_eq_true,if_false]
theorem P4 (z:List AV) (b:Nat) (x y:AOpd) (t:Nat) (want:Bool) (d:Option Nat) (wl wh:Nat) (ds:List ADOper) (e:Env) (σ:St) (next:Nat) (hist:List St) (reads:List ARead) (K:Env→St→Prop):wpD T (⟨⟨d,.mkslice z b x y,some (t,want)⟩,wl,wh⟩::ds) e σ next hist reads K =
  bG (A:=⟨wpD T (⟨⟨d,.mkslice z b x y,none⟩,wl,wh⟩::ds) e σ next hist reads K⟩) (B:=⟨wpD T ds (Env.put e d (.tuple [])) σ next (hist++[σ]) reads K⟩) (Env.get e t) want:=by
 simp only [wpD,bG,AOp.allocs,AOp.acts,true_and,if_true,Bool.false_eq_true,if_false]
theorem RK (n:Nat) (x:AOpd) (lo hi mx:Option AOpd) (t:Nat) (want:Bool) (d:Option Nat) (wl wh:Nat) (ds:List ADOper) (e:Env) (σ:St) (next:Nat) (hist:List St) (reads:List ARead) (K:Env→St→Prop):wpD T (⟨⟨d,.slicev n x lo hi mx,some (t,want)⟩,wl,wh⟩::ds) e σ next hist reads K =
  bG (A:=⟨wpD T (⟨⟨d,.slicev n x lo hi mx,none⟩,wl,wh⟩::ds) e σ next hist reads K⟩) (B:=⟨wpD T ds (Env.put e d (.tuple [])) σ next hist reads K⟩) (Env.get e t) want:=by
 simp only [wpD,bG,AOp.allocs,AOp.acts,true_and,if_true,Bool.false_eq_true,if_false]
theorem TH (n s:Nat) (x:AOpd) (lo hi:Option AOpd) (t:Nat) (want:Bool) (d:Option Nat) (wl wh:Nat) (ds:List ADOper) (e:Env) (σ:St) (next:Nat) (hist:List St) (reads:List ARead) (K:Env→St→Prop):wpD T (⟨⟨d,.slicea n s x lo hi,some (t,want)⟩,wl,wh⟩::ds) e σ next hist reads K =
  bG (A:=⟨wpD T (⟨⟨d,.slicea n s x lo hi,none⟩,wl,wh⟩::ds) e σ next hist reads K⟩) (B:=⟨wpD T ds (Env.put e d (.tuple [])) σ next hist reads K⟩) (Env.get e t) want:=by
 simp only [wpD,bG,AOp.allocs,AOp.acts,true_and,if_true,Bool.false_eq_true,if_false]
theorem XC (x:AOpd) (o:Nat) (t:Nat) (want:Bool) (d:Option Nat) (wl wh:Nat) (ds:List ADOper) (e:Env) (σ:St) (next:Nat) (hist:List St) (reads:List ARead) (K:Env→St→Prop):wpD T (⟨⟨d,.faddr x o,some (t,want)⟩,wl,wh⟩::ds) e σ next hist reads K =
  bG (A:=⟨wpD T (⟨⟨d,.faddr x o,none⟩,wl,wh⟩::ds) e σ next hist reads K⟩) (B:=⟨wpD T ds (Env.put e d (.tuple [])) σ next hist reads K⟩) (Env.get e t) want:=by
 simp only [wpD,bG,AOp.allocs,AOp.acts,true_and,if_true,Bool.false_eq_true,if_false]
theorem XO (x:AOpd) (o:Nat) (sh:Option Nat) (t:Nat) (want:Bool) (d:Option Nat) (wl wh:Nat) (ds:List ADOper) (e:Env) (σ:St) (next:Nat) (hist:List St) (reads:List ARead) (K:Env→St→Prop):wpD T (⟨⟨d,.field x o sh,some (t,want)⟩,wl,wh⟩::ds) e σ next hist reads K =
  bG (A:=⟨wpD T (⟨⟨d,.field x o sh,none⟩,wl,wh⟩::ds) e σ next hist reads K⟩) (B:=⟨wpD T ds (Env.put e d (.tuple [])) σ next hist reads K⟩) (Env.get e t) want:=by
 simp only [wpD,bG,AOp.allocs,AOp.acts,true_and,if_true,Bool.false_eq_true,if_false]
theorem VW (a:Option Nat) (s:Nat) (x i:AOpd) (t:Nat) (want:Bool) (d:Option Nat) (wl wh:Nat) (ds:List ADOper) (e:Env) (σ:St) (next:Nat) (hist:List St) (reads:List ARead) (K:Env→St→Prop):wpD T (⟨⟨d,.iaddr a s x i,some (t,want)⟩,wl,wh⟩::ds) e σ next hist reads K =
  bG (A:=⟨wpD T (⟨⟨d,.iaddr a s x i,none⟩,wl,wh⟩::ds) e σ next hist reads K⟩) (B:=⟨wpD T ds (Env.put e d (.tuple [])) σ next hist reads K⟩) (Env.get e t) want:=by
 simp only [wpD,bG,AOp.allocs,AOp.acts,true_and,if_true,Bool.false_eq_true,if_false]
theorem YZ (n s:Nat) (sh:Option Nat) (x i:AOpd) (t:Nat) (want:Bool) (d:Option Nat) (wl wh:Nat) (ds:List ADOper) (e:Env) (σ:St) (next:Nat) (hist:List St) (reads:List ARead) (K:Env→St→Prop):wpD T (⟨⟨d,.index n s sh x i,some (t,want)⟩,wl,wh⟩::ds) e σ next hist reads K =
  bG (A:=⟨wpD T (⟨⟨d,.index n s sh x i,none⟩,wl,wh⟩::ds) e σ next hist reads K⟩) (B:=⟨wpD T ds (Env.put e d (.tuple [])) σ next hist reads K⟩) (Env.get e t) want:=by
 simp only [wpD,bG,AOp.allocs,AOp.acts,true_and,if_true,Bool.false_eq_true,if_false]
theorem S1 (x i:AOpd) (t:Nat) (want:Bool) (d:Option Nat) (wl wh:Nat) (ds:List ADOper) (e:Env) (σ:St) (next:Nat) (hist:List St) (reads:List ARead) (K:Env→St→Prop):wpD T (⟨⟨d,.sindex x i,some (t,want)⟩,wl,wh⟩::ds) e σ next hist reads K =
  bG (A:=⟨wpD T (⟨⟨d,.sindex x i,none⟩,wl,wh⟩::ds) e σ next hist reads K⟩) (B:=⟨wpD T ds (Env.put e d (.tuple [])) σ next hist reads K⟩) (Env.get e t) want:=by
 simp only [wpD,bG,AOp.allocs,AOp.acts,true_and,if_true,Bool.false_eq_true,if_false]
theorem SA (sh:EqTy) (ok:Bool) (z:AV) (m k:AOpd) (t:Nat) (want:Bool) (d:Option Nat) (wl wh:Nat) (ds:List ADOper) (e:Env) (σ:St) (next:Nat) (hist:List St) (reads:List ARead) (K:Env→St→Prop):wpD T (⟨⟨d,.lookup sh ok z m k,some (t,want)⟩,wl,wh⟩::ds) e σ next hist reads K =
  bG (A:=⟨wpD T (⟨⟨d,.lookup sh ok z m k,none⟩,wl,wh⟩::ds) e σ next hist reads K⟩) (B:=⟨wpD T ds (Env.put e d (.tuple [])) σ next hist reads K⟩) (Env.get e t) want:=by
 simp only [wpD,bG,AOp.allocs,AOp.acts,true_and,if_true,Bool.false_eq_true,if_false]
theorem S5 (sh:EqTy) (m k v:AOpd) (t:Nat) (want:Bool) (d:Option Nat) (wl wh:Nat) (ds:List ADOper) (e:Env) (σ:St) (next:Nat) (hist:List St) (reads:List ARead) (K:Env→St→Prop):wpD T (⟨⟨d,.mapset sh m k v,some (t,want)⟩,wl,wh⟩::ds) e σ next hist reads K =
  bG (A:=⟨wpD T (⟨⟨d,.mapset sh m k v,none⟩,wl,wh⟩::ds) e σ next hist reads K⟩) (B:=⟨wpD T ds (Env.put e d (.tuple [])) σ next (hist++[σ]) reads K⟩) (Env.get e t) want:=by
 simp only [wpD,bG,AOp.allocs,AOp.acts,true_and,if_true,Bool.false_eq_true,if_false]
theorem aGW (x:AOpd) (i:Nat) (t:Nat) (want:Bool) (d:Option Nat) (wl wh:Nat) (ds:List ADOper) (e:Env) (σ:St) (next:Nat) (hist:List St) (reads:List ARead) (K:Env→St→Prop):wpD T (⟨⟨d,.ext x i,some (t,want)⟩,wl,wh⟩::ds) e σ next hist reads K =
  bG (A:=⟨wpD T (⟨⟨d,.ext x i,none⟩,wl,wh⟩::ds) e σ next hist reads K⟩) (B:=⟨wpD T ds (Env.put e d (.tuple [])) σ next hist reads K⟩) (Env.get e t) want:=by
 simp only [wpD,bG,AOp.allocs,AOp.acts,true_and,if_true,Bool.false_eq_true,if_false]
theorem aGZ (k:Nat) (x:AOpd) (t:Nat) (want:Bool) (d:Option Nat) (wl wh:Nat) (ds:List ADOper) (e:Env) (σ:St) (next:Nat) (hist:List St) (reads:List ARead) (K:Env→St→Prop):wpD T (⟨⟨d,.len k x,some (t,want)⟩,wl,wh⟩::ds) e σ next hist reads K =
  bG (A:=⟨wpD T (⟨⟨d,.len k x,none⟩,wl,wh⟩::ds) e σ next hist reads K⟩) (B:=⟨wpD T ds (Env.put e d (.tuple [])) σ next hist reads K⟩) (Env.get e t) want:=by
 simp only [wpD,bG,AOp.allocs,AOp.acts,true_and,if_true,Bool.false_eq_true,if_false]
theorem TN (n b:Nat) (x y:AOpd) (t:Nat) (want:Bool) (d:Option Nat) (wl wh:Nat) (ds:List ADOper) (e:Env) (σ:St) (next:Nat) (hist:List St) (reads:List ARead) (K:Env→St→Prop):wpD T (⟨⟨d,.append n b x y,some (t,want)⟩,wl,wh⟩::ds) e σ next hist reads K =
  bG (A:=⟨wpD T (⟨⟨d,.append n b x y,none⟩,wl,wh⟩::ds) e σ next hist reads K⟩) (B:=⟨wpD T ds (Env.put e d (.tuple [])) σ next (hist++[σ]) reads K⟩) (Env.get e t) want:=by
 simp only [wpD,bG,AOp.allocs,AOp.acts,true_and,if_true,Bool.false_eq_true,if_false]
theorem XZ (n b:Nat) (x y:AOpd) (t:Nat) (want:Bool) (d:Option Nat) (wl wh:Nat) (ds:List ADOper) (e:Env) (σ:St) (next:Nat) (hist:List St) (reads:List ARead) (K:Env→St→Prop):wpD T (⟨⟨d,.apref n b x y,some (t,want)⟩,wl,wh⟩::ds) e σ next hist reads K =
  bG (A:=⟨wpD T (⟨⟨d,.apref n b x y,none⟩,wl,wh⟩::ds) e σ next hist reads K⟩) (B:=⟨wpD T ds (Env.put e d (.tuple [])) σ next (hist++[σ]) reads K⟩) (Env.get e t) want:=by
 simp only [wpD,bG,AOp.allocs,AOp.acts,true_and,if_true,Bool.false_eq_true,if_false]
theorem aAW (n:Nat) (x y:AOpd) (t:Nat) (want:Bool) (d:Option Nat) (wl wh:Nat) (ds:List ADOper) (e:Env) (σ:St) (next:Nat) (hist:List St) (reads:List ARead) (K:Env→St→Prop):wpD T (⟨⟨d,.copy n x y,some (t,want)⟩,wl,wh⟩::ds) e σ next hist reads K =
  bG (A:=⟨wpD T (⟨⟨d,.copy n x y,none⟩,wl,wh⟩::ds) e σ next hist reads K⟩) (B:=⟨wpD T ds (Env.put e d (.tuple [])) σ next (hist++[σ]) reads K⟩) (Env.get e t) want:=by
 simp only [wpD,bG,AOp.allocs,AOp.acts,true_and,if_true,Bool.false_eq_true,if_false]
theorem aGL (xs:List AOpd) (t:Nat) (want:Bool) (d:Option Nat) (wl wh:Nat) (ds:List ADOper) (e:Env) (σ:St) (next:Nat) (hist:List St) (reads:List ARead) (K:Env→St→Prop):wpD T (⟨⟨d,.min xs,some (t,want)⟩,wl,wh⟩::ds) e σ next hist reads K =
  bG (A:=⟨wpD T (⟨⟨d,.min xs,none⟩,wl,wh⟩::ds) e σ next hist reads K⟩) (B:=⟨wpD T ds (Env.put e d (.tuple [])) σ next hist reads K⟩) (Env.get e t) want:=by
 simp only [wpD,bG,AOp.allocs,AOp.acts,true_and,if_true,Bool.false_eq_true,if_false]
theorem aFB (xs:List AOpd) (t:Nat) (want:Bool) (d:Option Nat) (wl wh:Nat) (ds:List ADOper) (e:Env) (σ:St) (next:Nat) (hist:List St) (reads:List ARead) (K:Env→St→Prop):wpD T (⟨⟨d,.max xs,some (t,want)⟩,wl,wh⟩::ds) e σ next hist reads K =
  bG (A:=⟨wpD T (⟨⟨d,.max xs,none⟩,wl,wh⟩::ds) e σ next hist reads K⟩) (B:=⟨wpD T ds (Env.put e d (.tuple [])) σ next hist reads K⟩) (Env.get e t) want:=by
 simp only [wpD,bG,AOp.allocs,AOp.acts,true_and,if_true,Bool.false_eq_true,if_false]
theorem VM (x:AOpd) (t:Nat) (want:Bool) (d:Option Nat) (wl wh:Nat) (ds:List ADOper) (e:Env) (σ:St) (next:Nat) (hist:List St) (reads:List ARead) (K:Env→St→Prop):wpD T (⟨⟨d,.srange x,some (t,want)⟩,wl,wh⟩::ds) e σ next hist reads K =
  bG (A:=⟨wpD T (⟨⟨d,.srange x,none⟩,wl,wh⟩::ds) e σ next hist reads K⟩) (B:=⟨wpD T ds (Env.put e d (.tuple [])) σ next (hist++[σ]) reads K⟩) (Env.get e t) want:=by
 simp only [wpD,bG,AOp.allocs,AOp.acts,true_and,if_true,Bool.false_eq_true,if_false]
theorem YJ (x:AOpd) (t:Nat) (want:Bool) (d:Option Nat) (wl wh:Nat) (ds:List ADOper) (e:Env) (σ:St) (next:Nat) (hist:List St) (reads:List ARead) (K:Env→St→Prop):wpD T (⟨⟨d,.snext x,some (t,want)⟩,wl,wh⟩::ds) e σ next hist reads K =
  bG (A:=⟨wpD T (⟨⟨d,.snext x,none⟩,wl,wh⟩::ds) e σ next hist reads K⟩) (B:=⟨wpD T ds (Env.put e d (.tuple [])) σ next (hist++[σ]) reads K⟩) (Env.get e t) want:=by
 simp only [wpD,bG,AOp.allocs,AOp.acts,true_and,if_true,Bool.false_eq_true,if_false]
end Go.Am
namespace Go.Am
variable {T:FuncId→Option AFunc}
structure KeepS (σ σ':St) (lo:Nat):Prop where
 len:σ.length≤σ'.length
 low:∀ i,i<lo→i<σ.length→σ'[i]? = σ[i]?
 loops:∀ (i:Nat) (st:LS) (pe:Option AJump) (env:Env) (ps:List Nat) (a b:ACode),i<σ.length→σ'[i]? = some (.loop st pe env ps a b)→∃ st' pe',σ[i]? = some (.loop st' pe' env ps a b)
theorem KeepS.refl (σ:St) (lo:Nat):KeepS σ σ lo:=⟨Nat.le_refl _,fun _ _ _=>rfl,fun i st pe env ps a b _ h=>⟨st,pe,h⟩⟩
theorem KeepS.weak {σ σ':St} {lo l:Nat} (h:KeepS σ σ' lo) (hl:l≤lo):KeepS σ σ' l:=⟨h.len,fun i hi=>h.low i (by omega),h.loops⟩
theorem KeepS.trans {σ σ1 σ2:St} {l1 l2:Nat} (h:KeepS σ σ1 l1) (k:KeepS σ1 σ2 l2):KeepS σ σ2 (Nat.min l1 l2) where
 len:=Nat.le_trans h.len k.len
 low i hi hlt:=by
  have h1:i<l1:=Nat.lt_of_lt_of_le hi (Nat.min_le_left _ _)
  have h2:i<l2:=Nat.lt_of_lt_of_le hi (Nat.min_le_right _ _)
  rw [k.low i h2 (Nat.lt_of_lt_of_le hlt h.len),h.low i h1 hlt]
 loops i st pe env ps a b hlt e:=by
  obtain ⟨st1,pe1,e1⟩:=k.loops i st pe env ps a b (Nat.lt_of_lt_of_le hlt h.len) e
  exact h.loops i st1 pe1 env ps a b hlt e1
theorem KeepS.app (σ:St) (τ:St) (lo:Nat):KeepS σ (σ++τ) lo :=
 ⟨by simp,fun i _ hi=>List.getElem?_append_left hi,fun i st pe env ps a b hi e=>⟨st,pe,by rw [←List.getElem?_append_left (l₂:=τ) hi];exact e⟩⟩
theorem KeepS.set {σ:St} {i:Nat} {x:ABlk} (hx:∀ st pe env ps a b,x≠.loop st pe env ps a b):KeepS σ (σ.set i x) i where
 len:=by simp
 low j hj _:=List.getElem?_set_ne (by omega)
 loops j st pe env ps a b hj e:=by
  by_cases h:i=j
  ·subst h
   rw [List.getElem?_set_self hj] at e
   cases e
   exact absurd rfl (hx _ _ _ _ _ _)
  ·rw [List.getElem?_set_ne h] at e
   exact ⟨st,pe,e⟩
end Go.Am
namespace Go.Am
variable {T:FuncId→Option AFunc}
theorem KeepS.step {σ σ1 σ2:St} {l lo lo':Nat} (h:KeepS σ σ1 l) (k:lo'≤Nat.min lo l∧KeepS σ1 σ2 lo'):lo'≤lo∧KeepS σ σ2 lo':=by
 have h1:lo'≤l:=Nat.le_trans k.1 (Nat.min_le_right _ _)
 refine ⟨Nat.le_trans k.1 (Nat.min_le_left _ _),(h.trans k.2).weak ?_⟩
 exact Nat.le_min.2 ⟨h1,Nat.le_refl _⟩
end Go.Am
namespace Go.Am
variable {T:FuncId→Option AFunc}
theorem aCP (e:Env):evs e []=[]:=by simp only [evs]
theorem aC9 (e:Env) (x:AOpd) (xs:List AOpd):evs e (x::xs)=x.ev e::evs e xs:=by simp only [evs]
theorem aCS (e:Env):ovs e none=none:=by simp only [ovs]
theorem aA8 (e:Env) (x:AOpd):ovs e (some x)=some (x.ev e):=by simp only [ovs]
theorem aAD {α β:Type} (f:α→β) (a:α):Option.map f (some a)=some (f a):=by simp
theorem UQ {α β:Type} (f:α→Option β) (a:α):(some a).bind f=f a:=by simp
theorem aCO (i o:Nat):HZ (.ptr i o)=some (.ptr i o):=by simp only [HZ]
theorem aC4 (xs:List AV) (i o:Nat) (t:Option Nat):HZ (.lptr xs i o t)=some (.lptr xs i o t):=by simp only [HZ]
theorem aCH (f:FuncId) (a b:List AV):HZ (.func f a b)=some (.func f a b):=by simp only [HZ]
theorem YC (o:Nat) (sh:Option Nat) (cs:List AV):GT o sh (.agg cs)=gC sh cs o:=by simp only [GT]
theorem aB6 (k k':IntKind) (n:Int):NJ k (.int k' n)=some (.int k (k.wrap n)):=by simp only [NJ]
theorem aD7 (k:IntKind) (n:Int):W6 (.int k n)=some (.int k (k.wrap (0-n))):=by simp only [W6]
theorem X3 (x y:AV):E6 (.bool true) x y=some x:=by simp only [E6]
theorem XE (x y:AV):E6 (.bool false) x y=some y:=by simp only [E6]
theorem aF0 (s:ByteArray):V4 (.str s)=some s:=by simp only [V4]
theorem N2 (k:IntKind) (a b:Int):g9 .i (.int k a) (.int k b)=some (a==b):=by simp [g9]
theorem aD9 (a b:Bool):g9 .b (.bool a) (.bool b)=some (a==b):=by simp [g9]
theorem aEK (a b:ByteArray):g9 .s (.str a) (.str b)=some (a.toList==b.toList):=by simp [g9]
def YI:Option Bool→Option Bool→Option Bool
 |some p,some q=>some (p&&q)
 |_,_=>none
theorem GU (p q:Bool):YI (some p) (some q)=some (p&&q):=by simp only [YI]
theorem K6:bK [] [] []=some true:=by simp [bK]
theorem GG (k:SK) (ks:List SK) (a b:AV) (x y:List AV):bK (k::ks) (a::x) (b::y)=YI (g9 k a b) (bK ks x y):=by
 simp only [bK,YI];cases g9 k a b<;>cases bK ks x y<;>rfl
theorem aFK (k:SK) (x y:AV):EF (.one k) false x y=(g9 k x y).map .bool:=by
 simp only [EF,jV];cases g9 k x y<;>simp
theorem aFL (k:SK) (x y:AV):EF (.one k) true x y=(g9 k x y).map fun b=>.bool !b:=by
 simp only [EF,jV];cases g9 k x y<;>simp
theorem aFY (ks:List SK) (x y:List AV):EF (.agg ks) false (.agg x) (.agg y)=(bK ks x y).map .bool:=by
 simp only [EF,jV];cases bK ks x y<;>simp
theorem aAJ (ks:List SK) (x y:List AV):EF (.agg ks) true (.agg x) (.agg y)=(bK ks x y).map fun b=>.bool !b:=by
 simp only [EF,jV];cases bK ks x y<;>simp
theorem aER (k:IntKind) (a b:Int):d7 .add (.int k a) (.int k b)=some (.int k (k.wrap (a+b))):=by simp [d7,j5]
theorem aGS (k:IntKind) (a b:Int):d7 .sub (.int k a) (.int k b)=some (.int k (k.wrap (a-b))):=by simp [d7,j5]
theorem aFJ (k:IntKind) (a b:Int):d7 .mul (.int k a) (.int k b)=some (.int k (k.wrap (a*b))):=by simp [d7,j5]
theorem ZX (k:IntKind) (a b:Int) (h:b≠0):d7 .quo (.int k a) (.int k b)=some (.int k (k.wrap (a.tdiv b))):=by simp [d7,j5,h]
theorem AE (k:IntKind) (a b:Int) (h:b≠0):d7 .rem (.int k a) (.int k b)=some (.int k (a.tmod b)):=by simp [d7,j5,h]
theorem aG4 (k:IntKind) (a b:Int):d7 .lss (.int k a) (.int k b)=some (.bool (decide (a<b))):=by simp [d7,j5]
theorem aGX (k:IntKind) (a b:Int):d7 .leq (.int k a) (.int k b)=some (.bool (decide (a≤b))):=by simp [d7,j5]
theorem aE8 (k:IntKind) (a b:Int):d7 .gtr (.int k a) (.int k b)=some (.bool (decide (b<a))):=by simp [d7,j5]
theorem aEE (k:IntKind) (a b:Int):d7 .geq (.int k a) (.int k b)=some (.bool (decide (b≤a))):=by simp [d7,j5]
theorem aX {x:Int} (h:-9223372036854775808≤x∧x≤9223372036854775807):IntKind.i64.wrap x=x:=by
 simp only [IntKind.wrap,IntKind.signed,IntKind.bits]
 first
  |(rw [Int.bmod_eq_of_le]<;>omega)
  |(simp;omega)
theorem aFV (σ:St) (xs:List AV) (f:Bool) (t:Option Nat):iY 1 σ (.lit xs f t)=some xs.length:=by simp only [iY]
theorem aBS (σ:St) (s:ByteArray):iY 0 σ (.str s)=some s.size:=by simp only [iY]
theorem aC3 (σ:St) (id off len sz:Nat):iY 1 σ (.ref id off len sz)=some len:=by simp only [iY]
theorem aGR (sh:Option Nat) (σ:St) (id off:Nat):lP sh σ (.ptr id off)=(aM σ id).bind fun cs=>gC sh cs off:=by
 simp only [lP];cases aM σ id<;>simp
theorem aBY (sh:Option Nat) (σ:St) (xs:List AV) (i off:Nat) (t:Option Nat):lP sh σ (.lptr xs i off t)=(xs[i]?).bind fun x=>gC sh x.cells off:=by
 simp only [lP];cases xs[i]?<;>simp
theorem FU (b:List AV) (τ:St):aM (.cells b::τ) 0=some b:=by simp [aM]
theorem JI (b:ABlk) (τ:St) (k:Nat):aM (b::τ) (k+1)=aM τ k:=by simp [aM]
theorem nC (σ τ:St) (k:Nat):aM (σ++τ) (σ.length+k)=aM τ k:=by simp only [aM,oI]
theorem YX (σ τ:St):aM (σ++τ) σ.length=aM τ 0:=nC σ τ 0
theorem aGT (cs:List AV) (off:Nat):gC none cs off=cs[off]?:=by simp [gC]
theorem aG5 (n:Nat) (cs:List AV) (off:Nat):gC (some n) cs off=if off+n≤cs.length then some (.agg ((cs.drop off).take n)) else none:=by simp [gC]
theorem YF (n:Nat) (σ:St) (id off:Nat) (v:AV):pE n σ (.ptr id off) v=(sK n v).bind fun us=>(aM σ id).bind fun cs=>(fX cs off us).map fun cs'=>σ.set id (.cells cs'):=by
 simp only [pE,sK]
 split
 ·simp only [Option.bind_some]
  cases aM σ id with
  |none=>simp
  |some cs=>simp only [Option.bind_some];cases fX cs off v.cells<;>simp
 ·simp
theorem aDW (cs us:List AV) (off:Nat):fX cs off us=if off+us.length≤cs.length then some (cs.take off++us++cs.drop (off+us.length)) else none:=by simp only [fX]
def cA (n:Nat) (v:AV):Bool:=v.cells.length==n&&v.cells.all (·.cell)
theorem W9 (n:Nat) (v:AV):sK n v=if cA n v=true then some v.cells else none:=by unfold sK cA;rfl
theorem FI (k:IntKind) (n:Int):cA 1 (.int k n)=true:=by simp [cA,AV.cells,AV.cell]
theorem aBP (b:Bool):cA 1 (.bool b)=true:=by simp [cA,AV.cells,AV.cell]
theorem TA (b:ByteArray):cA 1 (.str b)=true:=by simp [cA,AV.cells,AV.cell]
theorem Y1 (xs:List AV) (f:Bool) (t:Option Nat):cA 1 (.lit xs f t)=true:=by simp [cA,AV.cells,AV.cell]
theorem aE3 (a b c d:Nat):cA 1 (.ref a b c d)=true:=by simp [cA,AV.cells,AV.cell]
theorem aFU (a b:Nat):cA 1 (.ptr a b)=true:=by simp [cA,AV.cells,AV.cell]
theorem aAT (f:FuncId) (a b:List AV):cA 1 (.func f a b)=true:=by simp [cA,AV.cells,AV.cell]
theorem aD3 (i:Nat):cA 1 (.map i)=true:=by simp [cA,AV.cells,AV.cell]
theorem VD:cA 1 .nilPtr=true:=by simp [cA,AV.cells,AV.cell]
theorem PE:cA 1 .nilFunc=true:=by simp [cA,AV.cells,AV.cell]
def bM:List AV→Bool
 |[]=>true
 |v::vs=>v.cell&&bM vs
theorem aF2 (n:Nat) (cs:List AV):cA n (.agg cs)=(cs.length==n&&bM cs):=by
 simp only [cA,AV.cells]
 congr 1
 induction cs with
 |nil=>rfl
 |cons c cs ih=>simp only [List.all_cons,bM,ih]
theorem C_0:bM []=true:=by simp only [bM]
theorem aDA (k:IntKind) (n:Int) (cs:List AV):bM (.int k n::cs)=bM cs:=by simp [bM,AV.cell]
theorem XA (b:Bool) (cs:List AV):bM (.bool b::cs)=bM cs:=by simp [bM,AV.cell]
theorem aCT (b:ByteArray) (cs:List AV):bM (.str b::cs)=bM cs:=by simp [bM,AV.cell]
theorem aCN (xs:List AV) (f:Bool) (t:Option Nat) (cs:List AV):bM (.lit xs f t::cs)=bM cs:=by simp [bM,AV.cell]
theorem aC0 (a b c d:Nat) (cs:List AV):bM (.ref a b c d::cs)=bM cs:=by simp [bM,AV.cell]
theorem aBA (a b:Nat) (cs:List AV):bM (.ptr a b::cs)=bM cs:=by simp [bM,AV.cell]
theorem WR (f:FuncId) (a b:List AV) (cs:List AV):bM (.func f a b::cs)=bM cs:=by simp [bM,AV.cell]
theorem aBB (i:Nat) (cs:List AV):bM (.map i::cs)=bM cs:=by simp [bM,AV.cell]
theorem QK  (cs:List AV):bM (.nilPtr::cs)=bM cs:=by simp [bM,AV.cell]
theorem KZ  (cs:List AV):bM (.nilFunc::cs)=bM cs:=by simp [bM,AV.cell]
theorem U2 {α:Type} (enc:α→AV) (l:List α) (h:∀ x,(enc x).cell=true):bM (l.map enc)=true:=by
 induction l with
 |nil=>rfl
 |cons x l ih=>simp [bM,h,ih]
theorem aEJ (k:IntKind) (n:Int):(AV.int k n).cells=[.int k n]:=by simp [AV.cells]
theorem aDD (b:Bool):(AV.bool b).cells=[.bool b]:=by simp [AV.cells]
theorem aGN (b:ByteArray):(AV.str b).cells=[.str b]:=by simp [AV.cells]
theorem aF6 (xs:List AV) (f:Bool) (t:Option Nat):(AV.lit xs f t).cells=[.lit xs f t]:=by simp [AV.cells]
theorem aGA (a b c d:Nat):(AV.ref a b c d).cells=[.ref a b c d]:=by simp [AV.cells]
theorem aEO (a b:Nat):(AV.ptr a b).cells=[.ptr a b]:=by simp [AV.cells]
theorem aA3 (f:FuncId) (a b:List AV):(AV.func f a b).cells=[.func f a b]:=by simp [AV.cells]
theorem aE6 (i:Nat):(AV.map i).cells=[.map i]:=by simp [AV.cells]
theorem aGM (cs:List AV):(AV.agg cs).cells=cs:=by simp [AV.cells]
theorem TU:AV.nilPtr.cells=[.nilPtr]:=by simp [AV.cells]
theorem QL:AV.nilFunc.cells=[.nilFunc]:=by simp [AV.cells]
theorem aEX (e:Env) (cs:List AV):cF e cs []=some cs:=by simp only [cF]
theorem aFD (e:Env) (cs:List AV) (off n:Nat) (x:AOpd) (rest:List (Nat×Nat×AOpd)) :
  cF e cs ((off,n,x)::rest)=((sK n (x.ev e)).bind fun us=>fX cs off us).bind fun cs=>cF e cs rest:=aG9 e cs off n x rest
theorem VK (n:Nat):aU n []=true:=by simp [aU]
theorem Q3 (n:Nat) (x:AV) (xs:List AV):aU n (x::xs)=(cA n x&&aU n xs):=by simp [aU,cA]
theorem qB {α:Type} (n:Nat) (enc:α→AV) (l:List α) (h:∀ x,cA n (enc x)=true):aU n (l.map enc)=true:=by
 induction l with
 |nil=>exact VK n
 |cons x l ih=>rw [List.map_cons,Q3,h,ih];rfl
theorem aHD (n:Nat) (xs:List AV):OW n xs=if aU n xs=true then some (.lit xs true none) else none:=by simp only [OW]
def EB (sz:Nat) (xs:List AV) (j:Int) (t:Option Nat):Option AV:=(xs[j.toNat]?).bind fun y=>if 0≤j∧y.cells.length=sz then some (.lptr xs j.toNat 0 t) else none
theorem aHB (sz:Nat) (xs:List AV) (f:Bool) (t:Option Nat) (k:IntKind) (j:Int):qD none sz (.lit xs f t) (.int k j)=EB sz xs j t:=by
 simp only [qD,fP,EB];cases xs[j.toNat]?<;>simp
theorem aGB (n sz id off:Nat) (k:IntKind) (j:Int):qD (some n) sz (.ptr id off) (.int k j)=if 0≤j∧j<n then some (.ptr id (off+j.toNat*sz)) else none:=by simp only [qD,fP]
theorem aDK (n sz q off:Nat) (xs:List AV) (t:Option Nat) (k:IntKind) (j:Int):qD (some n) sz (.lptr xs q off t) (.int k j)=if 0≤j∧j<n then some (.lptr xs q (off+j.toNat*sz) t) else none:=by simp only [qD,fP]
theorem aGJ (sz id off len sz':Nat) (k:IntKind) (j:Int):qD none sz (.ref id off len sz') (.int k j)=if 0≤j∧j<len∧sz'=sz then some (.ptr id (off+j.toNat*sz)) else none:=by simp only [qD,fP]
def IM (sz b:Nat) (xs ys:List AV):Prop:=aU sz xs=true∧aU sz ys=true∧(xs.length+ys.length)*b≤room∧xs.length+ys.length≤room
theorem DQ {sz b:Nat} {σ:St} {xs ys:List AV} {tk t:Option Nat} {f:Bool} (h:IM sz b xs ys) (h0:ys.length≠0) :
  cZ sz b σ (.lit xs true tk) (.lit ys f t)=some (.lit (xs++ys) false (some σ.length),σ++[.tok sz (xs.length+ys.length) true]):=by
 obtain ⟨h1,h2,h3,h4⟩:=h
 simp [cZ,o9,wM,h0,h1,h2,h3,h4]
theorem uP {sz b:Nat} {σ:St} {xs ys:List AV} {t:Nat} {tk:Option Nat} {f ex:Bool} (h:IM sz b xs ys) (h0:ys.length≠0) (ht:σ[t]? = some (.tok sz xs.length ex)) :
  cZ sz b σ (.lit xs false (some t)) (.lit ys f tk)=some (.lit (xs++ys) false (some t),σ.set t (.tok sz (xs.length+ys.length) true)):=by
 obtain ⟨h1,h2,h3,h4⟩:=h
 simp [cZ,o9,wM,h0,h1,h2,h3,h4,ht]
theorem XR {sz b:Nat} {σ:St} {xs:List AV} {tk t:Option Nat} {f f':Bool}:cZ sz b σ (.lit xs f' tk) (.lit [] f t)=some (.lit xs f' tk,σ):=by
 simp [cZ,o9]
def cV (σ:St) (m d:Nat) (v:AV):Option AV:=(snap σ m d v).map clr
def cB (σ:St) (m d:Nat) (vs:List AV):Option (List AV):=(snaps σ m d vs).map clrs
theorem aGQ (σ:St) (m d:Nat) (k:IntKind) (n:Int):cV σ m d (.int k n)=some (.int k n):=by simp [cV,snap,clr]
theorem aC5 (σ:St) (m d:Nat) (b:Bool):cV σ m d (.bool b)=some (.bool b):=by simp [cV,snap,clr]
theorem aET (σ:St) (m d:Nat) (b:ByteArray):cV σ m d (.str b)=some (.str b):=by simp [cV,snap,clr]
theorem S2 (σ:St) (m d:Nat):cV σ m d .nilPtr=some .nilPtr:=by simp [cV,snap,clr]
theorem P6 (σ:St) (m d:Nat):cV σ m d .nilFunc=some .nilFunc:=by simp [cV,snap,clr]
theorem aFP (σ:St) (m d id off:Nat):cV σ m d (.ptr id off)=if id<m then some (.ptr id off) else none:=by
 simp only [cV,snap];split<;>simp [clr]
theorem aD2 (σ:St) (m d id:Nat):cV σ m d (.map id)=if id<m then some (.map id) else none:=by
 simp only [cV,snap];split<;>simp [clr]
theorem Z1 (σ:St) (m d:Nat):cB σ m d []=some []:=by simp [cB,snaps,clrs]
theorem LD (σ:St) (m d:Nat) (v:AV) (vs:List AV):cB σ m d (v::vs)=(cV σ m d v).bind fun a=>(cB σ m d vs).map (a::·):=by
 simp only [cB,cV,snaps];cases snap σ m d v<;>cases snaps σ m d vs<;>simp [clrs]
theorem YW (σ:St) (m d:Nat) (vs:List AV):cV σ m d (.tuple vs)=(cB σ m d vs).map .tuple:=by
 simp only [cB,cV,snap];cases snaps σ m d vs<;>simp [clr]
theorem aEG (σ:St) (m d:Nat) (vs:List AV):cV σ m d (.agg vs)=(cB σ m d vs).map .agg:=by
 simp only [cB,cV,snap];cases snaps σ m d vs<;>simp [clr]
theorem SX (σ:St) (m d:Nat) (vs:List AV) (f:Bool):cV σ m d (.lit vs f none)=(cB σ m d vs).map fun ys=>.lit ys false none:=by
 simp only [cB,cV,snap];cases snaps σ m d vs<;>simp [clr]
theorem aAV (σ:St) (m d t:Nat) (vs:List AV) (f:Bool):cV σ m d (.lit vs f (some t))=(cB σ m d vs).map fun ys=>if t<m then .lit ys f (some t) else .lit ys false none:=by
 simp only [cB,cV,snap];cases snaps σ m d vs<;>by_cases h:t<m<;>simp [clr,h,Option.filter]
theorem aCA (σ:St) (m d:Nat) (f:FuncId) (a b:List AV):cV σ m d (.func f a b)=(cB σ m d a).bind fun x=>(cB σ m d b).map fun y=>.func f x y:=by
 simp only [cB,cV,snap];cases snaps σ m d a<;>cases snaps σ m d b<;>simp [clr]
def j4 (v:AV):Prop:=okV 0 v∧clr v=v
def nM (vs:List AV):Prop:=okVs 0 vs∧clrs vs=vs
mutual
theorem snap_ok0 (σ:St) (m d:Nat):∀ (v:AV),okV 0 v→snap σ m d v=some v
 |.func f first cap,h=>by simp only [okV] at h;simp only [snap,snaps_ok0 σ m d first h.1,snaps_ok0 σ m d cap h.2]
 |.yield _,h|.ptr _ _,h|.ref _ _ _ _,h|.map _,h=>by simp [okV] at h
 |.lptr xs i o tk,h=>by
  simp only [okV] at h
  cases tk with
  |none=>simp [snap,snaps_ok0 σ m d xs h.2]
  |some t=>exact absurd (h.1 t rfl) (by omega)
 |.lit xs f tk,h=>by
  simp only [okV] at h
  cases tk with
  |none=>simp [snap,snaps_ok0 σ m d xs h.2]
  |some t=>exact absurd (h.1 t rfl) (by omega)
 |.agg cs,h=>by simp only [okV] at h;simp [snap,snaps_ok0 σ m d cs h]
 |.tuple cs,h=>by simp only [okV] at h;simp [snap,snaps_ok0 σ m d cs h]
 |.undef,_|.int _ _,_|.bool _,_|.str _,_|.nilFunc,_|.nilPtr,_|.nilMap,_=>by simp [snap]
theorem snaps_ok0 (σ:St) (m d:Nat):∀ (vs:List AV),okVs 0 vs→snaps σ m d vs=some vs
 |[],_=>by simp [snaps]
 |v::vs,h=>by simp only [okVs] at h;simp [snaps,snap_ok0 σ m d v h.1,snaps_ok0 σ m d vs h.2]
end
theorem UK {v:AV} (h:j4 v) (σ:St) (m d:Nat):cV σ m d v=some v:=by simp [cV,snap_ok0 σ m d v h.1,h.2]
theorem jD {vs:List AV} (h:nM vs) (σ:St) (m d:Nat):cB σ m d vs=some vs:=by simp [cB,snaps_ok0 σ m d vs h.1,h.2]
theorem bT (k:IntKind) (n:Int):j4 (.int k n):=⟨trivial,rfl⟩
theorem E5 (b:Bool):j4 (.bool b):=⟨trivial,rfl⟩
theorem sX (b:ByteArray):j4 (.str b):=⟨trivial,rfl⟩
theorem bF:nM []:=⟨trivial,rfl⟩
theorem a9 {v:AV} {vs:List AV} (h:j4 v) (hs:nM vs):nM (v::vs):=⟨⟨h.1,hs.1⟩,by simp [clrs,h.2,hs.2]⟩
theorem iZ {vs:List AV} (h:nM vs):j4 (.agg vs):=⟨h.1,by simp [clr,h.2]⟩
theorem L4 {vs:List AV} (h:nM vs):j4 (.tuple vs):=⟨h.1,by simp [clr,h.2]⟩
theorem IK {vs:List AV} (h:nM vs):j4 (.lit vs false none):=⟨⟨(fun t e=>by cases e),h.1⟩,by simp [clr,h.2]⟩
theorem bZ {α:Type} {enc:α→AV} (h:∀ x,j4 (enc x)) (l:List α):nM (l.map enc):=by
 induction l with
 |nil=>exact bF
 |cons x l ih=>exact a9 (h x) ih
theorem fT {α:Type} {enc:α→AV} (h:∀ x,j4 (enc x)) (l:List α):j4 (.lit (l.map enc) false none):=IK (bZ h l)
def LO (o:Option AV) (σ:St) (v:AV):Prop:=∃ v0,o=some v0∧cV σ 0 20 v0=some v
@[congr] theorem aDO {o o':Option AV} {σ σ':St} {v:AV} (h:o=o') (h2:σ=σ'):LO o σ v=LO o' σ' v:=by rw [h,h2]
theorem aDM (v0:AV) (σ:St) (v:AV):LO (some v0) σ v=(cV σ 0 20 v0=some v):=by simp [LO]
def U3 (rs:List ARes) (v:AV):KJ:=fun j e σ=>(j=none∨j=some .ret)∧LO (f9 rs e σ) σ v
theorem aCV (rs:List ARes) (v:AV) (e:Env) (σ:St):U3 rs v none e σ=LO (f9 rs e σ) σ v:=by simp [U3]
theorem aF4 (rs:List ARes) (v:AV) (e:Env) (σ:St):U3 rs v (some .ret) e σ=LO (f9 rs e σ) σ v:=by simp [U3]
theorem aQ {f:FuncId} {args:List AV} {v:AV} {af:AFunc} (hf:T f=some af) (hn:args.length≤af.ntmps) (hk:nM args) (h:wp T af.body (fC 0 args) [] (U3 af.results v)):cN T f args v:=by
 intro σ
 refine .frame hk.1 (.inl rfl) (R:=fun o=>o.v=v∧o.σ=[]) (.call hf hn (eQ h fun o ho=>ho) fun o ho=>?_) fun o ho=>⟨ho.2,ho.1,rfl⟩
 obtain ⟨h1,v0,h2,h3⟩:=ho
 refine ⟨h1,v0,h2,?_⟩
 unfold cV at h3
 cases hs:snap o.σ 0 20 v0 with
 |none=>rw [hs] at h3;cases h3
 |some v1 =>
  rw [hs] at h3
  simp at h3
  exact .inr ⟨20,v1,v,hs,.inr h3.symm,fun i hi=>absurd hi (by simp),by simp,rfl,by simp⟩
theorem GF {f:FuncId} {args args0:List AV} {v:AV} (h:cN T f args0 v) (ha:clrs args=args0) (hk:okVs 0 args) (σ:St):Run T (.call f args σ) fun o=>o.v=v∧o.σ=σ :=
 .frame hk (.inr ha.symm) (h []) fun o ho=>⟨ho.2,ho.1,rfl⟩
theorem KM {f:FuncId} {first cap args args0:List AV} {v:AV} {σ:St} {K:AV→St→Prop} (h:cN T f args0 v) (ha:clrs (first++args++cap)=args0) (hk:okVs 0 (first++args++cap)) (k:K v σ):cK (K:=⟨K⟩) T (.func f first cap) args σ :=
 .callf (.mono (GF h ha hk σ) fun o ho=>by rw [ho.1,ho.2];exact k)
theorem IJ {f:FuncId} {first cap args args0:List AV} {v:AV} {σ:St} {K:AV→St→Prop} (h:cN T f args0 v) (ha:clrs (first++args++cap)=args0) (hk:okVs 0 (first++args++cap)) (k:K v σ):cD (K:=⟨K⟩) T (.func f first cap) args σ :=
 ⟨v,σ,.callf (GF h ha hk σ),k⟩
theorem aE {f:FuncId} {args args0:List AV} {v:AV} {σ:St} {K:AV→St→Prop} (h:cN T f args0 v) (ha:args=args0) (hk:nM args0) (k:K v σ):cK (K:=⟨K⟩) T (.func f [] []) args σ:=by
 subst ha;exact KM h (by simpa using hk.2) (by simpa using hk.1) k
theorem aG {f:FuncId} {args args0:List AV} {v:AV} {σ:St} {K:AV→St→Prop} (h:cN T f args0 v) (ha:args=args0) (hk:nM args0) (k:K v σ):cD (K:=⟨K⟩) T (.func f [] []) args σ:=by
 subst ha;exact IJ h (by simpa using hk.2) (by simpa using hk.1) k
theorem IR {f:FuncId} {args args0:List AV} {v:AV} {σ:St} (h:cN T f args0 v) (ha:cB σ 0 20 args=some args0) (hv:Scal v):Run T (.call f args σ) fun o=>o.v=v∧o.σ=σ:=by
 unfold cB at ha
 cases hs:snaps σ 0 20 args with
 |none=>rw [hs] at ha;cases ha
 |some as1 =>
  rw [hs] at ha
  simp at ha
  exact .frameS hs (.inr ha.symm) (h []) fun o ho=>⟨ho.2,by rw [ho.1];exact hv,ho.1,rfl⟩
theorem NQ {f:FuncId} {first cap args args0:List AV} {v:AV} {σ:St} {K:AV→St→Prop} (h:cN T f args0 v) (ha:cB σ 0 20 (first++args++cap)=some args0) (hv:Scal v) (k:K v σ):cK (K:=⟨K⟩) T (.func f first cap) args σ :=
 .callf (.mono (IR h ha hv) fun o ho=>by rw [ho.1,ho.2];exact k)
theorem NF {f:FuncId} {first cap args args0:List AV} {v:AV} {σ:St} {K:AV→St→Prop} (h:cN T f args0 v) (ha:cB σ 0 20 (first++args++cap)=some args0) (hv:Scal v) (k:K v σ):cD (K:=⟨K⟩) T (.func f first cap) args σ :=
 ⟨v,σ,.callf (IR h ha hv),k⟩
def InK (rs:List ARes) (K:AV→St→Prop):KJ:=fun j e σ=>(j=none∨j=some .ret)∧∃ v,f9 rs e σ=some v∧K v σ
def InR (o:Option AV) (σ:St) (K:AV→St→Prop):Prop:=∃ v,o=some v∧K v σ
@[congr] theorem aDT {o o':Option AV} {σ σ':St} {K:AV→St→Prop} (h:o=o') (h2:σ=σ'):InR o σ K=InR o' σ' K:=by rw [h,h2]
theorem aBT (v:AV) (σ:St) (K:AV→St→Prop):InR (some v) σ K=K v σ:=by simp [InR]
theorem aDC (rs:List ARes) (K:AV→St→Prop) (e:Env) (σ:St):InK rs K none e σ=InR (f9 rs e σ) σ K:=by simp [InK,InR]
theorem aEP (rs:List ARes) (K:AV→St→Prop) (e:Env) (σ:St):InK rs K (some .ret) e σ=InR (f9 rs e σ) σ K:=by simp [InK,InR]
theorem Q0 {f:FuncId} {first cap args:List AV} {af:AFunc} {σ:St} {K:AV→St→Prop} (hf:T f=some af) (hn:(first++args++cap).length≤af.ntmps) (h:wp T af.body (fC 0 (first++args++cap)) σ (InK af.results K)) :
  cK (K:=⟨K⟩) T (.func f first cap) args σ :=
 .callf (.call hf hn (eQ h fun o ho=>ho) fun o ho=>⟨ho.1,ho.2.choose,ho.2.choose_spec.1,.inl ho.2.choose_spec.2⟩)
def EqE (σ:St) (m:Nat) (e:Env):Env→Prop
 |[]=>True
 |(t,v)::e'=>cV σ m 20 (Env.get e t)=some v∧EqE σ m e e'
theorem aI1 (σ:St) (m:Nat) (e:Env):EqE σ m e []=True:=by simp only [EqE]
theorem aI8 (σ:St) (m:Nat) (e:Env) (t:Nat) (v:AV) (e':Env):EqE σ m e ((t,v)::e')=(cV σ m 20 (Env.get e t)=some v∧EqE σ m e e'):=by simp only [EqE]
theorem KP {σ:St} {m:Nat} {e:Env}:∀ {e':Env},EqE σ m e e'→N3 σ m e e'
 |[],_=>trivial
 |(t,v)::e',h=>by
  refine ⟨.inr ?_,KP h.2⟩
  have h1:=h.1
  unfold cV at h1
  cases hs:snap σ m 20 (Env.get e t) with
  |none=>rw [hs] at h1;cases h1
  |some v1=>rw [hs] at h1;simp at h1;exact ⟨20,v1,hs,.inr h1.symm⟩
def EqS (m:Nat):St→St→St→Prop
 |_,_,[]=>True
 |s::ss,b::bs,c::cs=>(c=b∧(b=s∨aT m b))∧EqS m ss bs cs
 |[],b::bs,c::cs=>(c=b∧aT m b)∧EqS m [] bs cs
 |_,[],_::_=>False
theorem aIB (m:Nat) (a b:St):EqS m a b []=True:=by cases a<;>cases b<;>simp only [EqS]
theorem aHP (m:Nat) (s b c:ABlk) (ss bs cs:St):EqS m (s::ss) (b::bs) (c::cs)=((c=b∧(b=s∨aT m b))∧EqS m ss bs cs):=by simp only [EqS]
theorem aH4 (m:Nat) (b c:ABlk) (bs cs:St):EqS m [] (b::bs) (c::cs)=((c=b∧aT m b)∧EqS m [] bs cs):=by simp only [EqS]
theorem BV {m:Nat}:∀ {σ σ' σ'':St},EqS m σ σ' σ''→∀ i c,σ''[i]? = some c→σ'[i]? = some c∧((i<σ.length∧σ'[i]? = σ[i]?)∨aT m c)
 |_,_,[],_,i,c,h=>by simp at h
 |s::ss,b::bs,x::cs,h,i,c,hc=>by
  obtain ⟨⟨h1,h2⟩,h3⟩:=h
  cases i with
  |zero =>
   simp at hc
   subst hc
   subst h1
   refine ⟨rfl,?_⟩
   rcases h2 with h2|h2
   ·left;simp [h2]
   ·right;exact h2
  |succ i =>
   obtain ⟨q1,q2⟩:=BV h3 i c (by simpa using hc)
   refine ⟨by simpa using q1,?_⟩
   rcases q2 with ⟨q2,q3⟩|q2
   ·left;exact ⟨by simp;omega,by simpa using q3⟩
   ·right;exact q2
 |[],b::bs,x::cs,h,i,c,hc=>by
  obtain ⟨⟨h1,h2⟩,h3⟩:=h
  cases i with
  |zero =>
   simp at hc
   subst hc
   subst h1
   exact ⟨rfl,.inr h2⟩
  |succ i =>
   obtain ⟨q1,q2⟩:=BV h3 i c (by simpa using hc)
   refine ⟨by simpa using q1,?_⟩
   rcases q2 with ⟨q2,q3⟩|q2
   ·simp at q2
   ·right;exact q2
def aF (σ:St) (e':Env) (σ':St) (e'':Env) (σ'':St):Prop:=σ.length≤σ''.length∧σ''.length≤σ'.length∧EqE σ' σ''.length e' e''∧EqS σ''.length σ σ' σ''
@[congr] theorem ZH {σ σ1:St} {e' e1:Env} {σ' σ1':St} {e'':Env} {σ'':St} (h1:σ=σ1) (h2:e'=e1) (h3:σ'=σ1'):aF σ e' σ' e'' σ''=aF σ1 e1 σ1' e'' σ'':=by rw [h1,h2,h3]
theorem BJ {σ:St} {e':Env} {σ':St} {e'':Env} {σ'':St} (h:aF σ e' σ' e'' σ''):CH σ e' σ' e'' σ'':=by
 obtain ⟨h1,h2,h3,h4⟩:=h
 refine ⟨h1,h2,KP h3,fun i hi=>?_⟩
 obtain ⟨c,hc⟩:∃ c,σ''[i]? = some c:=⟨_,List.getElem?_eq_getElem hi⟩
 obtain ⟨q1,q2⟩:=BV h4 i c hc
 refine ⟨c,hc,?_⟩
 rcases q2 with ⟨q2,q3⟩|q2
 ·left;exact ⟨q2,.inl q3,q1⟩
 ·right;left;exact ⟨q1,q2⟩
def DC {S:Type} (P:S→Prop) (μ:S→Nat) (IE:S→Env) (IS:S→St) (s:S) (K:KJ):KJ:=fun j e σ =>
 match j with
 |none=>∃ s',P s'∧μ s'<μ s∧aF (IS s) e σ (IE s') (IS s')
 |some j=>K (some j) e σ
theorem MJ {S:Type} (P:S→Prop) (μ:S→Nat) (IE:S→Env) (IS:S→St) (s:S) (K:KJ) (e:Env) (σ:St):DC P μ IE IS s K none e σ = ∃ s',P s'∧μ s'<μ s∧aF (IS s) e σ (IE s') (IS s'):=by simp only [DC]
theorem SB {S:Type} (P:S→Prop) (μ:S→Nat) (IE:S→Env) (IS:S→St) (s:S) (K:KJ) (j:AJump) (e:Env) (σ:St):DC P μ IE IS s K (some j) e σ=K (some j) e σ:=by simp only [DC]
def EqW (e:Env):Env→Prop
 |[]=>True
 |(t,v)::e'=>(Env.get e t=v∨clr (Env.get e t)=v)∧EqW e e'
theorem aIH (e:Env):EqW e []=True:=by simp only [EqW]
theorem aJ0 (e:Env) (t:Nat) (v:AV) (e':Env):EqW e ((t,v)::e')=((Env.get e t=v∨clr (Env.get e t)=v)∧EqW e e'):=by simp only [EqW]
theorem DR {e:Env}:∀ {e':Env},EqW e e'→∀ t,Env.get e' t = .undef∨Env.get e' t=Env.get e t∨Env.get e' t=clr (Env.get e t)
 |[],_,t=>.inl rfl
 |(k,v)::e',h,t=>by
  by_cases hk:k=t
  ·subst hk
   right
   rcases h.1 with h|h
   ·left;simp [Env.get,h]
   ·right;simp [Env.get,h]
  ·simpa [Env.get,hk] using DR h.2 t
theorem aF7 {S:Type} (P:S→Prop) (μ:S→Nat) (IE:S→Env) (IS:S→St) {b:ACode} {K:KJ} (step:∀ s,P s→wp T b (IE s) (IS s) (DC P μ IE IS s K)):∀ n s,μ s=n→P s→MS T (.loop b) (IE s) (IS s) K:=by
 intro n
 induction n using Nat.strongRecOn with
 |_ n ih =>
  intro s hs hp
  have h1:Run T (.code b (IE s) (IS s)) fun o=>(o.j=none∧∃ s',P s'∧μ s'<μ s∧o.env=IE s'∧o.σ=IS s')∨(o.j≠none∧K o.j o.env o.σ):=by
   refine .trim2 (eQ (step s hp) fun o ho=>ho) fun o ho=>?_
   cases hj:o.j with
   |none =>
    rw [hj,MJ] at ho
    obtain ⟨s',h1,h2,h3⟩:=ho
    exact .inr ⟨_,_,BJ h3,.inl ⟨rfl,s',h1,h2,rfl,rfl⟩⟩
   |some j =>
    rw [hj,SB] at ho
    exact .inl (.inr ⟨by simp,ho⟩)
  refine .loop h1 (fun o ho hj=>?_) fun o ho hj=>?_
  ·rcases ho with ⟨_,s',q1,q2,q3,q4⟩|⟨q1,_⟩
   ·rw [q3,q4];exact ih _ (by omega) s' rfl q1
   ·exact absurd hj q1
  ·rcases ho with ⟨q,_⟩|⟨_,q⟩
   ·exact absurd q hj
   ·exact q
theorem bU {S:Type} (s0:S) (P:S→Prop) (μ:S→Nat) (IE:S→Env) (IS:S→St) {b:ACode} {e:Env} {σ:St} {K:KJ} (hP:P s0) (hσ:σ=IS s0) (hE:EqW e (IE s0))
  (step:∀ s,P s→wp T b (IE s) (IS s) (DC P μ IE IS s K)):rK (K:=⟨K⟩) T (.loop b) e σ:=by
 subst hσ
 exact .weak (DR hE) (aF7 P μ IE IS step _ s0 rfl hP)
theorem oK {c:ACode} {e:Env} {σ:St} {K:KJ} (t sz:Nat) (xs:List AV) (ht:Env.get e t = .lit xs true none) (h:rK (K:=⟨K⟩) T c ((t,.lit xs false (some σ.length))::e) (σ++[.tok sz xs.length false])):rK (K:=⟨K⟩) T c e σ :=
 .ghost t sz xs ht h
end Go.Am
namespace Go.Am
variable {T:FuncId→Option AFunc}
def AQ (e:Env) (σ:St):ARes→Option AV
 |.tmp t=>some (Env.get e t)
 |.cell t sh=>lP sh σ (Env.get e t)
def pL (e:Env) (σ:St):List ARes→Option (List AV)
 |[]=>some []
 |r::rs=>(AQ e σ r).bind fun v=>(pL e σ rs).map (v::·)
theorem xY (e:Env) (σ:St):∀ rs,k8 e σ rs=pL e σ rs
 |[]=>rfl
 |.tmp t::rs=>by simp [k8,pL,AQ,xY e σ rs]
 |.cell t sh::rs=>by
  simp only [k8,pL,AQ,xY e σ rs]
  cases lP sh σ (Env.get e t)<;>cases pL e σ rs<;>simp
theorem aCZ (e:Env) (σ:St):f9 [] e σ=some (.tuple []):=by simp [f9,k8]
theorem aAU (r:ARes) (e:Env) (σ:St):f9 [r] e σ=AQ e σ r:=by
 simp only [f9,xY,pL];cases AQ e σ r<;>simp
theorem aBR (r s:ARes) (rs:List ARes) (e:Env) (σ:St):f9 (r::s::rs) e σ=(pL e σ (r::s::rs)).map .tuple:=by
 simp only [f9,xY,pL];cases AQ e σ r<;>cases AQ e σ s<;>cases pL e σ rs<;>simp
theorem aF9 (e:Env) (σ:St):pL e σ []=some []:=by simp only [pL]
theorem aEF (r:ARes) (rs:List ARes) (e:Env) (σ:St):pL e σ (r::rs)=(AQ e σ r).bind fun v=>(pL e σ rs).map (v::·):=by simp only [pL]
theorem aJM (t:Nat) (e:Env) (σ:St):AQ e σ (.tmp t)=some (Env.get e t):=by simp only [AQ]
theorem aHS (t:Nat) (sh:Option Nat) (e:Env) (σ:St):AQ e σ (.cell t sh)=lP sh σ (Env.get e t):=by simp only [AQ]
theorem aJ8 (id:Nat) (K:KJ) (e:Env) (σ:St):lL id K none e σ=K none e σ:=by simp only [lL]
theorem aJ7 (id:Nat) (K:KJ) (e:Env) (σ:St):lL id K (some .ret) e σ=K (some .ret) e σ:=by simp only [lL]
theorem aFQ (id:Nat) (K:KJ) (e:Env) (σ:St):lL id K (some (.exit id)) e σ=K none e σ:=by simp [lL]
theorem aF5 (id i:Nat) (K:KJ) (e:Env) (σ:St) (h:i≠id):lL id K (some (.exit i)) e σ=K (some (.exit i)) e σ:=by simp [lL,h]
theorem aBG {α:Type} {sz:Nat} {enc:α→AV} {l:List α} {k:Nat} {t:Option Nat} (h:k<l.length) (hs:∀ x,(enc x).cells.length=sz):EB sz (l.map enc) (k:Int) t=some (.lptr (l.map enc) k 0 t):=by
 simp [EB,List.getElem?_map,h,hs]
theorem aBF {α:Type} {enc:α→AV} {l:List α} {k:Nat} (h:k<l.length):(l.map enc)[k]? = some (enc l[k]):=by simp [List.getElem?_map,h]
theorem DB {α:Type} {sz:Nat} {enc:α→AV} {l:List α} {i:Int} {t:Option Nat} (h0:0≤i) (h:i.toNat<l.length) (hs:∀ x,(enc x).cells.length=sz):EB sz (l.map enc) i t=some (.lptr (l.map enc) i.toNat 0 t):=by
 simp [EB,List.getElem?_map,h,hs,h0]
theorem rd0 {ds:List ADOper} {e:Env} {σ:St} {K:KJ} (hz:dX ds=[]) (h:wpD T ds e σ σ.length [σ] [] fun e σ=>K none e σ):rK (K:=⟨K⟩) T (.dreg ds) e σ:=by
 refine NX ?_
 rw [hz,List.append_nil]
 exact h
theorem mU {ds:List ADOper} {e:Env} {σ:St} {K:KJ} (zs:St) (hz:dX ds=zs) (h:wpD T ds e (σ++zs) σ.length [σ++zs] [] fun e σ=>K none e σ):rK (K:=⟨K⟩) T (.dreg ds) e σ:=by
 subst hz
 exact NX h
theorem b7 {k n:Nat} (h:k<n) (hn:n<9223372036854775808):IntKind.i64.wrap ((k:Int)+1)=((k+1:Nat):Int):=by rw [aX ⟨by omega,by omega⟩];omega
def ints (l:List Int):AV:=.lit (l.map (.int .i64)) false none
theorem jT (l:List Int):j4 (ints l):=fT (bT .i64) l
theorem gL (σ:St) (m d:Nat) (k:IntKind) (l:List Int):cB σ m d (l.map (.int k))=some (l.map (.int k)):=jD (bZ (bT k) l) σ m d
theorem aB8 (σ:St) (m d:Nat) (l:List ByteArray):cB σ m d (l.map .str)=some (l.map .str):=jD (bZ sX l) σ m d
theorem ZM (σ:St) (m d:Nat):∀ xs ys:List AV,cB σ m d (xs++ys)=(cB σ m d xs).bind fun a=>(cB σ m d ys).map (a++·)
 |[],ys=>by rw [Z1];simp
 |x::xs,ys=>by
  rw [List.cons_append,LD,LD,ZM σ m d xs ys]
  cases cV σ m d x<;>simp
  cases cB σ m d xs<;>simp
  cases cB σ m d ys<;>simp
def gJ (l:List (List Int)):AV:=.lit (l.map ints) false none
theorem KT (l:List (List Int)):j4 (gJ l):=fT jT l
theorem aAM (σ:St) (m d:Nat) (l:List Int):cV σ m d (ints l)=some (ints l):=UK (jT l) σ m d
theorem aCF (σ:St) (m d:Nat) (l:List (List Int)):cB σ m d (l.map ints)=some (l.map ints):=jD (bZ jT l) σ m d
theorem tP (k:IntKind) (a b:Int):zO [.int k a,.int k b]=some (.int k (min a b)):=by
 simp only [zO,uV,if_true,Option.some.injEq,AV.int.injEq,true_and];split<;>omega
theorem y8 (k:IntKind) (a b:Int):zR [.int k a,.int k b]=some (.int k (max a b)):=by
 simp only [zR,uU,if_true,Option.some.injEq,AV.int.injEq,true_and];split<;>omega
def dI (s:ByteArray) (k:Nat):Int:=(((s[k]?).getD 0).toNat:Int)
theorem yM (s:ByteArray) (k:Nat):0≤dI s k∧dI s k<256:=by
 have:=((s[k]?).getD 0).toNat_lt
 unfold dI
 omega
theorem aDL {s:ByteArray} {k:Nat} (h:k<s.size):AX (.str s) (.int .i64 (k:Int))=some (.int .u8 (dI s k)):=by
 simp [AX,fP,dI,h]
structure Span where
 lo:Int
 hi:Int
 deriving DecidableEq
def bC (s:Span):AV:=.agg [.int .i64 s.lo,.int .i64 s.hi]
theorem aC (s:Span):bC s = .agg [.int .i64 s.lo,.int .i64 s.hi]:=by simp only [bC]
theorem uQ (s:Span):j4 (bC s):=iZ (a9 (bT _ _) (a9 (bT _ _) bF))
def NC (l:List ByteArray):AV:=.lit (l.map .str) false none
theorem OP (l:List ByteArray):j4 (NC l):=fT sX l
end Go.Am
namespace Go.Am
variable {T:FuncId→Option AFunc}
def eA (T:FuncId→Option AFunc) (f:AV) (args:List AV) (σ:St) (v:AV):Prop:=Run T (.callv f args σ) fun o=>o.v=v∧o.σ=σ
def AG (o:Option AV) (σ0 σ:St) (v:AV):Prop:=∃ v0 τ,o=some v0∧σ=σ0++τ∧cV σ σ0.length 20 v0=some v
@[congr] theorem ZK {o o':Option AV} {σ0 σ σ':St} {v:AV} (h:o=o') (h2:σ=σ'):AG o σ0 σ v=AG o' σ0 σ' v:=by rw [h,h2]
def FF (rs:List ARes) (σ0:St) (v:AV):KJ:=fun j e σ=>(j=none∨j=some .ret)∧AG (f9 rs e σ) σ0 σ v
theorem aCW (rs:List ARes) (σ0:St) (v:AV) (e:Env) (σ:St):FF rs σ0 v none e σ=AG (f9 rs e σ) σ0 σ v:=by simp [FF]
theorem aHE (rs:List ARes) (σ0:St) (v:AV) (e:Env) (σ:St):FF rs σ0 v (some .ret) e σ=AG (f9 rs e σ) σ0 σ v:=by simp [FF]
theorem bY {v0:AV} {σ0 σ:St} {v:AV} (τ:St) (h1:σ=σ0++τ) (h2:cV σ σ0.length 20 v0=some v):AG (some v0) σ0 σ v:=⟨v0,τ,rfl,h1,h2⟩
theorem bR {f:FuncId} {first cap args:List AV} {σ:St} {af:AFunc} {v:AV} (hf:T f=some af) (hn:(first++args++cap).length≤af.ntmps) (h:wp T af.body (fC 0 (first++args++cap)) σ (FF af.results σ v)):eA T (.func f first cap) args σ v:=by
 refine .callf (.call hf hn (eQ h fun o ho=>ho) fun o ho=>?_)
 obtain ⟨h1,v0,τ,h2,h3,h4⟩:=ho
 refine ⟨h1,v0,h2,?_⟩
 unfold cV at h4
 cases hs:snap o.σ σ.length 20 v0 with
 |none=>rw [hs] at h4;cases h4
 |some v1 =>
  rw [hs] at h4
  simp at h4
  exact .inr ⟨20,v1,v,hs,.inr h4.symm,fun i hi=>.inl (by rw [h3];exact List.getElem?_append_left hi),by rw [h3];simp,rfl,by rw [h3];simp⟩
theorem aV {f:AV} {args:List AV} {v:AV} {σ:St} {K:AV→St→Prop} (h:eA T f args σ v) (k:K v σ):cK (K:=⟨K⟩) T f args σ:=.mono h fun o ho=>by rw [ho.1,ho.2];exact k
theorem eL {f:AV} {args:List AV} {v:AV} {σ:St} {K:AV→St→Prop} (h:eA T f args σ v) (k:K v σ):cD (K:=⟨K⟩) T f args σ:=⟨v,σ,h,k⟩
theorem QG {f:FuncId} {args args0:List AV} {v:AV} {σ:St} (h:cN T f args0 v) (ha:clrs args=args0) (hk:okVs 0 args):eA T (.func f [] []) args σ v:=.callf (by simpa using GF h ha hk σ)
def nI (σ:St) (v:AV):Prop:=∀ τ,cV (σ++τ) σ.length 20 v=some v
theorem nI.nil {σ:St} {v:AV} (h:nI σ v):cV σ σ.length 20 v=some v:=by simpa using h []
theorem K7 (m:Nat):∀ (σ τ:St),EqS m σ (σ++τ) σ=True
 |[],τ=>by cases τ<;>simp [EqS]
 |b::σ,τ=>by simp [EqS,K7 m σ τ]
theorem N5 (m:Nat) (σ:St):EqS m σ σ σ=True:=by simpa using K7 m σ []
theorem DD (σ τ υ:St):σ++τ++υ=σ++(τ++υ):=List.append_assoc _ _ _
theorem IW {s:ByteArray} {k:Nat} (h:k<s.size):yU [.siter s k] (.ptr 0 0)=some (.tuple [.bool true,.int .i64 k,.int .i32 (Utf8.decode s k).1],[.siter s (k+(Utf8.decode s k).2)]):=by
 simp [yU,h]
theorem JU {s:ByteArray} {k:Nat} (h:¬k<s.size):yU [.siter s k] (.ptr 0 0)=some (.tuple [.bool false],[.siter s k]):=by
 simp [yU,h]
theorem nO {s:ByteArray} {k:Nat} (h:k<s.size) (hb:dI s k<128):Utf8.decode s k=((dI s k).toNat,1):=by
 have e:dI s k=((s[k]'h).toNat:Int):=by simp [dI,h]
 rw [decode_ascii s k h (by omega),e]
 simp
theorem zT {s:ByteArray} {k:Nat} (h:k<s.size) (hb:128≤dI s k):128≤(Utf8.decode s k).1:=by
 have e:dI s k=((s[k]'h).toNat:Int):=by simp [dI,h]
 exact (decode_high s k h (by omega)).1
theorem VR {α:Type} {sz:Nat} {enc:α→AV} {l:List α} {i:Nat} {σ:St} {t:Option Nat} (hi:i≤l.length) (hs:∀ x,(enc x).cells.length=sz):uG sz σ (.lit (l.map enc) false t) none (some (.int .i64 (i:Int))) none=some (.lit ((l.take i).map enc) false t):=by
 have hc:uH sz (l.map enc) 0 (i:Int)=true:=by
  unfold uH
  by_cases h0:i=0
  ·subst h0;simp
  ·cases l with
   |nil=>simp at hi;omega
   |cons x l=>simp [hs]
 simp only [uG,iY,nH,Option.map_none,fP,mL]
 rw [if_pos ⟨by omega,by omega,by simp;omega,hc⟩]
 simp [List.map_take]
theorem bJ {f:FuncId} {args args0:List AV} {v:AV} {σ:St} {K:AV→St→Prop} (h:cN T f args0 v) (ha:clrs args=args0) (hk:okVs 0 args) (k:K v σ):cK (K:=⟨K⟩) T (.func f [] []) args σ :=
 KM h (by simpa using ha) (by simpa using hk) k
theorem cP {f:FuncId} {args args0:List AV} {v:AV} {σ:St} {K:AV→St→Prop} (h:cN T f args0 v) (ha:clrs args=args0) (hk:okVs 0 args) (k:K v σ):cD (K:=⟨K⟩) T (.func f [] []) args σ :=
 IJ h (by simpa using ha) (by simpa using hk) k
end Go.Am
namespace Go.Am
def QV:=And.intro @aF0 (And.intro @oP (And.intro @WG (And.intro @DD (And.intro @aDL (And.intro @tP (And.intro @y8 (And.intro @aD1 (And.intro @aCY (And.intro @TP (And.intro @OB (And.intro @aE7 (And.intro @aFG (And.intro @aC8 (And.intro @XS (And.intro @RZ (And.intro @U6 (And.intro @UV (And.intro @yY (And.intro @K0 (And.intro @aCP (And.intro @aC9 (And.intro @aCS (And.intro @aA8 (And.intro @aBV (And.intro @aAD (And.intro @UQ (And.intro @aCO (And.intro @aC4 (And.intro @aCH (And.intro @YC (And.intro @aB6 (And.intro @aD7 (And.intro @X3 (And.intro @XE (And.intro @N2 (And.intro @aD9 (And.intro @aEK (And.intro @GU (And.intro @K6 (And.intro @GG (And.intro @aFK (And.intro @aFL (And.intro @aFY (And.intro @aAJ (And.intro @aER (And.intro @aGS (And.intro @aFJ (And.intro @aG4 (And.intro @aGX (And.intro @aE8 (And.intro @aEE (And.intro @aFV (And.intro @aBS (And.intro @aC3 (And.intro @VP (And.intro @VO (And.intro @aBD (And.intro @aCL (And.intro @aGR (And.intro @aBY (And.intro @FU (And.intro @JI (And.intro @nC (And.intro @YX (And.intro @aGT (And.intro @aG5 (And.intro @YF (And.intro @aDW (And.intro @W9 (And.intro @FI (And.intro @aBP (And.intro @TA (And.intro @Y1 (And.intro @aE3 (And.intro @aFU (And.intro @aAT (And.intro @aD3 (And.intro @VD (And.intro @PE (And.intro @aF2 (And.intro @C_0 (And.intro @aDA (And.intro @XA (And.intro @aCT (And.intro @aCN (And.intro @aC0 (And.intro @aBA (And.intro @WR (And.intro @aBB (And.intro @QK (And.intro @KZ (And.intro @aEJ (And.intro @aDD (And.intro @aGN (And.intro @aF6 (And.intro @aGA (And.intro @aEO (And.intro @aA3 (And.intro @aE6 (And.intro @aGM (And.intro @TU (And.intro @QL (And.intro @aEX (And.intro @aFD (And.intro @VK (And.intro @Q3 (And.intro @aHD (And.intro @aHB (And.intro @aGB (And.intro @aDK (And.intro @aGJ (And.intro @aCZ (And.intro @aAU (And.intro @aBR (And.intro @aF9 (And.intro @aEF (And.intro @aJM (And.intro @aHS (And.intro @aDM (And.intro @aBT (And.intro @aGI (And.intro @aB1 (And.intro @YA (And.intro @aE2 (And.intro @XG (And.intro @W7 (And.intro @X6 (And.intro @aAK (And.intro @WC (And.intro @MB (And.intro @aEI (And.intro @aEH (And.intro @aGH (And.intro @aFC (And.intro @aCM (And.intro @X8 (And.intro @V6 (And.intro @QU (And.intro @SN (And.intro @VF (And.intro @X4 (And.intro @X5 (And.intro @WU (And.intro @X7 (And.intro @Q6 (And.intro @VS (And.intro @UN (And.intro @aFF (And.intro @aFZ (And.intro @SE (And.intro @W3 (And.intro @aB2 (And.intro @aFA (And.intro @aDX (And.intro @RO (@V8))))))))))))))))))))))))))))))))))))))))))))))))))))))))))))))))))))))))))))))))))))))))))))))))))))))))))))))))))))))))))))))))))))))))))))))))))))))))))))
def QP:=And.intro @aCW (And.intro @aHE (And.intro @aDY (And.intro @aEN (And.intro @aA7 (And.intro @aDG (And.intro @YQ (And.intro @aBI (And.intro @WM (And.intro @WY (And.intro @aFT (And.intro @aJ8 (And.intro @aJ7 (And.intro @aFQ (And.intro @aF5 (And.intro @aBG (And.intro @aBF (And.intro @aAQ (And.intro @YR (And.intro @aCB (And.intro @aA2 (And.intro @XV (And.intro @aGY (And.intro @aCV (And.intro @aF4 (And.intro @aDC (And.intro @aEP (And.intro @MJ (And.intro @SB (And.intro @aHC (And.intro @aBJ (And.intro @YS (And.intro @aE4 (And.intro @WV (And.intro @V1 (And.intro @W2 (And.intro @aB0 (And.intro @XQ (And.intro @LW (And.intro @aG0 (And.intro @aGD (And.intro @aFH (And.intro @aEU (And.intro @aC1 (And.intro @WF (And.intro @V9 (And.intro @PG (And.intro @SG (And.intro @VN (And.intro @W0 (And.intro @X9 (And.intro @WJ (And.intro @YK (And.intro @R0 (And.intro @TR (And.intro @SJ (And.intro @aE1 (And.intro @aGG (And.intro @S9 (And.intro @V7 (And.intro @aDH (And.intro @aG3 (And.intro @aD0 (And.intro @SU (@YV))))))))))))))))))))))))))))))))))))))))))))))))))))))))))))))))
def QD:=And.intro @aF8 (And.intro @aAZ (And.intro @XM (And.intro @TW (And.intro @aGV (And.intro @aCQ (And.intro @aFR (And.intro @XP (And.intro @XX (And.intro @WH (And.intro @aB5 (And.intro @YL (And.intro @MU (And.intro @aE5 (And.intro @aGO (And.intro @aHA (And.intro @aE9 (And.intro @aA4 (And.intro @WN (And.intro @WQ (And.intro @P1 (And.intro @VC (And.intro @UW (And.intro @VX (And.intro @XI (And.intro @XL (And.intro @XF (And.intro @U8 (And.intro @UP (And.intro @SF (And.intro @aEC (And.intro @aD4 (And.intro @RW (And.intro @VZ (And.intro @aDB (And.intro @aFO (And.intro @aEB (And.intro @Q2 (And.intro @WW (And.intro @aD6 (And.intro @aCX (And.intro @aEW (And.intro @V2 (And.intro @WO (And.intro @WK (And.intro @aA5 (And.intro @YU (And.intro @ND (And.intro @aEL (And.intro @aFS (And.intro @aFE (And.intro @aEY (And.intro @aBK (And.intro @Y0 (And.intro @XK (And.intro @P4 (And.intro @RK (And.intro @TH (And.intro @XC (And.intro @XO (And.intro @VW (And.intro @YZ (And.intro @S1 (And.intro @SA (And.intro @S5 (And.intro @aGW (And.intro @aGZ (And.intro @TN (And.intro @XZ (And.intro @aAW (And.intro @aGL (And.intro @aFB (And.intro @VM (@YJ)))))))))))))))))))))))))))))))))))))))))))))))))))))))))))))))))))))))))
def QS:=And.intro @aCF (And.intro @aAM (And.intro @ZM (And.intro @gL (And.intro @aB8 (And.intro @aGQ (And.intro @aC5 (And.intro @aET (And.intro @S2 (And.intro @P6 (And.intro @aFP (And.intro @aD2 (And.intro @Z1 (And.intro @LD (And.intro @YW (And.intro @aEG (And.intro @SX (And.intro @aAV (And.intro @aCA (And.intro @aAD (@UQ))))))))))))))))))))
def QR:=And.intro @RE (And.intro @SM (And.intro @WS (@YB)))
def QT:=And.intro @K7 (And.intro @N5 (And.intro @aI1 (And.intro @aI8 (And.intro @aIB (And.intro @aHP (And.intro @aH4 (And.intro @aIH (And.intro @aJ0 (@TP)))))))))
variable {T:FuncId→Option AFunc}
mutual
theorem okV_up {m:Nat}:∀ v,okV 0 v→okV m v
 |.func _ first cap,h=>⟨okVs_up first h.1,okVs_up cap h.2⟩
 |.lptr xs _ _ tk,h=>⟨fun t e=>absurd (h.1 t e) (by omega),okVs_up xs h.2⟩
 |.lit xs _ tk,h=>⟨fun t e=>absurd (h.1 t e) (by omega),okVs_up xs h.2⟩
 |.agg cs,h=>okVs_up cs h
 |.tuple vs,h=>okVs_up vs h
 |.yield _,h|.ptr _ _,h|.ref _ _ _ _,h|.map _,h=>absurd h (by simp [okV])
 |.undef,_|.int _ _,_|.bool _,_|.str _,_|.nilFunc,_|.nilPtr,_|.nilMap,_=>trivial
theorem okVs_up {m:Nat}:∀ vs,okVs 0 vs→okVs m vs
 |[],_=>trivial
 |v::vs,h=>⟨okV_up v h.1,okVs_up vs h.2⟩
end
theorem gH {σ:St} {m d id off len sz:Nat} (h:id<m):cV σ m d (.ref id off len sz)=some (.ref id off len sz):=by
 cases d<;>simp [cV,snap,h,clr]
theorem s9 {m:Nat}:∀ {xs ys:List AV},okVs m xs→okVs m ys→okVs m (xs++ys)
 |[],_,_,h=>h
 |x::xs,ys,h,h2=>⟨h.1,s9 h.2 h2⟩
end Go.Am
namespace Go.Am
theorem UI (l:List Int):ints l = .lit (l.map (.int .i64)) false none:=by simp only [ints]
theorem SW (l:List ByteArray):NC l = .lit (l.map .str) false none:=by simp only [NC]
def QC:=And.intro @and_self (And.intro @and_true (And.intro @true_and (And.intro @true_or (And.intro @or_true (And.intro @UI (And.intro @SW (And.intro @decide_true (And.intro @decide_false (And.intro @Nat.lt_irrefl (And.intro @Nat.le_refl (And.intro @List.length_cons.{0} (And.intro @List.length_nil.{0} (And.intro @List.cons_append.{0} (And.intro @List.nil_append.{0} (And.intro @List.append_nil.{0} (And.intro @List.getElem?_cons_zero.{0} (And.intro @List.getElem?_cons_succ.{0} (And.intro @List.take_zero.{0} (And.intro @List.drop_zero.{0} (And.intro @List.take_succ_cons.{0} (And.intro @List.drop_succ_cons.{0} (And.intro @List.take_nil.{0} (And.intro @List.drop_nil.{0} (And.intro @List.set_cons_zero.{0} (And.intro @List.set_cons_succ.{0} (And.intro @List.length_map.{0,0} (And.intro @Bool.and_true (And.intro @Bool.true_and (And.intro @Bool.and_self (And.intro @Bool.not_true (And.intro @Bool.not_false (And.intro @beq_self_eq_true.{0} (And.intro @Nat.zero_add (And.intro @implies_true.{0} (And.intro @implies_true.{1} (And.intro @forall_const.{0} (And.intro @forall_const.{1} (And.intro @ne_eq.{1} (And.intro @not_false_eq_true (@not_true_eq_false))))))))))))))))))))))))))))))))))))))))
def QA:=And.intro QP QD
def QB:=And.intro QR (And.intro QV (And.intro QS QC))
def QE:=And.intro QT (And.intro QS (And.intro @TP (And.intro @List.length_append.{0} (And.intro @Nat.le_add_right QC))))
class Dat (v:AV):Prop where
 h:j4 v
class Dats (vs:List AV):Prop where
 h:nM vs
theorem dd {vs:List AV} [k:Dats vs]:nM vs:=k.h
instance:Dats []:=⟨bF⟩
instance {v:AV} {vs:List AV} [a:Dat v] [b:Dats vs]:Dats (v::vs):=⟨a9 a.h b.h⟩
instance (k:IntKind) (n:Int):Dat (.int k n):=⟨bT k n⟩
instance (b:Bool):Dat (.bool b):=⟨E5 b⟩
instance (s:ByteArray):Dat (.str s):=⟨sX s⟩
instance (l:List Int):Dat (ints l):=⟨jT l⟩
instance (l:List (List Int)):Dat (gJ l):=⟨KT l⟩
instance (l:List ByteArray):Dat (NC l):=⟨OP l⟩
instance (s:Span):Dat (bC s):=⟨uQ s⟩
instance {cs:List AV} [a:Dats cs]:Dat (.agg cs):=⟨iZ a.h⟩
instance {cs:List AV} [a:Dats cs]:Dat (.tuple cs):=⟨L4 a.h⟩
instance {cs:List AV} [a:Dats cs]:Dat (.lit cs false none):=⟨IK a.h⟩
instance (k:IntKind) (l:List Int):Dats (l.map (.int k)):=⟨bZ (bT k) l⟩
end Go.Am
namespace Go.Am.Room
def inR (n lo hi:Int):Bool:=decide (lo≤n)&&decide (n≤hi)
theorem eG (n lo hi:Int):cN T 20 [.int .i64 n,.int .i64 lo,.int .i64 hi] (.bool (inR n lo hi)):=by
 refine aQ (af:=a20) rfl (by simp [a20]) dd ?_
 (repeat (first|simp only [↓QA,QB,seval,a20]|refine rd0 rfl ?_))
 refine aJ (fun h=>?_) fun h=>?_
 all_goals
  (repeat (first|simp only [↓QA,QB,seval,h]|refine rd0 rfl ?_))
  simp [inR,h]
def dV (s:Span) (lo hi:Int):Int:=if !inR s.lo lo hi||!inR s.hi lo hi then 7 else if s.hi<s.lo then 2 else 0
theorem nV (s:Span) (lo hi:Int):cN T 29 [bC s,.int .i64 lo,.int .i64 hi] (.int .i64 (dV s lo hi)):=by
 refine aQ (af:=a29) rfl (by simp [a29]) dd ?_
 (repeat (first|simp only [↓QA,QB,seval,a29,aC]|refine rd0 rfl ?_))
 refine aE (eG _ _ _) rfl dd ?_
 (repeat (first|simp only [↓QA,QB,seval]|refine rd0 rfl ?_))
 cases h1:inR s.lo lo hi
 ·(repeat (first|simp only [↓QA,QB,seval]|refine rd0 rfl ?_))
  simp [dV,h1]
 ·(repeat (first|simp only [↓QA,QB,seval]|refine rd0 rfl ?_))
  refine aE (eG _ _ _) rfl dd ?_
  (repeat (first|simp only [↓QA,QB,seval]|refine rd0 rfl ?_))
  cases h2:inR s.hi lo hi
  ·(repeat (first|simp only [↓QA,QB,seval]|refine rd0 rfl ?_))
   simp [dV,h1,h2]
  ·(repeat (first|simp only [↓QA,QB,seval]|refine rd0 rfl ?_))
   refine aJ (fun h=>?_) fun h=>?_
   all_goals
    (repeat (first|simp only [↓QA,QB,seval,h]|refine rd0 rfl ?_))
    simp [dV,h1,h2]
    simpa using h
def nF (s:Span) (n:Int):Span:=⟨min s.lo n,max s.hi n⟩
theorem T7 (l:List Int) (n:Int) (hl:l.length<9223372036854775808):cN T 64 [ints l,.int .i64 n] (.bool (l.contains n)):=by
 refine aQ (af:=a64) rfl (by simp [a64]) dd ?_
 (repeat (first|simp only [↓QA,QB,seval,a64]|refine rd0 rfl ?_))
 refine bU (S:=Nat) 0 (·≤l.length) (fun k=>l.length-k) (fun k=>[(0,ints l),(1,.int .i64 n),(5,.bool ((l.take k).contains n)),(6,.int .i64 k)]) (fun _=>[]) (Nat.zero_le _) rfl ?_ fun k hk=>?_
 ·try simp only [aF,QE,seval]
  try simp
 ·(repeat (first|simp only [↓QA,QB,seval,ZE]|refine rd0 rfl ?_))
  refine aJ (fun h=>?_) fun h=>?_
  ·have hk1:k<l.length:=by simpa using h
   (repeat (first|simp only [↓QA,QB,seval]|refine rd0 rfl ?_))
   refine aJ (fun h2=>?_) fun h2=>?_
   all_goals
    (repeat (first|simp only [↓QA,QB,seval,h2,hk1]|refine rd0 rfl ?_))
    refine ⟨k+1,by omega,by omega,?_⟩
    try simp only [aF,QE,seval,b7 hk1 hl]
    simp only [List.take_succ_eq_append_getElem hk1,List.contains_append,h2]
    simp
    try (rw [Bool.eq_iff_iff];simp;exact eq_comm)
  ·have:k=l.length:=by simp at h;omega
   (repeat (first|simp only [↓QA,QB,seval]|refine rd0 rfl ?_))
   simp [this]
def less:List Int→List Int→Bool
 |_,[]=>false
 |[],_::_=>true
 |a::az,b::bs=>if a=b then less az bs else decide (a<b)
theorem PB {a b:List Int} {k:Nat} (ha:k<a.length) (hb:k<b.length) (h:a[k]=b[k]):less (a.drop (k+1)) (b.drop (k+1))=less (a.drop k) (b.drop k):=by
 rw [List.drop_eq_getElem_cons ha,List.drop_eq_getElem_cons hb];simp [less,h]
theorem NS (a b:List Int) (ha:a.length<9223372036854775808) (hb:b.length<9223372036854775808):cN T 170 [ints a,ints b] (.bool (less a b)):=by
 refine aQ (af:=a170) rfl (by simp [a170]) dd ?_
 (repeat (first|simp only [↓QA,QB,seval,a170]|refine rd0 rfl ?_))
 refine bU (S:=Nat) 0 (fun k=>k≤a.length∧k≤b.length∧less (a.drop k) (b.drop k)=less a b) (fun k=>a.length-k) (fun k=>[(0,ints a),(1,ints b),(5,.int .i64 k)]) (fun _=>[]) ⟨Nat.zero_le _,Nat.zero_le _,rfl⟩ rfl ?_ fun k hk=>?_
 ·try simp only [aF,QE,seval]
  try simp
 ·obtain ⟨hka,hkb,hl⟩:=hk
  (repeat (first|simp only [↓QA,QB,seval,RC]|refine rd0 rfl ?_))
  by_cases h1:k<a.length
  ·have g1:decide ((k:Int)<a.length)=true:=by simpa using h1
   by_cases h2:k<b.length
   ·have g2:decide ((k:Int)<b.length)=true:=by simpa using h2
    (repeat (first|simp only [↓QA,QB,seval,g1,g2,h1,h2]|refine rd0 rfl ?_))
    refine aJ (fun h3=>?_) fun h3=>?_
    ·have h3':a[k]=b[k]:=by simpa using h3
     (repeat (first|simp only [↓QA,QB,seval,h3]|refine rd0 rfl ?_))
     refine ⟨k+1,⟨by omega,by omega,(PB h1 h2 h3').trans hl⟩,by omega,?_⟩
     try simp only [aF,QE,seval,b7 h1 ha]
    ·have h3':a[k]≠b[k]:=by simpa using h3
     have e1:((k:Int)==b.length)=false:=by simp;omega
     have e2:((k:Int)==a.length)=false:=by simp;omega
     (repeat (first|simp only [↓QA,QB,seval,h3,e1,e2,h1,h2]|refine rd0 rfl ?_))
     rw [←hl,List.drop_eq_getElem_cons h1,List.drop_eq_getElem_cons h2]
     simp [less,h3']
   ·have hkb':k=b.length:=by omega
    have g2:decide ((k:Int)<b.length)=false:=by simp;omega
    have e1:((k:Int)==b.length)=true:=by simp;omega
    (repeat (first|simp only [↓QA,QB,seval,g1,g2,e1]|refine rd0 rfl ?_))
    rw [←hl,hkb',List.drop_length]
    cases List.drop b.length a<;>simp [less]
  ·have g1:decide ((k:Int)<a.length)=false:=by simp;omega
   have e2:((k:Int)==a.length)=true:=by simp;omega
   have hka':k=a.length:=by omega
   (repeat (first|simp only [↓QA,QB,seval,g1]|refine rd0 rfl ?_))
   refine aJ (fun h3=>?_) fun h3=>?_
   ·have h3':k=b.length:=by simp at h3;omega
    (repeat (first|simp only [↓QA,QB,seval]|refine rd0 rfl ?_))
    rw [←hl,h3',List.drop_length]
    cases List.drop b.length a<;>simp [less]
   ·have h3':k<b.length:=by simp at h3;omega
    (repeat (first|simp only [↓QA,QB,seval,h3,e2]|refine rd0 rfl ?_))
    rw [←hl,hka',List.drop_length,List.drop_eq_getElem_cons (by omega)]
    simp [less]
theorem kY:∀ a,less a a=false
 |[]=>rfl
 |a::az=>by simp [less,kY az]
theorem xR:∀ a b,less a b=false→less b a=false→a=b
 |[],[],_,_=>rfl
 |[],b::bs,h,_=>by simp [less] at h
 |a::az,[],_,h=>by simp [less] at h
 |a::az,b::bs,h1,h2=>by
  by_cases hab:a=b
  ·subst hab
   simp [less] at h1 h2
   rw [xR az bs h1 h2]
  ·simp [less,hab,Ne.symm hab] at h1 h2
   omega
theorem fR (a b:List Int) (ha:a.length<9223372036854775808) (hb:b.length<9223372036854775808):cN T 44 [ints a,ints b] (.bool (decide (a=b))):=by
 refine aQ (af:=a44) rfl (by simp [a44]) dd ?_
 (repeat (first|simp only [↓QA,QB,seval,a44]|refine rd0 rfl ?_))
 refine aJ (fun h=>?_) fun h=>?_
 ·(repeat (first|simp only [↓QA,QB,seval,h]|refine rd0 rfl ?_))
  refine aE (NS a b ha hb) rfl dd ?_
  (repeat (first|simp only [↓QA,QB,seval,h]|refine rd0 rfl ?_))
  cases h1:less a b
  ·(repeat (first|simp only [↓QA,QB,seval,h]|refine rd0 rfl ?_))
   refine aE (NS b a hb ha) rfl dd ?_
   (repeat (first|simp only [↓QA,QB,seval,h]|refine rd0 rfl ?_))
   cases h2:less b a
   ·rw [xR a b h1 h2];simp
   ·have:a≠b:=by rintro rfl;rw [kY] at h2;cases h2
    simp [this]
  ·have:a≠b:=by rintro rfl;rw [kY] at h1;cases h1
   (repeat (first|simp only [↓QA,QB,seval,h]|refine rd0 rfl ?_))
   simp [this]
 ·have:a≠b:=by rintro rfl;simp at h
  (repeat (first|simp only [↓QA,QB,seval,h]|refine rd0 rfl ?_))
  simp [this]
def bD (a b:List Int):Bool:=if a.length=b.length then less a b else decide (a.length<b.length)
theorem A8 (a b:ByteArray):(a.toList==b.toList)=decide (a=b):=by
 rw [Bool.eq_iff_iff];simp
 constructor
 ·intro h;rw [Go.Lib.toList_data,Go.Lib.toList_data] at h;exact ByteArray.ext (Array.toList_inj.1 h)
 ·rintro rfl;rfl
def iH (s:ByteArray):List ByteArray→Nat
 |[]=>0
 |x::xs=>if x=s then 0 else iH s xs+1
def CS (s:ByteArray) (l:List ByteArray):Int:=if iH s l=l.length then -1 else iH s l
theorem MH {s:ByteArray} {l:List ByteArray} {k:Nat} (h:k<l.length) (hx:l[k]≠s):k+iH s (l.drop k)=k+1+iH s (l.drop (k+1)):=by
 rw [List.drop_eq_getElem_cons h];simp [iH,hx];omega
theorem JV (l:List ByteArray) (s:ByteArray) (hl:l.length<9223372036854775808):cN T 220 [NC l,.str s] (.int .i64 (CS s l)):=by
 refine aQ (af:=a220) rfl (by simp [a220]) dd ?_
 (repeat (first|simp only [↓QA,QB,seval,a220]|refine rd0 rfl ?_))
 refine bU (S:=Nat) 0 (fun k=>k≤l.length∧k+iH s (l.drop k)=iH s l) (fun k=>l.length-k) (fun k=>[(0,NC l),(1,.str s),(5,.int .i64 k)]) (fun _=>[]) ⟨Nat.zero_le _,by simp⟩ rfl ?_ fun k hk=>?_
 ·try simp only [aF,QE,seval]
  try simp
 ·obtain ⟨hkl,ha⟩:=hk
  (repeat (first|simp only [↓QA,QB,seval,SH,A8]|refine rd0 rfl ?_))
  refine aJ (fun h=>?_) fun h=>?_
  ·have hk1:k<l.length:=by simpa using h
   have e2:((k:Int)==l.length)=false:=by simp;omega
   (repeat (first|simp only [↓QA,QB,seval,h,hk1,A8]|refine rd0 rfl ?_))
   refine aJ (fun h3=>?_) fun h3=>?_
   ·have h3':l[k]≠s:=by simpa using h3
    (repeat (first|simp only [↓QA,QB,seval,h3]|refine rd0 rfl ?_))
    refine ⟨k+1,⟨by omega,by rw [←MH hk1 h3'];exact ha⟩,by omega,?_⟩
    try simp only [aF,QE,seval,b7 hk1 hl]
   ·have h3':l[k]=s:=by simpa using h3
    have h4:iH s (l.drop k)=0:=by rw [List.drop_eq_getElem_cons hk1];simp [iH,h3']
    (repeat (first|simp only [↓QA,QB,seval,h3,e2]|refine rd0 rfl ?_))
    simp only [CS]
    rw [if_neg (by omega)]
    simp;omega
  ·have hk1:k=l.length:=by simp at h;omega
   have e2:((k:Int)==l.length)=true:=by simp;omega
   have h4:iH s (l.drop k)=0:=by rw [hk1,List.drop_length];rfl
   (repeat (first|simp only [↓QA,QB,seval,h,e2]|refine rd0 rfl ?_))
   simp only [CS]
   rw [if_pos (by omega)]
def uD (i:Nat) (b:Int):Bool:=inR b 97 122||(decide (0<i)&&(b==46||inR b 48 57))
def eF (s:ByteArray):Nat→Bool
 |0=>true
 |k+1=>eF s k&&uD k (dI s k)
def kJ (s:ByteArray):Bool:=inR s.size 1 16&&eF s s.size
theorem AW (s:ByteArray) (hs:s.size<9223372036854775808):cN T 221 [.str s] (.bool (kJ s)):=by
 refine aQ (af:=a221) rfl (by simp [a221]) dd ?_
 (repeat (first|simp only [↓QA,QB,seval,a221]|refine rd0 rfl ?_))
 ((first|refine aE (eG _ _ _) rfl dd ?_|refine aG (eG _ _ _) rfl dd ?_);(repeat (first|simp only [↓QA,QB,seval]|refine rd0 rfl ?_)))
 refine bU (S:=Nat) 0 (fun k=>k≤s.size) (fun k=>s.size-k) (fun k=>[(0,.str s),(3,.bool (inR s.size 1 16&&eF s k)),(4,.int .i64 k)]) (fun _=>[]) (Nat.zero_le _) rfl ?_ fun k hk=>?_
 ·try simp only [aF,QE,seval,eF]
  try simp
 ·(repeat (first|simp only [↓QA,QB,seval,UX]|refine rd0 rfl ?_))
  refine aJ (fun h=>?_) fun h=>?_
  ·have hk1:k<s.size:=by simpa using h
   have hb:=yM s k
   have hw:IntKind.i64.wrap (dI s k)=dI s k:=aX ⟨by omega,by omega⟩
   have fin:∀ (later:Bool),later=(decide (0<k)&&(dI s k==46||inR (dI s k) 48 57))→(inR s.size 1 16&&eF s k&&(inR (dI s k) 97 122||later))=(inR s.size 1 16&&eF s (k+1)):=by
    rintro _ rfl
    simp only [eF,uD,Bool.and_assoc]
   have tail:∀ (later:Bool) (e:Env),later=(decide (0<k)&&(dI s k==46||inR (dI s k) 48 57))→True:=fun _ _ _=>trivial
   (repeat (first|simp only [↓QA,QB,seval,hk1,hw]|refine rd0 rfl ?_))
   cases h0:decide ((0:Int)<k)
   ·have h0':decide (0<k)=false:=by simpa using h0
    (repeat (first|simp only [↓QA,QB,seval,hk1,hw]|refine rd0 rfl ?_))
    cases hf:(inR s.size 1 16&&eF s k)
    ·(repeat (first|simp only [↓QA,QB,seval,hk1,hw,hf]|refine rd0 rfl ?_))
     refine ⟨k+1,by omega,by omega,?_⟩
     try simp only [aF,QE,seval,b7 hk1 hs,←fin false (by simp [h0']),hf]
     try simp
    ·(repeat (first|simp only [↓QA,QB,seval,hk1,hw,hf]|refine rd0 rfl ?_))
     ((first|refine aE (eG _ _ _) rfl dd ?_|refine aG (eG _ _ _) rfl dd ?_);(repeat (first|simp only [↓QA,QB,seval]|refine rd0 rfl ?_)))
     cases h2:inR (dI s k) 97 122
     all_goals
      (repeat (first|simp only [↓QA,QB,seval,hk1,hw,hf]|refine rd0 rfl ?_))
      refine ⟨k+1,by omega,by omega,?_⟩
      try simp only [aF,QE,seval,b7 hk1 hs,←fin false (by simp [h0']),hf,h2]
      try simp
   ·have h0':decide (0<k)=true:=by simpa using h0
    (repeat (first|simp only [↓QA,QB,seval,hk1,hw]|refine rd0 rfl ?_))
    cases h1:(dI s k==46)
    ·(repeat (first|simp only [↓QA,QB,seval,hk1,hw]|refine rd0 rfl ?_))
     ((first|refine aE (eG _ _ _) rfl dd ?_|refine aG (eG _ _ _) rfl dd ?_);(repeat (first|simp only [↓QA,QB,seval]|refine rd0 rfl ?_)))
     cases hf:(inR s.size 1 16&&eF s k)
     ·(repeat (first|simp only [↓QA,QB,seval,hk1,hw,hf]|refine rd0 rfl ?_))
      refine ⟨k+1,by omega,by omega,?_⟩
      try simp only [aF,QE,seval,b7 hk1 hs,←fin _ rfl,hf]
      try simp
     ·(repeat (first|simp only [↓QA,QB,seval,hk1,hw,hf]|refine rd0 rfl ?_))
      ((first|refine aE (eG _ _ _) rfl dd ?_|refine aG (eG _ _ _) rfl dd ?_);(repeat (first|simp only [↓QA,QB,seval]|refine rd0 rfl ?_)))
      cases h2:inR (dI s k) 97 122
      all_goals
       (repeat (first|simp only [↓QA,QB,seval,hk1,hw,hf]|refine rd0 rfl ?_))
       refine ⟨k+1,by omega,by omega,?_⟩
       try simp only [aF,QE,seval,b7 hk1 hs,←fin _ rfl,hf,h2,h0',h1]
       try simp
    ·(repeat (first|simp only [↓QA,QB,seval,hk1,hw]|refine rd0 rfl ?_))
     cases hf:(inR s.size 1 16&&eF s k)
     ·(repeat (first|simp only [↓QA,QB,seval,hk1,hw,hf]|refine rd0 rfl ?_))
      refine ⟨k+1,by omega,by omega,?_⟩
      try simp only [aF,QE,seval,b7 hk1 hs,←fin _ rfl,hf]
      try simp
     ·(repeat (first|simp only [↓QA,QB,seval,hk1,hw,hf]|refine rd0 rfl ?_))
      ((first|refine aE (eG _ _ _) rfl dd ?_|refine aG (eG _ _ _) rfl dd ?_);(repeat (first|simp only [↓QA,QB,seval]|refine rd0 rfl ?_)))
      cases h2:inR (dI s k) 97 122
      all_goals
       (repeat (first|simp only [↓QA,QB,seval,hk1,hw,hf]|refine rd0 rfl ?_))
       refine ⟨k+1,by omega,by omega,?_⟩
       try simp only [aF,QE,seval,b7 hk1 hs,←fin _ rfl,hf,h2,h0',h1]
       try simp
  ·have hk1:k=s.size:=by simp at h;omega
   (repeat (first|simp only [↓QA,QB,seval]|refine rd0 rfl ?_))
   simp [kJ,hk1]
def fresh (s:ByteArray) (before:List ByteArray):Int:=if kJ s=false then 6 else if iH s before=before.length then 0 else 5
theorem BN (s:ByteArray) (l:List ByteArray) (hs:s.size<9223372036854775808) (hl:l.length<9223372036854775808):cN T 67 [.str s,NC l] (.int .i64 (fresh s l)):=by
 refine aQ (af:=a67) rfl (by simp [a67]) dd ?_
 (repeat (first|simp only [↓QA,QB,seval,a67]|refine rd0 rfl ?_))
 ((first|refine aE (JV l s hl) rfl dd ?_|refine aG (JV l s hl) rfl dd ?_);(repeat (first|simp only [↓QA,QB,seval]|refine rd0 rfl ?_)))
 refine aJ (fun h=>?_) fun h=>?_
 ·have hin:iH s l≠l.length:=by
   intro e
   simp [CS,e] at h
  (repeat (first|simp only [↓QA,QB,seval]|refine rd0 rfl ?_))
  ((first|refine aE (AW s hs) rfl dd ?_|refine aG (AW s hs) rfl dd ?_);(repeat (first|simp only [↓QA,QB,seval]|refine rd0 rfl ?_)))
  cases hn:kJ s
  all_goals
   (repeat (first|simp only [↓QA,QB,seval]|refine rd0 rfl ?_))
   simp [fresh,hn,hin]
 ·have hin:iH s l=l.length:=by
   simp only [CS] at h
   split at h
   ·assumption
   ·simp at h
  (repeat (first|simp only [↓QA,QB,seval]|refine rd0 rfl ?_))
  ((first|refine aE (AW s hs) rfl dd ?_|refine aG (AW s hs) rfl dd ?_);(repeat (first|simp only [↓QA,QB,seval]|refine rd0 rfl ?_)))
  cases hn:kJ s
  all_goals
   (repeat (first|simp only [↓QA,QB,seval]|refine rd0 rfl ?_))
   simp [fresh,hn,hin]
def aP (a:Int):Nat→List Int
 |0=>[]
 |n+1=>a::aP (a+1) n
theorem kW:∀ n a,(aP a n).length=n
 |0,_=>rfl
 |n+1,a=>by simp [aP,kW n]
theorem cO:∀ n a x,x∈aP a n↔a≤x∧x<a+n
 |0,a,x=>by simp [aP]
 |n+1,a,x=>by simp [aP,cO n];omega
def fY (i:Nat) (c:List Int):Int:=if 0<i then (c[i-1]?).getD 0+1 else 0
def EU (below i:Nat) (c:List Int):List (List Int):=(aP (fY i c) ((below:Int)-fY i c).toNat).map fun n=>c++[n]
def bE (below:Nat):Nat→List (List Int)
 |0=>[[]]
 |i+1=>(bE below i).flatMap (EU below i)
theorem dB (below:Nat):∀ i c,c∈bE below i→c.length=i∧∀ x∈c,0≤x∧x<below
 |0,c,h=>by simp [bE] at h;subst h;simp
 |i+1,c,h=>by
  simp only [bE,List.mem_flatMap] at h
  obtain ⟨d,h1,h2⟩:=h
  obtain ⟨q1,q2⟩:=dB below i d h1
  simp only [EU,List.mem_map,cO] at h2
  obtain ⟨n,h3,rfl⟩:=h2
  refine ⟨by simp [q1],fun x hx=>?_⟩
  rcases List.mem_append.1 hx with hx|hx
  ·exact q2 x hx
  ·simp at hx
   subst hx
   have:0≤fY i d:=by
    unfold fY
    split
    ·rename_i hi
     have hlt:i-1<d.length:=by omega
     have:=q2 d[i-1] (List.getElem_mem hlt)
     simp [hlt]
     omega
    ·omega
   omega
theorem N4 {α β:Type} (f:α→List β) (b:Nat):∀ l:List α,(∀ x∈l,(f x).length≤b)→(l.flatMap f).length≤l.length*b
 |[],_=>by simp
 |x::l,h=>by
  have h1:=h x (by simp)
  have h2:=N4 f b l fun y hy=>h y (List.mem_cons_of_mem _ hy)
  simp only [List.flatMap_cons,List.length_append,List.length_cons,Nat.add_mul]
  omega
theorem vD (l:List (List Int)):aU 1 (l.map ints)=true:=qB 1 ints l fun x=>Y1 _ _ _
theorem xP (l:List Int):aU 1 (l.map (.int .i64))=true:=qB 1 _ l fun x=>FI _ _
theorem kE:∀ {a b c:List Int},less a b=true→less b c=true→less a c=true
 |a,b,[],h1,h2=>by cases b<;>simp [less] at h2
 |a,[],c::cs,h1,h2=>by cases a<;>simp [less] at h1
 |[],b::bs,c::cs,h1,h2=>by simp [less]
 |a::az,b::bs,c::cs,h1,h2=>by
  simp only [less] at *
  by_cases hab:a=b
  ·subst hab
   by_cases hac:a=c
   ·subst hac
    simp only [if_true] at *
    exact kE h1 h2
   ·simp only [hac,if_false,if_true] at *
    exact h2
  ·by_cases hbc:b=c
   ·subst hbc
    simp only [hab,if_false,if_true,decide_eq_true_eq] at *
    exact h1
   ·simp only [hab,hbc,if_false,decide_eq_true_eq] at *
    rw [if_neg (by omega)]
    simp;omega
theorem jS (a:List Int):bD a a=false:=by simp [bD,kY]
theorem jO {a b c:List Int} (h1:bD a b=true) (h2:bD b c=true):bD a c=true:=by
 simp only [bD] at *
 by_cases e1:a.length=b.length<;>by_cases e2:b.length=c.length
 ·simp only [e1,e2,if_true] at *;exact kE h1 h2
 ·simp only [e1,e2,if_true,if_false,decide_eq_true_eq] at *;exact h2
 ·rw [if_neg e1] at h1;rw [if_neg (by omega)];simp at h1 ⊢;omega
 ·simp only [e1,e2,if_false,decide_eq_true_eq] at *
  rw [if_neg (by omega)];simp;omega
theorem n4 {a b:List Int} (h1:bD a b=false) (h2:bD b a=false):a=b:=by
 simp only [bD] at *
 by_cases e1:a.length=b.length
 ·simp only [e1,if_true] at *
  exact xR a b h1 h2
 ·rw [if_neg e1] at h1;rw [if_neg (Ne.symm e1)] at h2
  simp at h1 h2;omega
theorem sF {a b c:List Int} (h1:bD b a=false) (h2:bD c b=false):bD c a=false:=by
 rw [Bool.eq_false_iff]
 intro h
 by_cases hab:bD a b=true
 ·rw [jO h hab] at h2;cases h2
 ·have:=n4 (by simpa using hab) h1
  subst this
  rw [h] at h2;cases h2
def lst (n s:Nat):List Int:=(aP 0 n).filter fun i=>decide (s/2^i.toNat%2=1)
theorem G5:∀ n:Fin 7,∀ s:Fin 64,s.val<2^n.val→lst n s∈bE n (lst n s).length:=by decide +kernel
theorem BI:∀ n m:Fin 7,∀ c∈bE n m,∃ s:Fin 64,s.val<2^n.val∧lst n s=c:=by decide +kernel
theorem lO:∀ n m:Fin 7,(bE n m).Pairwise fun a b=>less a b=true:=by decide +kernel
theorem uC:∀ n:Fin 7,(bE n n).length=1:=by decide +kernel
theorem rG (n s:Nat):(lst n s).length≤n:=by
 have:=List.length_filter_le (fun i:Int=>decide (s/2^i.toNat%2=1)) (aP 0 n)
 rw [kW] at this
 exact this
def eE (f:List Int→Bool) (n:Nat):Nat→Nat→Option (List Int)
 |0,_=>none
 |k+1,m=>match (bE n m).find? f with
  |some l=>some l
  |none=>eE f n k (m+1)
theorem rD:∀ n:Fin 7,∀ c∈bE n n,∀ j:Fin 7,j.val<n.val→c.contains ((j.val:Nat):Int)=true:=by decide +kernel
def jX (f:List Int→Bool) (o:Option (List Int)) (l:List Int):Option (List Int):=match o with
 |none=>if f l=true then some l else none
 |some b=>if bD b l=true then some b else if f l=true then some l else some b
def nU (f:List Int→Bool) (n:Nat):Nat→Nat→Option (List Int)→Option (List Int)
 |0,_,o=>o
 |k+1,s,o=>nU f n k (s+1) (jX f o (lst n s))
theorem xN (f:List Int→Bool) (n:Nat):∀ k s o,(∀ w,o=some w→f w=true∧∃ t,t<s∧w=lst n t∧∀ t',t'<s→f (lst n t')=true→bD (lst n t') w=false)→(o=none→∀ t,t<s→f (lst n t)=false) →
  (∀ w,nU f n k s o=some w→f w=true∧∃ t,t<s+k∧w=lst n t∧∀ t',t'<s+k→f (lst n t')=true→bD (lst n t') w=false)∧(nU f n k s o=none→∀ t,t<s+k→f (lst n t)=false)
 |0,s,o,h1,h2=>⟨h1,h2⟩
 |k+1,s,o,h1,h2=>by
  have ih:=xN f n k (s+1) (jX f o (lst n s))
  rw [show s+1+k=s+(k+1) by omega] at ih
  simp only [nU]
  have last:∀ (w:List Int) t',t'<s+1→(∀ t'',t''<s→f (lst n t'')=true→bD (lst n t'') w=false)→(f (lst n s)=true→bD (lst n s) w=false)→f (lst n t')=true→bD (lst n t') w=false:=by
   intro w t' ht h3 h4 hs
   by_cases he:t'=s
   ·subst he;exact h4 hs
   ·exact h3 t' (by omega) hs
  refine ih (fun w hw=>?_) fun hn t ht=>?_
  ·cases o with
   |none =>
    simp only [jX] at hw
    split at hw
    ·rename_i hs
     simp only [Option.some.injEq] at hw
     subst hw
     refine ⟨hs,s,by omega,rfl,fun t' ht hst=>last _ t' ht (fun t'' h4 h5=>by rw [h2 rfl t'' h4] at h5;cases h5) (fun _=>jS _) hst⟩
    ·cases hw
   |some b =>
    obtain ⟨q1,t,q2,q3,q4⟩:=h1 b rfl
    simp only [jX] at hw
    split at hw
    ·rename_i hf
     simp only [Option.some.injEq] at hw
     subst hw
     refine ⟨q1,t,by omega,q3,fun t' ht hst=>last _ t' ht q4 (fun _=>?_) hst⟩
     rw [Bool.eq_false_iff]
     intro h5
     have:=jO hf h5
     rw [jS] at this;cases this
    ·rename_i hf
     split at hw
     ·rename_i hs
      simp only [Option.some.injEq] at hw
      subst hw
      refine ⟨hs,s,by omega,rfl,fun t' ht hst=>last _ t' ht (fun t'' h4 h5=>?_) (fun _=>jS _) hst⟩
      exact sF (by simpa using hf) (q4 t'' h4 h5)
     ·rename_i hs
      simp only [Option.some.injEq] at hw
      subst hw
      exact ⟨q1,t,by omega,q3,fun t' ht hst=>last _ t' ht q4 (fun h5=>absurd h5 hs) hst⟩
  ·cases o with
   |none =>
    simp only [jX] at hn
    split at hn
    ·cases hn
    ·rename_i hs
     by_cases he:t=s
     ·subst he;simpa using hs
     ·exact h2 rfl t (by omega)
   |some b =>
    simp only [jX] at hn
    split at hn
    ·cases hn
    ·split at hn<;>cases hn
theorem wC:∀ {n i:Nat} {c:List Int},c∈bE n i→i≤n:=by
 intro n i
 cases i with
 |zero=>intros;omega
 |succ i =>
  intro c hc
  simp only [bE,List.mem_flatMap,EU,List.mem_map,cO] at hc
  obtain ⟨d,hd,x,hx,rfl⟩:=hc
  have key:∀ j (d:List Int),d∈bE n j→(j:Int)≤fY j d:=by
   intro j
   induction j with
   |zero=>intro d _;simp [fY]
   |succ j ih =>
    intro d hd
    simp only [bE,List.mem_flatMap,EU,List.mem_map,cO] at hd
    obtain ⟨d',hd',y,hy,rfl⟩:=hd
    have h5:=ih d' hd'
    have h6:=(dB n j d' hd').1
    simp only [fY,Nat.succ_pos,if_true,Nat.add_sub_cancel]
    rw [List.getElem?_append_right (by omega),h6,Nat.sub_self]
    simp only [List.getElem?_cons_zero,Option.getD_some]
    omega
  have:=key i d hd
  omega
theorem tW (f:List Int→Bool) (n:Nat) (hN:n≤6):∀ k m,(∀ m',m'<m→∀ c∈bE n m',f c=false) →
  (∀ l,eE f n k m=some l→l∈bE n l.length∧f l=true∧∀ m',∀ c∈bE n m',f c=true→bD c l=false)∧(eE f n k m=none→∀ m',m'<m+k→∀ c∈bE n m',f c=false)
 |0,m,hlow=>⟨fun l h=>by simp [eE] at h,fun _ m' h c hc=>hlow m' (by omega) c hc⟩
 |k+1,m,hlow=>by
  simp only [eE]
  cases hf:(bE n m).find? f with
  |none =>
   simp only
   have ih:=tW f n hN k (m+1) fun m' hm' c hc=>by
    by_cases he:m'=m
    ·subst he
     rw [List.find?_eq_none] at hf
     simpa using hf c hc
    ·exact hlow m' (by omega) c hc
   exact ⟨ih.1,fun h m' hm'=>ih.2 h m' (by omega)⟩
  |some l =>
   simp only
   refine ⟨fun l' h=>?_,fun h=>by cases h⟩
   cases h
   have hmem:=List.mem_of_find?_eq_some hf
   have hs:=List.find?_some hf
   have hlen:=(dB _ _ _ hmem).1
   rw [hlen]
   refine ⟨hmem,hs,fun m' c hc hsc=>?_⟩
   have hcl:=(dB _ _ _ hc).1
   by_cases h1:m'<m
   ·rw [hlow m' h1 c hc] at hsc;cases hsc
   ·by_cases he:m'=m
    ·subst he
     rw [Bool.eq_false_iff]
     intro hlt
     simp only [bD,hcl,hlen,if_true] at hlt
     obtain ⟨pre,post,e1,e2⟩:=(List.find?_eq_some_iff_append.1 hf).2
     have hmn:=wC hmem
     have hpw:=lO ⟨n,by omega⟩ ⟨m',by omega⟩
     simp only at hpw
     rw [e1] at hc hpw
     rcases List.mem_append.1 hc with hc|hc
     ·have:=e2 c hc
      rw [hsc] at this;cases this
     ·rcases List.mem_cons.1 hc with rfl|hc
      ·rw [kY] at hlt;cases hlt
      ·have:=(List.pairwise_append.1 hpw).2.1
       have:=(List.pairwise_cons.1 this).1 c hc
       have h3:=kE hlt this
       rw [kY] at h3;cases h3
    ·simp only [bD];rw [if_neg (by omega)];simp;omega
theorem aB3 (f:List Int→Bool) (n:Nat) (hN:n≤6):nU f n (2^n) 0 none=eE f n (n+1) 0:=by
 have hp:2^n≤2^6:=Nat.pow_le_pow_right (by omega) hN
 obtain ⟨w1,w2⟩:=tW f n hN (n+1) 0 (fun m' h=>by omega)
 obtain ⟨s1,s2⟩:=xN f n (2^n) 0 none (fun w h=>by cases h) (fun _ t h=>by omega)
 rw [Nat.zero_add] at s1 s2
 cases hf:nU f n (2^n) 0 none with
 |none =>
  cases hg:eE f n (n+1) 0 with
  |none=>rfl
  |some l =>
   obtain ⟨a,b,c⟩:=w1 l hg
   have hle:=wC a
   obtain ⟨t,ht,hlt⟩:=BI ⟨n,by omega⟩ ⟨l.length,by omega⟩ l a
   have:=s2 hf t.val ht
   rw [show lst n t.val=l from hlt,b] at this;cases this
 |some w =>
  obtain ⟨q1,t',q2,q3,q4⟩:=s1 w hf
  have hin:=G5 ⟨n,by omega⟩ ⟨t',by omega⟩ q2
  simp only at hin
  rw [←q3] at hin
  have hle:w.length≤n:=by rw [q3];exact rG _ _
  cases hg:eE f n (n+1) 0 with
  |none =>
   have:=w2 hg w.length (by omega) w hin
   rw [q1] at this;cases this
  |some l =>
   obtain ⟨a,b,c⟩:=w1 l hg
   have hll:=wC a
   obtain ⟨t,ht,hlt⟩:=BI ⟨n,by omega⟩ ⟨l.length,by omega⟩ l a
   have a1:=q4 t.val ht (by rw [show lst n t.val=l from hlt];exact b)
   rw [show lst n t.val=l from hlt] at a1
   have a2:=c w.length w hin q1
   rw [n4 a1 a2]
open Go
variable {P:Program}
def j7 (P:Program) (t:TypeId) (ts:List TypeId):Prop:=∃ fs,P.underlying t=some (.struct fs)∧fs.toList.map Field.type=ts
theorem sP {n:Nat} {t:TypeId} {ts:List TypeId} {cs:List AV} (hu:j7 P t ts) (h:Typ P (n+1) t cs):mkV P t cs = .agg cs∧NW P n ts cs:=by
 obtain ⟨fs,h1,h2⟩:=hu
 have:=NA h1 h
 rw [h2] at this
 exact ⟨L8 h1,this⟩
theorem KY {t:TypeId} {a:AV} {d:TypeDesc} (hu:P.underlying t=some d) (hd:∀ fs,d≠.struct fs:=by intro fs h;cases h) (hd2:∀ k e,d≠.array k e:=by intro k e h;cases h):mkV P t [a]=a:=WZ (by rw [hu];intro fs e;cases e;exact hd _ rfl) (by rw [hu];intro k e h;cases h;exact hd2 _ _ rfl)
theorem BC {n:Nat} {i t:TypeId} {cs:List AV} (hi:P.underlying i=some (.int .i64)) (hs:j7 P t [i,i]) (h:Typ P (n+2) t cs):∃ s:Span,cs=[.int .i64 s.lo,.int .i64 s.hi]:=by
 obtain ⟨_,a,b,rfl,h1,c,d,rfl,h2,rfl⟩:=sP hs h
 obtain ⟨x,rfl,_⟩:=fJ hi h1
 obtain ⟨y,rfl,_⟩:=fJ hi h2
 exact ⟨⟨x,y⟩,rfl⟩
theorem aCK {n:Nat} {t:TypeId} {cs:List AV} (hi:P.underlying t=some (.int .i64)) (h:Typ P (n+1) t cs):∃ x:Int,mkV P t cs = .int .i64 x∧True:=by
 obtain ⟨x,rfl,_⟩:=fJ hi h
 exact ⟨x,KY hi,trivial⟩
theorem aF3 {n:Nat} {t:TypeId} {cs:List AV} (hi:P.underlying t=some (.int .u8)) (h:Typ P (n+1) t cs):∃ x:Int,mkV P t cs = .int .u8 x∧(0≤x∧x<256):=by
 obtain ⟨x,rfl,hw⟩:=fJ hi h
 exact ⟨x,KY hi,J0 hw⟩
theorem XD {n:Nat} {t i:TypeId} {cs:List AV} (hi:P.underlying i=some (.int .i64)) (hs:P.underlying t=some (.slice i)) (h:Typ P (n+2) t cs):∃ l:List Int,mkV P t cs=Go.Am.ints l∧cs=[Go.Am.ints l]∧l.length<9223372036854775808:=by
 obtain ⟨l,rfl,⟨h1,_⟩,_⟩:=mC (f:=fun x:Int=>AV.int .i64 x) hs h fun y hy=>aCK hi hy
 exact ⟨l,KY hs,rfl,h1⟩
end Go.Am.Room
namespace Go.Am.Room
def u6 (sz:Nat) (σ:St) (xs:List AV):AV×St:=if xs.length=0 then (.lit [] true none,σ) else (.lit xs false (some σ.length),σ++[.tok sz xs.length true])
theorem NK {sz b:Nat} {σ:St} {xs:List AV} {f:Bool} {tk:Option Nat} (h:IM sz b [] xs):cZ sz b σ (.lit [] true none) (.lit xs f tk)=some ((u6 sz σ xs).1,(u6 sz σ xs).2):=by
 by_cases h0:xs.length=0
 ·have:xs=[]:=List.length_eq_zero_iff.1 h0
  subst this
  rw [XR];simp [u6]
 ·rw [DQ h h0];simp [u6,h0]
theorem E7 {sz b:Nat} {σ:St} {xs ys:List AV} {f:Bool} {tk:Option Nat} (h:IM sz b xs ys) (hy:ys.length≠0):cZ sz b (u6 sz σ xs).2 (u6 sz σ xs).1 (.lit ys f tk)=some (.lit (xs++ys) false (some σ.length),σ++[.tok sz (xs.length+ys.length) true]):=by
 by_cases h0:xs.length=0
 ·have:xs=[]:=List.length_eq_zero_iff.1 h0
  subst this
  simp only [u6,List.length_nil,if_true]
  rw [DQ h hy]
  simp
 ·simp only [u6,h0,if_false]
  rw [uP (ex:=true) h hy (by simp)]
  simp
theorem FZ {σ:St} {sz b:Nat} {xs ys:List AV} {ex f:Bool} {t:Nat} {tk:Option Nat} (h:IM sz b xs ys) (h0:ys.length≠0) (n:Nat) (hn:n=xs.length) (ht:σ[t]? = some (.tok sz n ex)) :
  cZ sz b σ (.lit xs false (some t)) (.lit ys f tk)=some (.lit (xs++ys) false (some t),σ.set t (.tok sz (n+ys.length) true)):=by
 subst hn
 exact uP h h0 ht
end Go.Am.Room
set_option maxRecDepth 8000
namespace Go.Am.Room.Fa
def PN:=And.intro @aC (@List.length_append.{0})
theorem bL (a b:Int):cN T 79 [.int .i64 a,.int .i64 b] (bC ⟨a,b⟩):=by
 refine aQ (af:=a79) rfl (by simp [a79]) dd ?_
 (repeat (first|simp only [↓QA,QB,seval,PN,a79]|refine rd0 rfl ?_))
def iD (l:List Int) (n:Nat):Int:=if l.length=0 then 0 else (l[n%l.length]?).getD 0
def u8s (l:List Int):AV:=.lit (l.map (.int .u8)) false none
theorem xB (l:List Int):j4 (u8s l):=fT (bT .u8) l
instance (l:List Int):Dat (u8s l):=⟨xB l⟩
theorem aAC (σ:St) (m d:Nat) (l:List Int):cB σ m d (l.map (.int .u8))=some (l.map (.int .u8)):=jD (bZ (bT .u8) l) σ m d
def B7 (l:List Int):Prop:=(∀ x∈l,0≤x∧x<256)∧l.length<9223372036854775808
theorem oB {l:List Int} (h:B7 l) (n:Nat):0≤iD l n∧iD l n<256:=by
 unfold iD
 split
 ·omega
 ·rename_i h0
  have hlt:n%l.length<l.length:=Nat.mod_lt _ (by omega)
  rw [List.getElem?_eq_getElem hlt,Option.getD_some]
  exact h.1 _ (List.getElem_mem hlt)
end Go.Am.Room.Fa
namespace Go.Am.Room
def aL {α:Type} (f:Nat→α→Int):List α→Nat→Option (Nat×Int)
 |[],_=>none
 |x::xs,i=>if f i x=0 then aL f xs (i+1) else some (i,f i x)
theorem c9 {α:Type} {f:Nat→α→Int} {l:List α} {k:Nat} (h:k<l.length):aL f (l.drop k) k=if f k l[k]=0 then aL f (l.drop (k+1)) (k+1) else some (k,f k l[k]):=by
 rw [List.drop_eq_getElem_cons h];rfl
theorem dK {α:Type} {f:Nat→α→Int} {l:List α} {k:Nat} (h:k=l.length):aL f (l.drop k) k=none:=by
 rw [h,List.drop_length];rfl
def qN:List Int→Span
 |[]=>⟨0,0⟩
 |x::xs=>xs.foldl nF ⟨x,x⟩
def mK (yes all:Nat):Int:=if yes=all then 1 else if yes=0 then 2 else 0
theorem gE {n lo hi:Int}:inR n lo hi=true↔lo≤n∧n≤hi:=by simp [inR]
theorem n5 {s:Span} {lo hi:Int} (h:dV s lo hi=0):lo≤s.lo∧s.lo≤s.hi∧s.hi≤hi:=by
 unfold dV at h
 split at h
 ·omega
 ·rename_i h1
  split at h
  ·omega
  ·simp [inR] at h1;omega
theorem gG {α:Type} {f:Nat→α→Int}:∀ {l:List α} {i:Nat},aL f l i=none→∀ k (h:k<l.length),f (i+k) l[k]=0
 |[],_,_,k,h=>by simp at h
 |x::xs,i,h,k,hk=>by
  simp only [aL] at h
  split at h
  ·rename_i h0
   cases k with
   |zero=>exact h0
   |succ k =>
    have:=gG h k (by simpa using hk)
    simpa [Nat.add_assoc,Nat.add_comm 1 k] using this
  ·cases h
theorem eP {α:Type} {f:Nat→α→Int}:∀ {l:List α} {i j:Nat} {e:Int},aL f l i=some (j,e)→e≠0
 |[],_,_,_,h=>by cases h
 |x::xs,i,j,e,h=>by
  simp only [aL] at h
  split at h
  ·exact eP h
  ·rename_i hn
   simp at h
   rw [←h.2]
   exact hn
end Go.Am.Room
namespace Go.Am.Room.Fa
structure Plot where
 name:ByteArray
 flower:Span
 hands:Int
structure Look where
 plot:Int
 day:Int
 points:Int
structure Farm where
 rain:List Span
 full:Int
 ripe:Int
 way:Span
 plots:List Plot
 looks:List Look
theorem cT (σ:St) (m d:Nat) (l:List Span):cB σ m d (l.map bC)=some (l.map bC):=jD (bZ uQ l) σ m d
instance (l:List Span):Dats (l.map bC):=⟨bZ uQ l⟩
def cL (p:Plot):AV:=.agg [.str p.name,.int .i64 p.flower.lo,.int .i64 p.flower.hi,.int .i64 p.hands]
theorem cE (p:Plot):cL p = .agg [.str p.name,.int .i64 p.flower.lo,.int .i64 p.flower.hi,.int .i64 p.hands]:=by simp only [cL]
theorem qM (p:Plot):j4 (cL p):=iZ (a9 (sX _) (a9 (bT _ _) (a9 (bT _ _) (a9 (bT _ _) bF))))
instance (p:Plot):Dat (cL p):=⟨qM p⟩
def encLook (x:Look):AV:=.agg [.int .i64 x.plot,.int .i64 x.day,.int .i64 x.points]
theorem encLook_eq (x:Look):encLook x = .agg [.int .i64 x.plot,.int .i64 x.day,.int .i64 x.points]:=by simp only [encLook]
theorem i8 (x:Look):j4 (encLook x):=iZ (a9 (bT _ _) (a9 (bT _ _) (a9 (bT _ _) bF)))
instance (x:Look):Dat (encLook x):=⟨i8 x⟩
instance (l:List Plot):Dats (l.map cL):=⟨bZ qM l⟩
instance (l:List Look):Dats (l.map encLook):=⟨bZ i8 l⟩
def aB (v:Farm):List AV:=[.lit (v.rain.map bC) false none,.int .i64 v.full,.int .i64 v.ripe,.int .i64 v.way.lo,.int .i64 v.way.hi,.lit (v.plots.map cL) false none,.lit (v.looks.map encLook) false none]
theorem aK (v:Farm):aB v=[.lit (v.rain.map bC) false none,.int .i64 v.full,.int .i64 v.ripe,.int .i64 v.way.lo,.int .i64 v.way.hi,.lit (v.plots.map cL) false none,.lit (v.looks.map encLook) false none]:=by simp only [aB]
def encFarm (v:Farm):AV:=.agg (aB v)
theorem cC (v:Farm):encFarm v = .agg (aB v):=by simp only [encFarm]
theorem rB (v:Farm):j4 (encFarm v):=iZ (a9 (fT uQ _) (a9 (bT _ _) (a9 (bT _ _) (a9 (bT _ _) (a9 (bT _ _) (a9 (fT qM _) (a9 (fT i8 _) bF)))))))
instance (v:Farm):Dat (encFarm v):=⟨rB v⟩
theorem cS (σ:St) (m d:Nat) (l:List Plot):cB σ m d (l.map cL)=some (l.map cL):=jD (bZ qM l) σ m d
theorem S_mapLook (σ:St) (m d:Nat) (l:List Look):cB σ m d (l.map encLook)=some (l.map encLook):=jD (bZ i8 l) σ m d
structure Fits (v:Farm):Prop where
 rain:v.rain.length<9223372036854775808
 plots:v.plots.length<9223372036854775808
 looks:v.looks.length<9223372036854775808
 names:∀ p∈v.plots,p.name.size<9223372036854775808
def fM (v:Farm):Int:=v.rain.length
def vG (_:Nat) (s:Span):Int:=dV s 0 2
def GV (v:Farm) (p:Plot):Int:=if dV p.flower 0 (fM v-1)=7∨inR p.hands 1 99=false then 7 else dV p.flower 0 (fM v-1)
def nL (v:Farm) (i:Nat) (p:Plot):Int:=if fresh p.name ((v.plots.take i).map Plot.name)=0 then GV v p else fresh p.name ((v.plots.take i).map Plot.name)
def qF (v:Farm) (_:Nat) (x:Look):Int:=if inR x.plot 0 ((v.plots.length:Int)-1)=false then 4 else if inR x.day 0 (fM v)=false∨inR x.points 0 30=false then 7 else 0
def gD (v:Farm):Int×Int×Int:=if 4<v.looks.length then (4,0,3) else match aL (qF v) v.looks 0 with|some (i,e)=>(4,i,e)|none=>(0,0,0)
def gI (v:Farm):Int×Int×Int:=if 4<v.plots.length then (3,0,3) else match aL (nL v) v.plots 0 with|some (i,e)=>(3,i,e)|none=>gD v
def eK (v:Farm):Int×Int×Int:=if inR v.full 0 30=false∨inR v.ripe 0 30=false∨dV v.way 0 9=7 then (2,0,7) else if dV v.way 0 9=0 then gI v else (2,0,dV v.way 0 9)
def check (v:Farm):Int×Int×Int:=if inR v.rain.length 1 7=false then (1,0,3) else match aL vG v.rain 0 with|some (i,e)=>(1,i,e)|none=>eK v
def pts (r:Nat→Int) (a:Nat):Nat→Int
 |0=>0
 |d+1=>if a≤d then pts r a d+(1+r d) else 0
def rl (l:List Int) (i:Nat):Int:=(l[i]?).getD 0
def yJ (l:List Int) (a d:Int):Int:=pts (rl l) a.toNat d.toNat
def nD (s:Span):List Int:=aP s.lo (s.hi+1-s.lo).toNat
def ext (s:Span) (l:List Int):List (List Int):=(nD s).map fun n=>l++[n]
def dL (rs:List Span):Nat→List (List Int)
 |0=>[[]]
 |k+1=>match rs[k]? with|some s=>(dL rs k).flatMap (ext s)|none=>dL rs k
def mI (v:Farm):List (List Int):=dL v.rain v.rain.length
def qC (plot:Int) (but:List Int) (rain:List Int) (d:Int) (k:Nat) (x:Look):Bool:=!decide (x.plot=plot)||but.contains (k:Int)||yJ rain d x.day==x.points
def j8 (v:Farm) (plot:Int) (rain but:List Int) (d:Int):Bool:=(List.range v.looks.length).all fun k=>match v.looks[k]? with|some x=>qC plot but rain d k x|none=>true
def D0 (v:Farm) (p:Nat):Span:=match v.plots[p]? with|some x=>x.flower|none=>⟨0,-1⟩
def bH (v:Farm) (p:Nat) (rain but:List Int):List Int:=(nD (D0 v p)).filter (j8 v (p:Int) rain but)
structure Truth where
 rain:List Int
 fl:List (List Int)
def jQ (v:Farm) (but rain:List Int):Option Truth :=
 let l:=(List.range v.plots.length).map fun (p:Nat)=>bH v p rain but
 if l.all (fun x=>!x.isEmpty) then some ⟨rain,l⟩ else none
def aR (v:Farm) (but:List Int):List Truth:=(mI v).filterMap (jQ v but)
def fH (t:Truth):AV:=.agg [ints t.rain,.lit (t.fl.map ints) false none]
theorem sZ (t:Truth):fH t = .agg [ints t.rain,.lit (t.fl.map ints) false none]:=by simp only [fH]
theorem rL (t:Truth):j4 (fH t):=iZ (a9 (jT _) (a9 (fT jT _) bF))
instance (t:Truth):Dat (fH t):=⟨rL t⟩
def qQ (l:List Truth):AV:=.lit (l.map fH) false none
theorem JB (l:List Truth):qQ l = .lit (l.map fH) false none:=by simp only [qQ]
theorem IL (l:List Truth):j4 (qQ l):=fT rL l
instance (l:List Truth):Dat (qQ l):=⟨IL l⟩
instance (l:List Truth):Dats (l.map fH):=⟨bZ rL l⟩
theorem R9 (σ:St) (m d:Nat) (l:List Truth):cB σ m d (l.map fH)=some (l.map fH):=jD (bZ rL l) σ m d
def bQ (v:Farm) (but:List Int):Bool:=!(aR v but).isEmpty
def dA (v:Farm) (plot:Int):Int:=if (check v).2.2=0 then (if inR plot 0 ((v.plots.length:Int)-1) then 0 else 4) else (check v).2.2
def cY (n most e:Int):Int:=if e=0 then (if inR n 0 most then 0 else 7) else e
def aZ (v:Farm) (e:Int):Int:=if e=0 then (if (aR v []).isEmpty then 8 else 0) else e
def hO (t:Truth) (p:Nat):List Int:=(t.fl[p]?).getD []
def cG (l:List Truth) (p d:Nat):List Int:=l.flatMap fun t=>(hO t p).map fun h=>yJ t.rain h d
def fE (l:List Truth) (p d:Nat):Span:=qN (cG l p d)
def j9 (v:Farm) (plot day:Int):Int:=aZ v (cY day (fM v) (dA v plot))
def nN (v:Farm) (plot day:Int):Span×Int:=if j9 v plot day=0 then (fE (aR v []) plot.toNat day.toNat,0) else (⟨0,0⟩,j9 v plot day)
def wN (v:Farm) (day:Int):Int:=aZ v (cY day (fM v-1) (check v).2.2)
def lK (l:List Truth) (d:Nat):List Int:=l.map fun t=>rl t.rain d
def qW (v:Farm) (day:Int):Span×Int:=if wN v day=0 then (qN (lK (aR v []) day.toNat),0) else (⟨0,0⟩,wN v day)
def lN (v:Farm) (plot:Int):Int:=aZ v (dA v plot)
def DX (l:List Truth) (p:Nat) (d:Int):Bool:=l.any fun t=>(hO t p).contains d
def oM (v:Farm) (l:List Truth) (p:Nat):List Int:=(aP 0 v.rain.length).filter (DX l p)
def mA (v:Farm) (plot:Int):List Int×Int:=if lN v plot=0 then (oM v (aR v []) plot.toNat,0) else ([],lN v plot)
def vW (v:Farm) (n w:Int):Bool:=decide (v.full≤n)&&decide (n+w≤v.ripe)
def BF (v:Farm) (n:Int):List Bool:=(nD v.way).map (vW v n)
def mN (v:Farm) (l:List Truth) (p d:Nat):List Bool:=(cG l p d).flatMap (BF v)
def eY (v:Farm) (l:List Truth) (p d:Nat):Int:=mK ((mN v l p d).filter id).length (mN v l p d).length
def CI (v:Farm) (plot day:Int):Int×Int:=if j9 v plot day=0 then (eY v (aR v []) plot.toNat day.toNat,0) else (0,j9 v plot day)
def BX (v:Farm) (l:List Truth) (p:Nat):List Int:=(aP 0 (v.rain.length+1)).filter fun d=>eY v l p d.toNat==1
def GZ (v:Farm) (l:List Truth) (p:Nat):List Int:=(aP 0 (v.rain.length+1)).filter fun d=>!(eY v l p d.toNat==2)
def vU (v:Farm) (plot:Int):List Int×List Int×Int:=if lN v plot=0 then (BX v (aR v []) plot.toNat,GZ v (aR v []) plot.toNat,0) else ([],[],lN v plot)
def nE (v:Farm) (l:List Truth) (p d:Nat):Bool:=decide ((fE l p d).hi+v.way.hi≤v.ripe)
def GW (v:Farm) (l:List Truth) (p d:Nat):Bool:=decide (v.full≤(fE l p d).lo)
def oX (q:Nat→Bool):Nat→Int
 |0=>-1
 |k+1=>if q k then k else oX q k
def CB (v:Farm) (l:List Truth) (p:Nat):Int:=oX (nE v l p) (v.rain.length+1)
def wI (v:Farm) (plot:Int):Int×Int:=if lN v plot=0 then (if CB v (aR v []) plot.toNat = -1 then (0,9) else (CB v (aR v []) plot.toNat,0)) else (0,lN v plot)
def HB (v:Farm) (p:Int):Int:=match v.plots[p.toNat]? with|some x=>x.hands|none=>0
def uR (v:Farm):List Int→Int
 |[]=>0
 |p::l=>HB v p+uR v l
def bA (v:Farm) (l:List Truth) (ps:List Int) (d:Nat):List Int:=ps.filter fun p=>!GW v l p.toNat d
def o7 (v:Farm) (l:List Truth) (ps:List Int) (d:Nat) (hands:Int):Bool:=decide (hands≤uR v ps)&&ps.all fun p=>nE v l p.toNat d
def FJ (v:Farm) (l:List Truth) (d:Nat) (hands:Int) (o:Option (List Int)) (ps:List Int):Option (List Int) :=
 if o7 v l ps d hands then (match o with|none=>some ps|some b=>if (bA v l ps d).length<(bA v l b d).length then some ps else some b) else o
def vY (n:Nat):Nat→Nat→List (List Int)
 |0,_=>[]
 |k+1,m=>bE n m++vY n k (m+1)
def oL (n:Nat):List (List Int):=vY n (n+1) 0
def A1 (v:Farm) (l:List Truth) (d:Nat) (hands:Int):Option (List Int):=(oL v.plots.length).foldl (FJ v l d hands) none
def tL (v:Farm) (day hands:Int):Int:=aZ v (cY hands 400 (cY day (fM v) (check v).2.2))
def GL (v:Farm) (l:List Truth) (d:Nat):Option (List Int)→List Int×List Int×Int
 |none=>([],[],9)
 |some b=>(b,bA v l b d,0)
def rM (v:Farm) (day hands:Int):List Int×List Int×Int:=if tL v day hands=0 then GL v (aR v []) day.toNat (A1 v (aR v []) day.toNat hands) else ([],[],tL v day hands)
def B1 (v:Farm):List Int:=(eE (bQ v) v.looks.length v.looks.length 0).getD (((bE v.looks.length v.looks.length)[0]?).getD [])
def lB (v:Farm):List Int×Int:=if (check v).2.2=0 then (B1 v,0) else ([],(check v).2.2)
def VE:ByteArray:=⟨#[104,105,108,108]⟩
def SI:ByteArray:=⟨#[98,97,110,107]⟩
def UA:ByteArray:=⟨#[98,101,110,100]⟩
def exF (l:List Look):Farm:=⟨[⟨1,1⟩,⟨0,1⟩,⟨0,0⟩,⟨1,2⟩,⟨0,1⟩],6,11,⟨2,3⟩,[⟨VE,⟨0,0⟩,30⟩,⟨SI,⟨1,2⟩,20⟩,⟨UA,⟨0,1⟩,25⟩],l⟩
def exL:Farm:=exF [⟨1,3,2⟩]
def exW:Farm:=exF [⟨1,3,2⟩,⟨0,1,3⟩]
theorem x1:nN (exF []) 1 4=(⟨3,6⟩,0):=by decide +kernel
theorem x2:nN exL 1 4=(⟨4,5⟩,0):=by decide +kernel
theorem x3:CI (exF []) 0 4=(1,0):=by decide +kernel
theorem x4:CI (exF []) 0 3=(2,0):=by decide +kernel
theorem x5:vU (exF []) 0=([4],[4,5],0):=by decide +kernel
theorem x6:wI (exF []) 0=(4,0):=by decide +kernel
theorem x7:rM (exF []) 4 50=([0,1],[1],0):=by decide +kernel
theorem x8:rM (exF []) 4 80=([],[],9):=by decide +kernel
theorem x9:qW exL 1=(⟨0,0⟩,0):=by decide +kernel
theorem x10:mA exL 1=([1],0):=by decide +kernel
theorem x11:lB exW=([1],0):=by decide +kernel
theorem x12:wI exW 0=(0,8):=by decide +kernel
structure Vd (v:Farm):Prop where
 nra:1≤v.rain.length∧v.rain.length≤7
 ra:∀ s∈v.rain,0≤s.lo∧s.lo≤s.hi∧s.hi≤2
 full:0≤v.full∧v.full≤30
 ripe:0≤v.ripe∧v.ripe≤30
 way:0≤v.way.lo∧v.way.lo≤v.way.hi∧v.way.hi≤9
 npl:v.plots.length≤4
 pl:∀ i (h:i<v.plots.length),nL v i v.plots[i]=0
 nlk:v.looks.length≤4
 lk:∀ x∈v.looks,(0≤x.plot∧x.plot<v.plots.length)∧(0≤x.day∧x.day≤v.rain.length)∧0≤x.points∧x.points≤30
theorem vd_of_check {v:Farm} (h:(check v).2.2=0):Vd v:=by
 unfold check at h
 split at h
 ·simp at h
 rename_i c1
 split at h
 ·rename_i i e he;exact absurd h (eP he)
 rename_i f1
 unfold eK at h
 split at h
 ·simp at h
 rename_i c2
 split at h
 case isFalse hn=>exact absurd h hn
 rename_i c0
 unfold gI at h
 split at h
 ·simp at h
 rename_i c3
 split at h
 ·rename_i i e he;exact absurd h (eP he)
 rename_i f2
 unfold gD at h
 split at h
 ·simp at h
 rename_i c4
 split at h
 ·rename_i i e he;exact absurd h (eP he)
 rename_i f3
 simp only [not_or,Bool.not_eq_false] at c1 c2
 obtain ⟨d1,d2,d3⟩:=c2
 rw [gE] at c1 d1 d2
 refine ⟨by omega,?_,d1,d2,n5 c0,by omega,fun i hi=>by simpa using gG f2 i hi,by omega,?_⟩
 ·intro x hx
  obtain ⟨k,hk,rfl⟩:=List.getElem_of_mem hx
  exact n5 (gG f1 k hk)
 ·intro x hx
  obtain ⟨k,hk,rfl⟩:=List.getElem_of_mem hx
  have:=gG f3 k hk
  unfold qF at this
  split at this
  ·omega
  rename_i hi
  split at this
  ·omega
  rename_i hj
  rw [not_or,Bool.not_eq_false,Bool.not_eq_false,gE,gE] at hj
  rw [Bool.not_eq_false,gE] at hi
  simp only [fM] at hj
  omega
theorem EY {v:Farm} (h:Vd v) {i:Nat} (hi:i<v.plots.length):(0≤v.plots[i].flower.lo∧v.plots[i].flower.lo≤v.plots[i].flower.hi∧v.plots[i].flower.hi≤(v.rain.length:Int)-1)∧1≤v.plots[i].hands∧v.plots[i].hands≤99:=by
 have:=h.pl i hi
 unfold nL at this
 split at this
 ·unfold GV at this
  split at this
  ·omega
  ·rename_i h1
   rw [not_or,Bool.not_eq_false,gE] at h1
   have:=n5 this
   simp only [fM] at this
   omega
 ·rename_i h0;exact absurd this h0
theorem qP {v:Farm} {p:Nat} (hp:p<v.plots.length):D0 v p=v.plots[p].flower:=by simp [D0,hp]
theorem U0 {v:Farm} {p:Nat} (hp:p<v.plots.length):HB v (p:Int)=v.plots[p].hands:=by simp [HB,hp]
theorem lW {s:Span} {n:Int}:n∈nD s↔s.lo≤n∧n≤s.hi:=by
 rw [nD,cO];omega
theorem CV {s:Span}:(nD s).length=(s.hi+1-s.lo).toNat:=kW _ _
theorem NI {s:Span} {l c:List Int}:c∈ext s l↔∃ n,(s.lo≤n∧n≤s.hi)∧c=l++[n]:=by
 simp only [ext,List.mem_map,lW]
 constructor
 ·rintro ⟨n,h,rfl⟩;exact ⟨n,h,rfl⟩
 ·rintro ⟨n,h,rfl⟩;exact ⟨n,h,rfl⟩
theorem lD {rs:List Span} {k:Nat} (h:k<rs.length):dL rs (k+1)=(dL rs k).flatMap (ext rs[k]):=by
 simp only [dL,List.getElem?_eq_getElem h]
theorem mJ {rs:List Span}:∀ {k:Nat},k≤rs.length→∀ {c:List Int},c∈dL rs k↔c.length=k∧∀ i (h:i<k) (h2:i<rs.length) ,rs[i].lo≤rl c i∧rl c i≤rs[i].hi
 |0,_,c=>by
  simp only [dL,List.mem_singleton]
  constructor
  ·rintro rfl;exact ⟨rfl,fun i h=>by omega⟩
  ·rintro ⟨h,_⟩;exact List.length_eq_zero_iff.1 h
 |k+1,hk,c=>by
  rw [lD (show k<rs.length by omega),List.mem_flatMap]
  constructor
  ·rintro ⟨l,hl,hc⟩
   obtain ⟨n,hn,rfl⟩:=NI.1 hc
   obtain ⟨h1,h2⟩:=(mJ (by omega)).1 hl
   refine ⟨by simp [h1],fun i hi hi2=>?_⟩
   by_cases e:i=k
   ·subst e
    simp only [rl]
    rw [List.getElem?_append_right (by omega),h1,Nat.sub_self]
    exact hn
   ·have:=h2 i (by omega) hi2
    simp only [rl] at this ⊢
    rw [List.getElem?_append_left (by omega)]
    exact this
  ·rintro ⟨h1,h2⟩
   have hd:c≠[]:=by intro e;subst e;simp at h1
   have hsp:=List.dropLast_concat_getLast hd
   refine ⟨c.dropLast,(mJ (by omega)).2 ⟨by simp [h1],fun i hi hi2=>?_⟩,NI.2 ⟨c.getLast hd,?_,hsp.symm⟩⟩
   ·have:=h2 i (by omega) hi2
    simp only [rl] at this ⊢
    rw [List.getElem?_dropLast,if_pos (by omega)]
    exact this
   ·have:=h2 k (by omega) (by omega)
    have hlast:rl c k=c.getLast hd:=by
     simp only [rl]
     rw [List.getLast_eq_getElem,List.getElem?_eq_getElem (by omega)]
     simp [h1]
    rw [hlast] at this
    exact this
theorem qA {rs:List Span} (h:∀ s∈rs,0≤s.lo∧s.lo≤s.hi∧s.hi≤2):∀ k,(dL rs k).length≤3^k
 |0=>by simp [dL]
 |k+1=>by
  have ih:=qA h k
  by_cases hk:k<rs.length
  ·rw [lD hk,Nat.pow_succ]
   have:=h _ (List.getElem_mem hk)
   refine Nat.le_trans (N4 (ext rs[k]) 3 _ fun c _=>?_) (Nat.mul_le_mul_right _ ih)
   simp only [ext,List.length_map,CV]
   omega
  ·simp only [dL,List.getElem?_eq_none (Nat.le_of_not_lt hk)]
   rw [Nat.pow_succ];omega
theorem zV {v:Farm} (h:Vd v):(mI v).length≤2187:=by
 refine Nat.le_trans (qA h.ra _) ?_
 have:=h.nra
 exact Nat.le_trans (Nat.pow_le_pow_right (by omega) this.2) (by decide)
structure RainOk (v:Farm) (c:List Int):Prop where
 len:c.length=v.rain.length
 bd:∀ i (h:i<v.rain.length),v.rain[i].lo≤rl c i∧rl c i≤v.rain[i].hi
theorem m4 {v:Farm} {c:List Int}:c∈mI v↔RainOk v c:=by
 rw [mI,mJ (Nat.le_refl _)]
 exact ⟨fun ⟨h1,h2⟩=>⟨h1,fun i h=>h2 i h h⟩,fun ⟨h1,h2⟩=>⟨h1,fun i h _=>h2 i h⟩⟩
theorem nY {v:Farm} (hv:Vd v) {c:List Int} (h:RainOk v c) (i:Nat):0≤rl c i∧rl c i≤2:=by
 by_cases hi:i<v.rain.length
 ·have h1:=h.bd i hi
  have h2:=hv.ra _ (List.getElem_mem hi)
  omega
 ·rw [rl,List.getElem?_eq_none (by rw [h.len];omega)]
  simp
theorem C5 (r:Nat→Int) (a:Nat):pts r a a=0:=by
 cases a with
 |zero=>rfl
 |succ a=>simp only [pts];rw [if_neg (by omega)]
theorem HO (r:Nat→Int) {a d:Nat} (h:d≤a):pts r a d=0:=by
 cases d with
 |zero=>rfl
 |succ d=>simp only [pts];rw [if_neg (by omega)]
theorem xC (r:Nat→Int) {a d:Nat} (h:a≤d):pts r a (d+1)=pts r a d+(1+r d):=by simp only [pts];rw [if_pos h]
theorem vP {r:Nat→Int} (hr:∀ i,0≤r i∧r i≤2) (a:Nat):∀ d,0≤pts r a d∧pts r a d≤3*d
 |0=>by simp [pts]
 |d+1=>by
  have ih:=vP hr a d
  have:=hr d
  simp only [pts]
  split
  ·omega
  ·omega
theorem wA {v:Farm} {but:List Int} {t:Truth}:t∈aR v but↔RainOk v t.rain∧t.fl=(List.range v.plots.length).map (fun p=>bH v p t.rain but)∧∀ x∈t.fl,x≠[]:=by
 simp only [aR,List.mem_filterMap]
 constructor
 ·rintro ⟨c,hc,h⟩
  simp only [jQ] at h
  split at h
  ·rename_i ha
   simp only [Option.some.injEq] at h
   subst h
   refine ⟨m4.1 hc,rfl,fun x hx e=>?_⟩
   have:=List.all_eq_true.1 ha x hx
   rw [e] at this
   simp at this
  ·cases h
 ·rintro ⟨h1,h2,h3⟩
  refine ⟨t.rain,m4.2 h1,?_⟩
  obtain ⟨rain,fl⟩:=t
  simp only at h1 h2 h3 ⊢
  simp only [jQ,←h2]
  rw [if_pos]
  rw [List.all_eq_true]
  intro x hx
  have:=h3 x hx
  cases x with
  |nil=>exact absurd rfl this
  |cons a b=>rfl
theorem B5 {v:Farm} (hv:Vd v) (but:List Int):(aR v but).length≤2187:=Nat.le_trans (List.length_filterMap_le _ _) (zV hv)
structure TOk (v:Farm) (t:Truth):Prop where
 rain:RainOk v t.rain
 len:t.fl.length=v.plots.length
 fl:∀ p,p<v.plots.length→hO t p≠[]∧(hO t p).length≤7∧∀ d∈hO t p,0≤d∧d<v.rain.length
theorem rF {v:Farm} (hv:Vd v) {p:Nat} (hp:p<v.plots.length) (rain but:List Int):(bH v p rain but).length≤7∧∀ d∈bH v p rain but,0≤d∧d<v.rain.length:=by
 have h1:=(EY hv hp).1
 have h2:=hv.nra
 rw [bH,qP hp]
 refine ⟨Nat.le_trans (List.length_filter_le _ _) (by rw [CV];omega),fun d hd=>?_⟩
 have:=lW.1 (List.mem_filter.1 hd).1
 omega
theorem y4 {v:Farm} (hv:Vd v) {but:List Int} {t:Truth} (h:t∈aR v but):TOk v t:=by
 obtain ⟨h1,h2,h3⟩:=wA.1 h
 refine ⟨h1,by rw [h2];simp,fun p hp=>?_⟩
 have e:hO t p=bH v p t.rain but:=by simp [hO,h2,hp]
 rw [e]
 refine ⟨h3 _ (by rw [h2];exact List.mem_map.2 ⟨p,by simpa using hp,rfl⟩),rF hv hp _ _⟩
end Go.Am.Room.Fa
set_option maxRecDepth 4000
namespace Go.Am.Room.Fa
def a8:=And.intro @cC (And.intro @aK (And.intro @cE (And.intro @encLook_eq (And.intro @aC (And.intro @cS (And.intro @S_mapLook (@cT)))))))
def enc3 (x:Int×Int×Int):AV:=.tuple [.int .i64 x.1,.int .i64 x.2.1,.int .i64 x.2.2]
theorem BA (v:Farm):cN T 68 [encFarm v] (.int .i64 (fM v)):=by
 refine aQ (af:=a68) rfl (by simp [a68]) dd ?_
 (repeat (first|simp only [↓QA,QB,seval,a8,a68,fM]|refine rd0 rfl ?_))
theorem vS {k:Nat} {ns:List ByteArray} {s:ByteArray} {b:ABlk} {ex:Bool} {τ:St} (hk:ns.length=k) (hn:k<16):cZ 1 16 (b::.tok 1 k ex::τ) (.lit (ns.map .str) false (some 1)) (.lit [.str s] true none)=some (.lit ((ns++[s]).map .str) false (some 1),b::.tok 1 (k+1) true::τ):=by
 rw [uP (ex:=ex) ⟨qB 1 _ ns (fun x=>TA _),by simp [aU,AV.cells,AV.cell],by simp [room,hk];omega,by simp [room,hk];omega⟩ (by simp) (by simp [hk])]
 simp [hk]
theorem zA {v:Farm} {k:Nat} (h:k<v.plots.length):(v.plots.take (k+1)).map Plot.name=(v.plots.take k).map Plot.name++[v.plots[k].name]:=by
 rw [List.take_succ_eq_append_getElem h,List.map_append];rfl
theorem refcheck_ok (v:Farm) (h:Fits v):cN T 10 [encFarm v] (enc3 (check v)):=by
 refine aQ (af:=a10) rfl (by simp [a10]) dd ?_
 have hfr:=h.rain
 have hfp:=h.plots
 have hfl:=h.looks
 (repeat (first|simp only [↓QA,QB,seval,a8,a10]|refine rd0 rfl ?_))
 ((first|refine aE (eG v.rain.length 1 7) rfl dd ?_|refine aG (eG v.rain.length 1 7) rfl dd ?_);(repeat (first|simp only [↓QA,QB,seval,a8]|refine rd0 rfl ?_)))
 cases h1:inR v.rain.length 1 7
 ·(repeat (first|simp only [↓QA,QB,seval,a8]|refine rd0 rfl ?_))
  simp [check,h1,enc3]
 ·have h1':v.rain.length≤7:=by simp [inR] at h1;omega
  have hc:check v=match aL vG v.rain 0 with|some (i,e)=>(1,(i:Int),e)|none=>eK v:=by simp only [check,h1,Bool.true_eq_false,if_false];try rfl
  rw [hc]
  (repeat (first|simp only [↓QA,QB,seval,a8]|refine rd0 rfl ?_))
  refine bU (S:=Nat) 0 (fun k=>k≤v.rain.length∧aL vG (v.rain.drop k) k=aL vG v.rain 0) (fun k=>v.rain.length-k)
   (fun k=>[(1,.ptr 0 0),(5,.int .i64 k)]) (fun _=>[.cells (aB v)]) ⟨Nat.zero_le _,by simp⟩ (by simp [aB,ints]) ?_ fun k hs=>?_
  ·try simp only [aF,QE,seval,a8]
   try simp
  ·obtain ⟨hk,hb⟩:=hs
   (repeat (first|simp only [↓QA,QB,seval,a8,ZT]|refine rd0 rfl ?_))
   refine aJ (fun hd=>?_) fun hd=>?_
   ·have hk1:k<v.rain.length:=by simpa using hd
    rw [c9 hk1] at hb
    have hw:=b7 hk1 hfr
    have hre:vG k v.rain[k]=dV v.rain[k] 0 2:=rfl
    rw [hre] at hb
    (repeat (first|simp only [↓QA,QB,seval,a8,hk1]|refine rd0 rfl ?_))
    ((first|refine aE (nV v.rain[k] 0 2) rfl dd ?_|refine aG (nV v.rain[k] 0 2) rfl dd ?_);(repeat (first|simp only [↓QA,QB,seval,a8,hk1]|refine rd0 rfl ?_)))
    cases hf:(dV v.rain[k] 0 2==0)
    ·have hf':dV v.rain[k] 0 2≠0:=by simpa using hf
     rw [if_neg hf'] at hb
     rw [←hb]
     (repeat (first|simp only [↓QA,QB,seval,a8,hf]|refine rd0 rfl ?_))
     rfl
    ·have hf':dV v.rain[k] 0 2=0:=by simpa using hf
     rw [if_pos hf'] at hb
     (repeat (first|simp only [↓QA,QB,seval,a8,hf,hw]|refine rd0 rfl ?_))
     refine ⟨k+1,⟨by omega,hb⟩,by omega,?_⟩
     try simp only [aF,QE,seval,a8,hw]
     try simp [aT]
   ·have hk1:k=v.rain.length:=by simp at hd;omega
    rw [dK hk1] at hb
    rw [←hb]
    (repeat (first|simp only [↓QA,QB,seval,a8]|refine rd0 rfl ?_))
    ((first|refine aE (nV v.way 0 9) rfl dd ?_|refine aG (nV v.way 0 9) rfl dd ?_);(repeat (first|simp only [↓QA,QB,seval,a8]|refine rd0 rfl ?_)))
    ((first|refine aE (eG v.full 0 30) rfl dd ?_|refine aG (eG v.full 0 30) rfl dd ?_);(repeat (first|simp only [↓QA,QB,seval,a8]|refine rd0 rfl ?_)))
    cases h2:inR v.full 0 30
    ·(repeat (first|simp only [↓QA,QB,seval,a8]|refine rd0 rfl ?_))
     simp [eK,h2,enc3]
    ·(repeat (first|simp only [↓QA,QB,seval,a8]|refine rd0 rfl ?_))
     ((first|refine aE (eG v.ripe 0 30) rfl dd ?_|refine aG (eG v.ripe 0 30) rfl dd ?_);(repeat (first|simp only [↓QA,QB,seval,a8]|refine rd0 rfl ?_)))
     cases h3:inR v.ripe 0 30
     ·(repeat (first|simp only [↓QA,QB,seval,a8]|refine rd0 rfl ?_))
      simp [eK,h3,enc3]
     ·(repeat (first|simp only [↓QA,QB,seval,a8]|refine rd0 rfl ?_))
      cases h4:(dV v.way 0 9==7)
      ·have h4':dV v.way 0 9≠7:=by simpa using h4
       (repeat (first|simp only [↓QA,QB,seval,a8,h4]|refine rd0 rfl ?_))
       cases h5:(dV v.way 0 9==0)
       ·have h5':dV v.way 0 9≠0:=by simpa using h5
        (repeat (first|simp only [↓QA,QB,seval,a8,h5]|refine rd0 rfl ?_))
        simp [eK,h2,h3,h4',h5',enc3]
       ·have h5':dV v.way 0 9=0:=by simpa using h5
        have hc:eK v=gI v:=by simp [eK,h2,h3,h5']
        rw [hc]
        (repeat (first|simp only [↓QA,QB,seval,a8,h5]|refine rd0 rfl ?_))
        cases h6:decide ((4:Int)<(v.plots.length:Int))
        case' true =>
         have h6':4<v.plots.length:=by first|(have:=of_decide_eq_false h6;omega)|(have:=of_decide_eq_true h6;omega)
         (repeat (first|simp only [↓QA,QB,seval,a8]|refine rd0 rfl ?_))
         simp [gI,h6',enc3]
        have h6':¬4<v.plots.length:=by first|(have:=of_decide_eq_false h6;omega)|(have:=of_decide_eq_true h6;omega)
        have hc:gI v=match aL (nL v) v.plots 0 with|some (i,e)=>(3,(i:Int),e)|none=>gD v:=by simp only [gI,h6',if_false];try rfl
        rw [hc]
        have hwe:IntKind.i64.wrap (fM v-1)=fM v-1:=aX ⟨by simp only [fM];omega,by simp only [fM];omega⟩
        (repeat (first|simp only [↓QA,QB,seval,a8]|refine rd0 rfl ?_))
        refine oK 8 1 [] rfl ?_
        refine bU (S:=Nat×Bool) (0,false) (fun s=>s.1≤v.plots.length∧aL (nL v) (v.plots.drop s.1) s.1=aL (nL v) v.plots 0) (fun s=>v.plots.length-s.1)
         (fun s=>[(1,.ptr 0 0),(8,.lit (((v.plots.take s.1).map Plot.name).map .str) false (some 1)),(9,.int .i64 s.1)]) (fun s=>[.cells (aB v),.tok 1 s.1 s.2]) ⟨Nat.zero_le _,by simp⟩ (by simp [aB,ints]) ?_ fun s hs=>?_
        ·try simp only [aF,QE,seval,a8]
         try simp
        ·obtain ⟨k,ex⟩:=s
         obtain ⟨hk,hb⟩:=hs
         simp only at hk hb
         have hlen:((v.plots.take k).map Plot.name).length=k:=by simp [hk]
         (repeat (first|simp only [↓QA,QB,seval,a8,Y3]|refine rd0 rfl ?_))
         refine aJ (fun hd=>?_) fun hd=>?_
         ·have hk1:k<v.plots.length:=by simpa using hd
          rw [c9 hk1] at hb
          have hw:=b7 hk1 hfp
          have hap:=fun (τ:St)=>vS (k:=k) (ns:=(v.plots.take k).map Plot.name) (s:=v.plots[k].name) (b:=.cells (aB v)) (ex:=ex) (τ:=τ) hlen (by omega)
          simp only [aK] at hap
          have hset:nL v k v.plots[k]=if fresh v.plots[k].name ((v.plots.take k).map Plot.name)=0 then GV v v.plots[k] else fresh v.plots[k].name ((v.plots.take k).map Plot.name):=rfl
          have hfre:=BN v.plots[k].name ((v.plots.take k).map Plot.name) (h.names _ (List.getElem_mem hk1)) (by rw [hlen];omega)
          have htn:=zA hk1
          obtain ⟨p,hpe⟩:∃ p,v.plots[k]=p:=⟨_,rfl⟩
          rw [hpe] at hset hap hb htn hfre
          have hset2:GV v p=if dV p.flower 0 (fM v-1)=7∨inR p.hands 1 99=false then 7 else dV p.flower 0 (fM v-1):=rfl
          obtain ⟨F,hF⟩:∃ F,fresh p.name ((v.plots.take k).map Plot.name)=F:=⟨_,rfl⟩
          rw [hF] at hset hfre
          obtain ⟨E,hE⟩:∃ E,dV p.flower 0 (fM v-1)=E:=⟨_,rfl⟩
          have hen:=nV p.flower 0 (fM v-1)
          rw [hE] at hset2 hen
          (repeat (first|simp only [↓QA,QB,seval,a8,hk1,hpe]|refine rd0 rfl ?_))
          ((first|refine NQ (hfre) (by try simp only [QS,QC,seval,a8]) trivial ?_|refine NF (hfre) (by try simp only [QS,QC,seval,a8]) trivial ?_);(repeat (first|simp only [↓QA,QB,seval,a8,hk1,hpe,hap]|refine rd0 rfl ?_)))
          ((first|refine aE (BA v) rfl dd ?_|refine aG (BA v) rfl dd ?_);(repeat (first|simp only [↓QA,QB,seval,a8,hwe]|refine rd0 rfl ?_)))
          ((first|refine aE (hen) rfl dd ?_|refine aG (hen) rfl dd ?_);(repeat (first|simp only [↓QA,QB,seval,a8,hk1,hpe]|refine rd0 rfl ?_)))
          cases hf:(F==0)
          ·have hf':F≠0:=by simpa using hf
           rw [if_neg hf'] at hset
           rw [hset,if_neg hf'] at hb
           rw [←hb]
           (repeat (first|simp only [↓QA,QB,seval,a8,hf]|refine rd0 rfl ?_))
           rfl
          ·have hf':F=0:=by simpa using hf
           rw [if_pos hf',hset2] at hset
           cases h7:(E==7)
           ·have h7':E≠7:=by simpa using h7
            (repeat (first|simp only [↓QA,QB,seval,a8,hf,h7]|refine rd0 rfl ?_))
            ((first|refine aE (eG p.hands 1 99) rfl dd ?_|refine aG (eG p.hands 1 99) rfl dd ?_);(repeat (first|simp only [↓QA,QB,seval,a8,hf,h7]|refine rd0 rfl ?_)))
            cases h8:inR p.hands 1 99
            ·have:nL v k p=7:=by rw [hset,if_pos (.inr h8)]
             rw [this] at hb
             (repeat (first|simp only [↓QA,QB,seval,a8,hf,h7,show ((7:Int)==0)=false from rfl]|refine rd0 rfl ?_))
             rw [←hb]
             rfl
            ·have:nL v k p=E:=by rw [hset,if_neg (by simp [h7',h8])]
             rw [this] at hb
             cases h9:(E==0)
             ·have h9':E≠0:=by simpa using h9
              rw [if_neg h9'] at hb
              (repeat (first|simp only [↓QA,QB,seval,a8,hf,h7,h9]|refine rd0 rfl ?_))
              rw [←hb]
              rfl
             ·have h9':E=0:=by simpa using h9
              rw [if_pos h9'] at hb
              (repeat (first|simp only [↓QA,QB,seval,a8,hf,h7,h9,hw]|refine rd0 rfl ?_))
              refine ⟨(k+1,true),⟨by simp only;omega,hb⟩,by simp only;omega,?_⟩
              try simp only [aF,QE,seval,a8,htn,hw]
              try simp [aT]
           ·have h7':E=7:=by simpa using h7
            have:nL v k p=7:=by rw [hset,if_pos (.inl h7')]
            rw [this] at hb
            (repeat (first|simp only [↓QA,QB,seval,a8,hf,h7,show ((7:Int)==0)=false from rfl]|refine rd0 rfl ?_))
            rw [←hb]
            rfl
         ·have hk1:k=v.plots.length:=by simp at hd;omega
          rw [dK hk1] at hb
          rw [←hb,hk1]
          (repeat (first|simp only [↓QA,QB,seval,a8]|refine rd0 rfl ?_))
          cases h7:decide ((4:Int)<(v.looks.length:Int))
          case' true =>
           have h7':4<v.looks.length:=by first|(have:=of_decide_eq_false h7;omega)|(have:=of_decide_eq_true h7;omega)
           (repeat (first|simp only [↓QA,QB,seval,a8]|refine rd0 rfl ?_))
           simp [gD,h7',enc3]
          have h7':¬4<v.looks.length:=by first|(have:=of_decide_eq_false h7;omega)|(have:=of_decide_eq_true h7;omega)
          have hc:gD v=match aL (qF v) v.looks 0 with|some (i,e)=>(4,(i:Int),e)|none=>(0,0,0):=by simp only [gD,h7',if_false];try rfl
          rw [hc]
          have hwl:IntKind.i64.wrap ((v.plots.length:Int)-1)=(v.plots.length:Int)-1:=aX ⟨by omega,by omega⟩
          (repeat (first|simp only [↓QA,QB,seval,a8]|refine rd0 rfl ?_))
          refine bU (S:=Nat) 0 (fun k=>k≤v.looks.length∧aL (qF v) (v.looks.drop k) k=aL (qF v) v.looks 0) (fun k=>v.looks.length-k)
           (fun k=>[(1,.ptr 0 0),(13,.int .i64 k)]) (fun _=>[.cells (aB v),.tok 1 v.plots.length ex]) ⟨Nat.zero_le _,by simp⟩ (by simp [aB,ints]) ?_ fun m hm=>?_
          ·try simp only [aF,QE,seval,a8]
           try simp
          ·obtain ⟨hm,hbm⟩:=hm
           (repeat (first|simp only [↓QA,QB,seval,a8,ZW]|refine rd0 rfl ?_))
           refine aJ (fun hd3=>?_) fun hd3=>?_
           ·have hm1:m<v.looks.length:=by simpa using hd3
            rw [c9 hm1] at hbm
            have hw3:=b7 hm1 hfl
            obtain ⟨x,hx⟩:∃ x,v.looks[m]=x:=⟨_,rfl⟩
            rw [hx] at hbm
            have hle:qF v m x=if inR x.plot 0 ((v.plots.length:Int)-1)=false then 4 else if inR x.day 0 (fM v)=false∨inR x.points 0 30=false then 7 else 0:=rfl
            rw [hle] at hbm
            (repeat (first|simp only [↓QA,QB,seval,a8,hm1,hx,hwl]|refine rd0 rfl ?_))
            ((first|refine aE (eG x.plot 0 ((v.plots.length:Int)-1)) rfl dd ?_|refine aG (eG x.plot 0 ((v.plots.length:Int)-1)) rfl dd ?_);(repeat (first|simp only [↓QA,QB,seval,a8,hm1,hx]|refine rd0 rfl ?_)))
            cases hi:inR x.plot 0 ((v.plots.length:Int)-1)
            ·rw [hi] at hbm
             (repeat (first|simp only [↓QA,QB,seval,a8,hm1]|refine rd0 rfl ?_))
             rw [←hbm]
             rfl
            ·rw [hi] at hbm
             simp only [Bool.true_eq_false,if_false] at hbm
             (repeat (first|simp only [↓QA,QB,seval,a8,hm1,hx]|refine rd0 rfl ?_))
             ((first|refine aE (BA v) rfl dd ?_|refine aG (BA v) rfl dd ?_);(repeat (first|simp only [↓QA,QB,seval,a8,hm1,hx]|refine rd0 rfl ?_)))
             ((first|refine aE (eG x.day 0 (fM v)) rfl dd ?_|refine aG (eG x.day 0 (fM v)) rfl dd ?_);(repeat (first|simp only [↓QA,QB,seval,a8,hm1,hx]|refine rd0 rfl ?_)))
             cases hi2:inR x.day 0 (fM v)
             ·rw [hi2] at hbm
              (repeat (first|simp only [↓QA,QB,seval,a8,hm1]|refine rd0 rfl ?_))
              rw [←hbm]
              simp [enc3]
             ·rw [hi2] at hbm
              (repeat (first|simp only [↓QA,QB,seval,a8,hm1,hx]|refine rd0 rfl ?_))
              ((first|refine aE (eG x.points 0 30) rfl dd ?_|refine aG (eG x.points 0 30) rfl dd ?_);(repeat (first|simp only [↓QA,QB,seval,a8,hm1,hx]|refine rd0 rfl ?_)))
              cases hi3:inR x.points 0 30
              ·rw [hi3] at hbm
               (repeat (first|simp only [↓QA,QB,seval,a8,hm1]|refine rd0 rfl ?_))
               rw [←hbm]
               simp [enc3]
              ·rw [hi3] at hbm
               (repeat (first|simp only [↓QA,QB,seval,a8,hm1,hw3]|refine rd0 rfl ?_))
               refine ⟨m+1,⟨by omega,by rw [←hbm];rfl⟩,by omega,?_⟩
               try simp only [aF,QE,seval,a8,hw3]
               try simp
           ·have hm1:m=v.looks.length:=by simp at hd3;omega
            rw [dK hm1] at hbm
            rw [←hbm]
            (repeat (first|simp only [↓QA,QB,seval,a8]|refine rd0 rfl ?_))
            rfl
      ·have h4':dV v.way 0 9=7:=by simpa using h4
       (repeat (first|simp only [↓QA,QB,seval,a8,h4]|refine rd0 rfl ?_))
       simp [eK,h4',enc3]
end Go.Am.Room.Fa
namespace Go.Am.Room
theorem bI (m:Nat):∀ (σ a b c:St),EqS m (σ++a) (σ++b) (σ++c)=EqS m a b c
 |[],a,b,c=>rfl
 |x::σ,a,b,c=>by simp only [List.cons_append,EqS,bI m σ a b c,true_or,true_and,and_self]
theorem aDF (a:Nat) (h:a<9223372036854775808):Go.Am.bits .and .i64 (a:Int) 1=((a%2:Nat):Int):=by
 have e1:(BitVec.ofInt 64 (a:Int) &&& BitVec.ofInt 64 1).toNat=a%2:=by
  rw [BitVec.toNat_and]
  have h1:(BitVec.ofInt 64 (a:Int)).toNat=a:=by
   rw [BitVec.toNat_ofInt]
   omega
  have h2:(BitVec.ofInt 64 1).toNat=1:=by decide
  rw [h1,h2,Nat.and_one_is_mod]
 show IntKind.i64.wrap (((BitVec.ofInt 64 (a:Int) &&& BitVec.ofInt 64 1).toNat:Nat):Int)=_
 rw [e1]
 exact aX ⟨by omega,by omega⟩
theorem C2 (a:Nat) (h:a<9223372036854775808):d7 .and (.int .i64 (a:Int)) (.int .i64 1)=some (.int .i64 ((a%2:Nat):Int)):=by
 simp [d7,j5,aDF a h]
theorem JK (a i:Nat) (h:i≤60):d7 .shr (.int .i64 (a:Int)) (.int .i64 (i:Int))=some (.int .i64 ((a/2^i:Nat):Int)):=by
 have hm:Nat.min i 64=i:=Nat.min_eq_left (by omega)
 have h0:¬(i:Int)<0:=by omega
 simp only [d7,h0,if_false,IntKind.bits,Int.toNat_natCast,hm,Option.some.injEq,AV.int.injEq,true_and]
 rw [Int.fdiv_eq_ediv_of_nonneg _ (Int.pow_nonneg (by omega))]
 norm_cast
theorem jU (m:Nat) (σ b c:St):EqS m σ (σ++b) (σ++c)=EqS m [] b c:=by have:=bI m σ [] b c;rwa [List.append_nil] at this
def sW (T:FuncId→Option AFunc) (f:AV) (args:List AV) (σ:St) (v:AV) (σ':St):Prop:=Run T (.callv f args σ) fun o=>o.v=v∧o.σ=σ'
theorem gY {f:AV} {args:List AV} {v:AV} {σ σ':St} {K:AV→St→Prop} (h:sW T f args σ v σ') (k:K v σ'):cK (K:=⟨K⟩) T f args σ:=.mono h fun o ho=>by rw [ho.1,ho.2];exact k
theorem eS {f:AV} {args:List AV} {v:AV} {σ σ':St} {K:AV→St→Prop} (h:sW T f args σ v σ') (k:K v σ'):cD (K:=⟨K⟩) T f args σ:=⟨v,σ',h,k⟩
theorem DF (n:Nat):(List.replicate n [AV.int .i64 0]).flatten=List.replicate n (.int .i64 0):=by
 induction n with
 |zero=>rfl
 |succ n ih=>simp [List.replicate_succ,ih]
theorem CC (l:List Int):(l.map (AV.int .i64)).flatMap AV.cells=l.map (.int .i64):=by
 induction l with
 |nil=>rfl
 |cons x l ih=>simp only [List.map_cons,List.flatMap_cons,ih,AV.cells];rfl
theorem F3 (z v:AV):E0 true z (some (some v))=some (.tuple [v,.bool true]):=rfl
theorem HL (z:AV):E0 true z (some none)=some (.tuple [z,.bool false]):=rfl
theorem xH (k:Nat) (x:ABlk) (hx:aT k x):∀ (A a b c:St) (i:Nat),EqS k (A++a) (A.set i x++b) (A.set i x++c)=EqS k a b c
 |[],a,b,c,i=>by simp
 |y::A,a,b,c,0=>by
  simp only [List.set_cons_zero,List.cons_append,EqS,bI,hx,or_true,true_and,and_self]
 |y::A,a,b,c,i+1=>by
  have:=xH k x hx A a b c i
  simp only [List.set_cons_succ,List.cons_append,EqS,this,true_or,true_and,and_self]
theorem AZ (i:Nat):cA 1 (.yield i)=true:=by simp [cA,AV.cells,AV.cell]
theorem AU (i:Nat):(AV.yield i).cells=[.yield i]:=by simp [AV.cells]
theorem BU {f:AOpd} {g:FuncId} {first cap:List AV} {ps:List Nat} {a b:ACode} {e:Env} {σ:St} {K:KJ} {R:Out→Prop} (hf:f.ev e = .func g first cap)
  (h:Run T (.call g (first++[.yield σ.length]++cap) (σ++[.loop .ready none e ps a b])) R)
  (h1:∀ o,R o→∃ st pend env' ps' a' b',o.σ[σ.length]? = some (.loop st pend env' ps' a' b')∧st≠.busy∧K pend e (o.σ.set σ.length .dead)):rK (K:=⟨K⟩) T (.rangeFunc f ps a b) e σ:=.rangeFunc hf h h1
theorem iG {σ:St} {l:List Int} {a:Int} {ex:Bool} {t:Nat} (hn:l.length<100) (ht:σ[t]? = some (.tok 1 l.length ex)):cZ 1 8 σ (.lit (l.map (.int .i64)) false (some t)) (.lit [.int .i64 a] true none)=some (.lit ((l++[a]).map (.int .i64)) false (some t),σ.set t (.tok 1 (l.length+1) true)):=by
 rw [uP (ex:=ex) ⟨qB 1 _ l (fun x=>FI _ _),by simp [aU,AV.cells,AV.cell],by simp [room];omega,by simp [room];omega⟩ (by simp) (by simpa using ht)]
 simp
theorem t7 {vs:List AV} (h:nM vs) (m:Nat):okVs m vs:=okVs_up _ h.1
theorem NY {v:AV} (h:j4 v) (m:Nat):okV m v:=(t7 (a9 h bF) m).1
end Go.Am.Room
set_option maxRecDepth 4000
namespace Go.Am.Room.Fa
def d5:=And.intro @cC (And.intro @aK (And.intro @cE (And.intro @encLook_eq (And.intro @aC (And.intro @cS (And.intro @S_mapLook (@cT)))))))
theorem UL {l:List Int} {k:Nat} (h:k<l.length):rl l k=l[k]:=by simp [rl,h]
theorem iE (l:List Int) (a d:Nat) (hl:∀ i,0≤rl l i∧rl l i≤2) (hd:d≤l.length) (hd7:l.length≤7):cN T 18 [ints l,.int .i64 a,.int .i64 d] (.int .i64 (pts (rl l) a d)):=by
 refine aQ (af:=a18) rfl (by simp [a18]) dd ?_
 (repeat (first|simp only [↓QA,QB,seval,d5,a18]|refine rd0 rfl ?_))
 by_cases ha:a≤d
 ·refine bU (S:=Nat) a (fun k=>a≤k∧k≤d) (fun k=>d-k) (fun k=>[(0,ints l),(2,.int .i64 d),(7,.int .i64 (pts (rl l) a k)),(8,.int .i64 k)]) (fun _=>[]) ⟨Nat.le_refl _,ha⟩ rfl ?_ fun k hk=>?_
  ·try simp only [aF,QE,seval,d5]
   simp [C5]
  ·obtain ⟨h1,h2⟩:=hk
   (repeat (first|simp only [↓QA,QB,seval,d5,T0]|refine rd0 rfl ?_))
   refine aJ (fun h=>?_) fun h=>?_
   ·have hk1:k<d:=by simpa using h
    have hk2:k<l.length:=by omega
    have hw:=b7 hk1 (by omega)
    have hb:=vP hl a k
    have hs:=xC (rl l) h1
    have he:=UL hk2
    have hr:=hl k
    obtain ⟨P,hP⟩:∃ P,pts (rl l) a k=P:=⟨_,rfl⟩
    obtain ⟨R,hR⟩:∃ R,rl l k=R:=⟨_,rfl⟩
    rw [hP] at hb hs
    rw [hR] at he hs hr
    have w1:IntKind.i64.wrap (P+1)=P+1:=aX ⟨by omega,by omega⟩
    have w2:IntKind.i64.wrap (P+1+R)=P+1+R:=aX ⟨by omega,by omega⟩
    have hs2:pts (rl l) a (k+1)=P+1+R:=by omega
    rw [hP]
    (repeat (first|simp only [↓QA,QB,seval,d5,hk2,←he,w1,w2]|refine rd0 rfl ?_))
    refine ⟨k+1,⟨by omega,by omega⟩,by omega,?_⟩
    try simp only [aF,QE,seval,d5,hw,hs2]
   ·have hk1:k=d:=by simp at h;omega
    subst hk1
    (repeat (first|simp only [↓QA,QB,seval,d5]|refine rd0 rfl ?_))
 ·have hlt:decide ((a:Int)<(d:Int))=false:=by simp;omega
  rw [HO (rl l) (by omega)]
  refine bU (S:=Unit) () (fun _=>True) (fun _=>0) (fun _=>[(0,ints l),(2,.int .i64 d),(7,.int .i64 0),(8,.int .i64 a)]) (fun _=>[]) trivial rfl ?_ fun _ _=>?_
  ·try simp only [aF,QE,seval,d5]
   try simp
  ·(repeat (first|simp only [↓QA,QB,seval,d5,T0,hlt]|refine rd0 rfl ?_))
theorem uW {a b:Int} (h:a≤b):aP a (b+1-a).toNat=a::aP (a+1) (b+1-(a+1)).toNat:=by
 have:(b+1-a).toNat=(b+1-(a+1)).toNat+1:=by omega
 rw [this,aP]
theorem xG {a b:Int} (h:¬a≤b):aP a (b+1-a).toNat=[]:=by
 have:(b+1-a).toNat=0:=by omega
 rw [this,aP]
theorem M9 {rs:List Span}:∀ k,k≤rs.length→∀ c∈dL rs k,c.length=k:=fun k hk c hc=>((mJ hk).1 hc).1
theorem KA (v:Farm) (hv:Vd v):cN T 90 [encFarm v] (gJ (mI v)):=by
 refine aQ (af:=a90) rfl (by simp [a90]) dd ?_
 have hno:=hv.nra
 rw [show mI v=dL v.rain v.rain.length from rfl]
 (repeat (first|simp only [↓QA,QB,seval,d5,a90]|refine rd0 rfl ?_))
 refine bU (S:=Nat) 0 (fun n=>n≤v.rain.length) (fun n=>v.rain.length-n) (fun n=>[(1,.ptr 0 0),(3,gJ (dL v.rain n)),(4,.int .i64 n)]) (fun _=>[.cells (aB v)]) (Nat.zero_le _) (by simp [aB,ints]) ?_ fun n hn=>?_
 ·try simp only [aF,QE,seval,d5]
  simp [gJ,ints,dL,clr,clrs]
 ·(repeat (first|simp only [↓QA,QB,seval,d5,Z6,gJ]|refine rd0 rfl ?_))
  refine aJ (fun h=>?_) fun h=>?_
  ·have hn1:n<v.rain.length:=by simpa using h
   have hwn:IntKind.i64.wrap ((n:Int)+1)=((n+1:Nat):Int):=b7 hn1 (by omega)
   have hwl:∀ j,j≤7→(dL v.rain j).length≤2187:=fun j hj=>Nat.le_trans (qA hv.ra j) (Nat.le_trans (Nat.pow_le_pow_right (by omega) hj) (by decide))
   have hsl:=hwl n (by omega)
   have hsl2:=hwl (n+1) (by omega)
   have hin:=M9 (rs:=v.rain) n hn
   have hsu:=lD hn1
   have hra:=hv.ra _ (List.getElem_mem hn1)
   obtain ⟨s,hs⟩:∃ s,v.rain[n]=s:=⟨_,rfl⟩
   rw [hs] at hsu hra
   rw [hsu] at hsl2
   obtain ⟨W,hW⟩:∃ W,dL v.rain n=W:=⟨_,rfl⟩
   rw [hW] at hsl hsl2 hsu hin
   rw [hW]
   obtain ⟨X,hX⟩:∃ X,W.flatMap (ext s)=X:=⟨_,rfl⟩
   rw [hX] at hsl2 hsu
   (repeat (first|simp only [↓QA,QB,seval,d5]|refine rd0 rfl ?_))
   refine oK 5 1 [] rfl ?_
   refine bU (S:=Nat×List (List Int)×Bool) (0,[],false) (fun a=>a.1≤W.length∧a.2.1++(W.drop a.1).flatMap (ext s)=X) (fun a=>W.length-a.1)
    (fun a=>[(1,.ptr 0 0),(3,gJ W),(4,.int .i64 n),(5,.lit (a.2.1.map ints) false (some 1)),(6,.int .i64 a.1)])
    (fun a=>[.cells (aB v),.tok 1 a.2.1.length a.2.2]) ⟨Nat.zero_le _,by simpa using hX⟩ (by simp [aB,ints]) ?_ fun a ha=>?_
   ·try simp only [aF,QE,seval,d5,gJ,ints]
    try simp
   ·obtain ⟨k,acc,ex⟩:=a
    obtain ⟨hk,hacc⟩:=ha
    simp only at hk hacc
    (repeat (first|simp only [↓QA,QB,seval,d5,Y8,gJ]|refine rd0 rfl ?_))
    refine aJ (fun h2=>?_) fun h2=>?_
    ·have hk1:k<W.length:=by simpa using h2
     have hwk:=b7 hk1 (by omega)
     obtain ⟨c,hc⟩:∃ c,W[k]=c:=⟨_,rfl⟩
     have hcl:=hin _ (List.getElem_mem hk1)
     rw [hc] at hcl
     rw [List.drop_eq_getElem_cons hk1,hc,List.flatMap_cons,ext,nD] at hacc
     (repeat (first|simp only [↓QA,QB,seval,d5,hn1,hs]|refine rd0 rfl ?_))
     have hlo:=hra.1
     have hhi:=hra.2.2
     refine bU (S:=Int×List (List Int)×Bool×St) (s.lo,acc,ex,[]) (fun a=>s.lo≤a.1∧a.1≤s.hi+1∧a.2.1++((aP a.1 (s.hi+1-a.1).toNat).map (fun n=>c++[n])++(W.drop (k+1)).flatMap (ext s))=X) (fun a=>(s.hi+1-a.1).toNat)
      (fun a=>[(1,.ptr 0 0),(3,gJ W),(4,.int .i64 n),(5,.lit (a.2.1.map ints) false (some 1)),(6,.int .i64 k),(7,.int .i64 a.1)])
      (fun a=>.cells (aB v)::.tok 1 a.2.1.length a.2.2.1::a.2.2.2) ⟨Int.le_refl _,by omega,by simpa using hacc⟩ (by simp [aB]) ?_ fun a ha=>?_
     ·try simp only [aF,QE,seval,d5,gJ,ints]
      try simp
     ·obtain ⟨m,acc,ex,τ⟩:=a
      obtain ⟨hm0,hm1,hacc⟩:=ha
      simp only at hm0 hm1 hacc
      (repeat (first|simp only [↓QA,QB,seval,d5,Z2,gJ,hn1,hs]|refine rd0 rfl ?_))
      refine aJ (fun h3=>?_) fun h3=>?_
      ·have hm2:m≤s.hi:=by simpa using h3
       have hwm:IntKind.i64.wrap (m+1)=m+1:=aX ⟨by omega,by omega⟩
       rw [uW hm2] at hacc
       have hal:acc.length≤2187:=by
        have:=congrArg List.length hacc
        simp only [List.length_append] at this
        omega
       have a0:∀ (σ:St),cZ 1 8 σ (.lit [] true none) (.lit (c.map (.int .i64)) false none)=some ((u6 1 σ (c.map (.int .i64))).1,(u6 1 σ (c.map (.int .i64))).2):=fun σ=>NK ⟨rfl,xP c,by simp [room];omega,by simp [room];omega⟩
       have a1:∀ (σ:St),cZ 1 8 (u6 1 σ (c.map (.int .i64))).2 (u6 1 σ (c.map (.int .i64))).1 (.lit [.int .i64 m] true none)=some (.lit (c.map (.int .i64)++[.int .i64 m]) false (some σ.length),σ++[.tok 1 (c.length+1) true]):=fun σ=>by
        rw [E7 ⟨xP c,by simp [aU,AV.cells,AV.cell],by simp [room];omega,by simp [room];omega⟩ (by simp)]
        simp
       have a2:=fun (b0:ABlk) (τ:St) (t:Nat)=>FZ (σ:=b0::.tok 1 acc.length ex::τ) (t:=1) (ex:=ex) (sz:=1) (b:=24) (xs:=acc.map ints) (ys:=[.lit (c.map (.int .i64)++[.int .i64 m]) false (some t)]) (f:=true) (tk:=none) ⟨vD acc,by simp [aU,AV.cells,AV.cell],by simp [room];omega,by simp [room];omega⟩ (by simp) acc.length (by simp) rfl
       (repeat (first|simp only [↓QA,QB,seval,d5,hk1,hc,ints,a0,a1,a2,hwm]|refine rd0 rfl ?_))
       refine ⟨(m+1,acc++[c++[m]],true,τ),⟨by simp only;omega,by simp only;omega,by rw [←hacc];simp⟩,by simp only;omega,?_⟩
       try simp only [aF,QE,seval,d5,hwm,gJ,ints,List.map_append,List.map_cons,List.map_nil]
       try simp [aT]
      ·have hm2:¬m≤s.hi:=by simpa using h3
       rw [xG hm2] at hacc
       simp only [List.map_nil,List.nil_append] at hacc
       (repeat (first|simp only [↓QA,QB,seval,d5,hwk]|refine rd0 rfl ?_))
       refine ⟨(k+1,acc,ex),⟨by simp only;omega,hacc⟩,by simp only;omega,?_⟩
       try simp only [aF,QE,seval,d5,hwk,gJ,ints]
       try simp [aT]
    ·have hk1:k=W.length:=by simp at h2;omega
     rw [hk1,List.drop_length] at hacc
     simp only [List.flatMap_nil,List.append_nil] at hacc
     subst hacc
     (repeat (first|simp only [↓QA,QB,seval,d5,hwn]|refine rd0 rfl ?_))
     refine ⟨n+1,by omega,by omega,?_⟩
     try simp only [aF,QE,seval,d5,hwn,hsu,gJ,ints]
     try simp [aT]
  ·have hn1:n=v.rain.length:=by simp at h;omega
   subst hn1
   (repeat (first|simp only [↓QA,QB,seval,d5,gJ]|refine rd0 rfl ?_))
   try try simp only [QS,QC,seval,d5]
end Go.Am.Room.Fa
set_option maxRecDepth 4000
namespace Go.Am.Room.Fa
def dZ:=And.intro @cC (And.intro @aK (And.intro @cE (And.intro @encLook_eq (And.intro @aC (And.intro @cS (And.intro @S_mapLook (@cT)))))))
def jJ (v:Farm) (plot:Int) (rain but:List Int) (d:Int) (n:Nat):Bool:=(List.range n).all fun k=>match v.looks[k]? with|some x=>qC plot but rain d k x|none=>true
theorem sU {v:Farm} {k:Nat} (hk:k<v.looks.length) (plot:Int) (rain but:List Int) (d:Int):jJ v plot rain but d (k+1)=(jJ v plot rain but d k&&qC plot but rain d k v.looks[k]):=by
 simp [jJ,List.range_succ,List.all_append,hk]
theorem KN (v:Farm) (hv:Vd v) (p:Nat) (hp:p<v.plots.length) (rain but:List Int) (hr:∀ i,0≤rl rain i∧rl rain i≤2) (hrl:rain.length=v.rain.length) (hbu:but.length<9223372036854775808) :
    cN T 91 [encFarm v,.int .i64 p,ints rain,ints but] (ints (bH v p rain but)):=by
  refine aQ (af:=a91) rfl (by simp [a91]) dd ?_
  have hno:=hv.nra
  have hnl:=hv.nlk
  have hpl:=(EY hv hp).1
  obtain ⟨R,hR⟩:∃ R,bH v p rain but=R:=⟨_,rfl⟩
  have hR':=hR
  have hRl:=(rF hv hp rain but).1
  rw [hR] at hRl ⊢
  rw [bH,nD,qP hp] at hR'
  obtain ⟨y,hy⟩:∃ y,v.plots[p]=y:=⟨_,rfl⟩
  rw [hy] at hpl hR'
  obtain ⟨L,hL⟩:∃ L:Nat,y.flower.lo=(L:Int):=⟨y.flower.lo.toNat,by omega⟩
  obtain ⟨H,hH⟩:∃ H:Nat,y.flower.hi=(H:Int):=⟨y.flower.hi.toNat,by omega⟩
  rw [hL,hH] at hR' hpl
  (repeat (first|simp only [↓QA,QB,seval,dZ,a91,hp,hy,hL]|refine rd0 rfl ?_))
  refine oK 9 1 [] rfl ?_
  refine bU (S:=Nat×List Int×Bool) (L,[],false) (fun a=>L≤a.1∧a.1≤H+1∧a.2.1++(aP (a.1:Int) ((H:Int)+1-a.1).toNat).filter (j8 v p rain but)=R) (fun a=>H+1-a.1)
    (fun a=>[(1,.int .i64 p),(2,ints rain),(3,ints but),(4,.ptr 0 0),(9,.lit (a.2.1.map (.int .i64)) false (some 1)),(10,.int .i64 a.1)])
    (fun a=>[.cells (aB v),.tok 1 a.2.1.length a.2.2]) ⟨Nat.le_refl _,by simp only;omega,by simpa using hR'⟩ (by simp [aB,ints]) ?_ fun a ha=>?_
  · try simp only [aF,QE,seval,dZ,ints]
    try simp
  · obtain ⟨d,acc,ex⟩:=a
    obtain ⟨hd0,hd1,hacc⟩:=ha
    simp only at hd0 hd1 hacc
    (repeat (first|simp only [↓QA,QB,seval,dZ,ZC,hp,hy,hH]|refine rd0 rfl ?_))
    refine aJ (fun h=>?_) fun h=>?_
    · have hd2 : d ≤ H := by have h0 : (d : Int) ≤ (H : Int) := by simpa using h
                             omega
      have hw:=b7 (show d<H+1 by omega) (by omega)
      rw [uW (show (d:Int)≤(H:Int) by omega),List.filter_cons,show (d:Int)+1=((d+1:Nat):Int) by omega] at hacc
      have hal:acc.length≤7:=by
        have:=congrArg List.length hacc
        simp only [List.length_append] at this
        omega
      (repeat (first|simp only [↓QA,QB,seval,dZ]|refine rd0 rfl ?_))
      refine bU (S:=Nat) 0 (fun k=>k≤v.looks.length) (fun k=>v.looks.length-k)
        (fun k=>[(1,.int .i64 p),(2,ints rain),(3,ints but),(4,.ptr 0 0),(9,.lit (acc.map (.int .i64)) false (some 1)),(10,.int .i64 d),(11,.bool (jJ v p rain but d k)),(12,.int .i64 k)])
        (fun k=>[.cells (aB v),.tok 1 acc.length ex]) (Nat.zero_le _) (by simp [aB,ints]) ?_ fun k hk=>?_
      · try simp only [aF,QE,seval,dZ,ints]
        try simp [jJ]
      · (repeat (first|simp only [↓QA,QB,seval,dZ,aAB]|refine rd0 rfl ?_))
        refine aJ (fun h2=>?_) fun h2=>?_
        · have hk1:k<v.looks.length:=by simpa using h2
          have hwk:=b7 hk1 (by omega)
          have hsu:=sU hk1 p rain but d
          have hlx:=hv.lk _ (List.getElem_mem hk1)
          obtain ⟨x,hx⟩:∃ x,v.looks[k]=x:=⟨_,rfl⟩
          rw [hx] at hsu hlx
          simp only [qC] at hsu
          have hxl:decide (x.plot=(p:Int))=(x.plot==(p:Int)):=by rw [Bool.eq_iff_iff];simp
          rw [hxl] at hsu
          obtain ⟨D,hD⟩:∃ D:Nat,x.day=(D:Int):=⟨x.day.toNat,by omega⟩
          have hpt:=iE rain d D hr (by omega) (by omega)
          have hpe:yJ rain d x.day=pts (rl rain) d D:=by rw [yJ,hD,Int.toNat_natCast,Int.toNat_natCast]
          rw [hpe] at hsu
          obtain ⟨q,hq⟩:∃ q,jJ v p rain but d k=q:=⟨_,rfl⟩
          rw [hq] at hsu
          rw [hq]
          (repeat (first|simp only [↓QA,QB,seval,dZ,hk1,hx]|refine rd0 rfl ?_))
          cases hl:(x.plot==(p:Int))
          · rw [hl] at hsu
            simp only [Bool.not_false,Bool.true_or,Bool.and_true] at hsu
            (repeat (first|simp only [↓QA,QB,seval,dZ,hl,hwk]|refine rd0 rfl ?_))
            refine ⟨k+1,by omega,by omega,?_⟩
            try simp only [aF,QE,seval,dZ,hwk,hsu,ints]
            try simp [aT]
          · rw [hl] at hsu
            simp only [Bool.not_true,Bool.false_or] at hsu
            (repeat (first|simp only [↓QA,QB,seval,dZ,hl]|refine rd0 rfl ?_))
            ((first|refine aE (T7 but (k:Int) hbu) rfl dd ?_|refine aG (T7 but (k:Int) hbu) rfl dd ?_);(repeat (first|simp only [↓QA,QB,seval,dZ]|refine rd0 rfl ?_)))
            cases hb:but.contains (k:Int)
            · rw [hb,Bool.false_or] at hsu
              (repeat (first|simp only [↓QA,QB,seval,dZ]|refine rd0 rfl ?_))
              cases q
              · rw [Bool.false_and] at hsu
                (repeat (first|simp only [↓QA,QB,seval,dZ,hwk]|refine rd0 rfl ?_))
                refine ⟨k+1,by omega,by omega,?_⟩
                try simp only [aF,QE,seval,dZ,hwk,hsu,ints]
                try simp [aT]
              · rw [Bool.true_and] at hsu
                (repeat (first|simp only [↓QA,QB,seval,dZ,hk1,hx,hD]|refine rd0 rfl ?_))
                ((first|refine aE (hpt) rfl dd ?_|refine aG (hpt) rfl dd ?_);(repeat (first|simp only [↓QA,QB,seval,dZ,hk1,hx,hwk,hD]|refine rd0 rfl ?_)))
                refine ⟨k+1,by omega,by omega,?_⟩
                try simp only [aF,QE,seval,dZ,hwk,hsu,ints]
                try simp [aT]
            · rw [hb,Bool.true_or,Bool.and_true] at hsu
              (repeat (first|simp only [↓QA,QB,seval,dZ,hwk]|refine rd0 rfl ?_))
              refine ⟨k+1,by omega,by omega,?_⟩
              try simp only [aF,QE,seval,dZ,hwk,hsu,ints]
              try simp [aT]
        · have hk1:k=v.looks.length:=by simp at h2;omega
          subst hk1
          have hto:jJ v p rain but d v.looks.length=j8 v p rain but d:=rfl
          rw [hto]
          cases hc:j8 v p rain but d
          · rw [hc] at hacc
            simp only [Bool.false_eq_true,if_false] at hacc
            (repeat (first|simp only [↓QA,QB,seval,dZ,hw]|refine rd0 rfl ?_))
            refine ⟨(d+1,acc,ex),⟨by simp only;omega,by simp only;omega,hacc⟩,by simp only;omega,?_⟩
            try simp only [aF,QE,seval,dZ,hw,ints]
            try simp [aT]
          · rw [hc] at hacc
            simp only [if_true] at hacc
            have hap:=fun (b0:ABlk) (τ:St)=>iG (σ:=b0::.tok 1 acc.length ex::τ) (l:=acc) (a:=(d:Int)) (ex:=ex) (t:=1) (by omega) rfl
            (repeat (first|simp only [↓QA,QB,seval,dZ,hw,hap]|refine rd0 rfl ?_))
            refine ⟨(d+1,acc++[(d:Int)],true),⟨by simp only;omega,by simp only;omega,by rw [←hacc];simp⟩,by simp only;omega,?_⟩
            try simp only [aF,QE,seval,dZ,hw,gL,ints,List.map_append,List.map_cons,List.map_nil]
            try simp [aT]
    · have hd2:d=H+1:=by
        have h0:¬(d:Int)≤(H:Int):=by simpa using h
        omega
      rw [xG (show ¬(d:Int)≤(H:Int) by omega)] at hacc
      simp only [List.filter_nil,List.append_nil] at hacc
      subst hacc
      (repeat (first|simp only [↓QA,QB,seval,dZ,ints]|refine rd0 rfl ?_))
      try try simp only [QS,QC,seval,dZ]
end Go.Am.Room.Fa
set_option maxRecDepth 4000
namespace Go.Am.Room.Fa
def fA:=And.intro @cC (And.intro @aK (And.intro @cE (And.intro @encLook_eq (And.intro @aC (And.intro @cS (And.intro @S_mapLook (And.intro @cT (And.intro @bI (And.intro @jU (@R9))))))))))
def sV (v:Farm) (rain but:List Int) (k:Nat):List (List Int):=(List.range k).map fun (p:Nat)=>bH v p rain but
def pJ (v:Farm) (rain but:List Int) (k:Nat):Bool:=(sV v rain but k).all fun x=>!x.isEmpty
theorem FA (v:Farm) (rain but:List Int) (k:Nat):sV v rain but (k+1)=sV v rain but k++[bH v k rain but]:=by simp [sV,List.range_succ]
theorem DT (v:Farm) (rain but:List Int) (k:Nat):pJ v rain but (k+1)=(pJ v rain but k&&!(bH v k rain but).isEmpty):=by simp [pJ,FA,List.all_append]
theorem RQ {v:Farm} {rain but:List Int} {k:Nat} (h:pJ v rain but k=false):∀ j,k≤j→pJ v rain but j=false:=by
  intro j hj
  induction j with
  | zero => have : k = 0 := by omega
            subst this;exact h
  |succ j ih =>
    by_cases hk:k=j+1
    · subst hk;exact h
    · rw [DT,ih (by omega),Bool.false_and]
theorem vQ (v:Farm) (but rain:List Int):jQ v but rain=if pJ v rain but v.plots.length=true then some ⟨rain,sV v rain but v.plots.length⟩ else none:=rfl
theorem PU (v:Farm) (hv:Vd v) (but:List Int) (hbu:but.length<9223372036854775808) (W:List (List Int)) (bl:List Int) (hbl:bl.length=v.rain.length) (hr:∀ i,0≤rl bl i∧rl bl i≤2) (k:Nat) (hk:k<W.length) (hkb:W[k]=bl) (acc:List Truth) (ex:Bool) (e:Env) (K:KJ)
  (e1:Env.get e 1=ints but) (e2:Env.get e 2 = .ptr 0 0) (e5:Env.get e 5=gJ W) (e6:Env.get e 6 = .lit (acc.map fH) false (some 1)) (e7:Env.get e 7 = .int .i64 k) (e8:Env.get e 8 = .ptr 2 0) (e9:Env.get e 9 = .bool true) (e10:Env.get e 10 = .int .i64 0)
  (hK:∀ e' xs f tk τ,(∀ t,tk=some t→2<t)→(pJ v bl but v.plots.length=true→xs=(sV v bl but v.plots.length).map ints)→Env.get e' 1=ints but→Env.get e' 2 = .ptr 0 0→Env.get e' 5=gJ W→Env.get e' 6 = .lit (acc.map fH) false (some 1)→Env.get e' 7 = .int .i64 k→Env.get e' 8 = .ptr 2 0→Env.get e' 9 = .bool (pJ v bl but v.plots.length) →
   K (some (.exit 2)) e' (.cells (aB v)::.tok 2 acc.length ex::.cells [.lit (bl.map (.int .i64)) false none,.lit xs f tk]::τ)) :
  rK (K:=⟨K⟩) T (.loop J3) e [.cells (aB v),.tok 2 acc.length ex,.cells [.lit (bl.map (.int .i64)) false none,.lit [] true none]]:=by
 have hno:=hv.npl
 refine bU (S:=Nat×Bool×Option Nat×St) (0,true,none,[]) (fun a=>a.1≤v.plots.length∧∀ t,a.2.2.1=some t→2<t∧t<3+a.2.2.2.length) (fun a=>v.plots.length-a.1)
  (fun a=>[(1,ints but),(2,.ptr 0 0),(5,gJ W),(6,.lit (acc.map fH) false (some 1)),(7,.int .i64 k),(8,.ptr 2 0),(9,.bool (pJ v bl but a.1)),(10,.int .i64 a.1)])
  (fun a=>.cells (aB v)::.tok 2 acc.length ex::.cells [.lit (bl.map (.int .i64)) false none,.lit ((sV v bl but a.1).map ints) a.2.1 a.2.2.1]::a.2.2.2) ⟨Nat.zero_le _,fun t h=>by cases h⟩ rfl ?_ fun a ha=>?_
 ·try simp only [aF,QE,seval,fA,e1,e2,e5,e6,e7,e8,e9,e10]
  try simp [pJ,sV]
 ·obtain ⟨h,f,tk,τ⟩:=a
  obtain ⟨hh,htk⟩:=ha
  simp only at hh htk
  by_cases hh1:h<v.plots.length
  ·have g:decide ((h:Int)<(v.plots.length:Int))=true:=by simp;omega
   have hw:=b7 hh1 (by omega)
   have hsucc:=FA v bl but h
   have hall:=DT v bl but h
   cases hc:pJ v bl but h
   ·have hfull:=RQ hc v.plots.length hh
    (repeat (first|simp only [↓QA,QB,seval,fA,J3,g]|refine rd0 rfl ?_))
    have hk0:=hK
    rw [aK,hfull] at hk0
    refine hk0 _ _ f tk τ (fun t ht=>(htk t ht).1) (fun h=>by cases h) ?_ ?_ ?_ ?_ ?_ ?_ ?_
    all_goals try simp only [aF,QE,seval,fA]
   ·rw [hc,Bool.true_and] at hall
    have hll:=(rF hv hh1 bl but).1
    have hst:=KN v hv h hh1 bl but hr hbl hbu
    obtain ⟨l,hl⟩:∃ l,bH v h bl but=l:=⟨_,rfl⟩
    rw [hl] at hst hsucc hall hll
    have hlenp:decide ((0:Int)<(l.length:Int)) = !l.isEmpty:=by cases l<;>simp
    obtain ⟨xs,hxs⟩:∃ xs,(sV v bl but h).map ints=xs:=⟨_,rfl⟩
    have hxl:xs.length≤4:=by rw [←hxs];simp [sV];omega
    have hxa:aU 1 xs=true:=by rw [←hxs];exact vD _
    have a0:∀ (σ:St),cZ 1 24 σ (.lit [] true none) (.lit xs f tk)=some ((u6 1 σ xs).1,(u6 1 σ xs).2):=fun σ=>NK ⟨rfl,hxa,by simp [room];omega,by simp [room];omega⟩
    have a1:∀ (σ:St),cZ 1 24 (u6 1 σ xs).2 (u6 1 σ xs).1 (.lit [.lit (l.map (.int .i64)) false none] true none)=some (.lit (xs++[.lit (l.map (.int .i64)) false none]) false (some σ.length),σ++[.tok 1 (xs.length+1) true]):=fun σ=>by
     rw [E7 ⟨hxa,by simp [aU,AV.cells,AV.cell],by simp [room];omega,by simp [room];omega⟩ (by simp)]
     simp
    simp only [hxs]
    (repeat (first|simp only [↓QA,QB,seval,fA,J3,g,hk,hkb,gJ,ints]|refine rd0 rfl ?_))
    ((first|refine aE (hst) rfl dd ?_|refine aG (hst) rfl dd ?_);(repeat (first|simp only [↓QA,QB,seval,fA,hlenp,a0,a1,hk,hkb,gJ,ints]|refine rd0 rfl ?_)))
    refine ⟨(h+1,false,some (τ.length+1+1+1),τ++[.tok 1 (xs.length+1) true]),⟨by simp only;omega,fun t ht=>by simp only [Option.some.injEq] at ht;subst ht;simp only [List.length_append,List.length_cons,List.length_nil];omega⟩,by simp only;omega,?_⟩
    rw [hsucc,hall,List.map_append,hxs]
    try simp only [aF,QE,seval,fA,hw,List.map_append,List.map_cons,List.map_nil,List.length_append,gJ,ints]
    try simp [aT,okVs,okV]
    exact ⟨t7 (bZ (bT .i64) bl) _,s9 (t7 (by rw [←hxs];exact bZ jT _) _) (t7 (a9 (jT l) bF) _)⟩
  ·have g:decide ((h:Int)<(v.plots.length:Int))=false:=by simp;omega
   obtain rfl:h=v.plots.length:=by omega
   (repeat (first|simp only [↓QA,QB,seval,fA,J3,g]|refine rd0 rfl ?_))
   have hk0:=hK
   rw [aK] at hk0
   refine hk0 _ _ f tk τ (fun t ht=>(htk t ht).1) (fun _=>rfl) ?_ ?_ ?_ ?_ ?_ ?_ ?_
   all_goals try simp only [aF,QE,seval,fA]
theorem AO (l:List Truth):aU 2 (l.map fH)=true:=qB 2 fH l fun x=>by simp [cA,fH,AV.cells,AV.cell,ints,gJ]
theorem ML (v:Farm) (hv:Vd v) (but:List Int) (hbu:but.length<9223372036854775808):cN T 14 [encFarm v,ints but] (qQ (aR v but)):=by
 refine aQ (af:=a14) rfl (by simp [a14]) dd ?_
 have hwl:=zV hv
 have hwm:=fun c=>(m4 (v:=v) (c:=c)).1
 obtain ⟨R,hR⟩:∃ R,aR v but=R:=⟨_,rfl⟩
 have hRl:=B5 hv but
 have hR':[]++((mI v).drop 0).filterMap (jQ v but)=R:=hR
 rw [hR] at hRl ⊢
 have hrw:=KA v hv
 obtain ⟨W,hW⟩:∃ W,mI v=W:=⟨_,rfl⟩
 rw [hW] at hwl hR' hrw
 simp only [hW] at hwm
 (repeat (first|simp only [↓QA,QB,seval,fA,a14]|refine rd0 rfl ?_))
 ((first|refine aE (hrw) rfl dd ?_|refine aG (hrw) rfl dd ?_);(repeat (first|simp only [↓QA,QB,seval,fA]|refine rd0 rfl ?_)))
 refine oK 6 2 [] rfl ?_
 refine bU (S:=Nat×List Truth×Bool) (0,[],false) (fun a=>a.1≤W.length∧a.2.1++(W.drop a.1).filterMap (jQ v but)=R) (fun a=>W.length-a.1)
  (fun a=>[(1,ints but),(2,.ptr 0 0),(5,gJ W),(6,.lit (a.2.1.map fH) false (some 1)),(7,.int .i64 a.1)])
  (fun a=>[.cells (aB v),.tok 2 a.2.1.length a.2.2]) ⟨Nat.zero_le _,hR'⟩ (by simp [aB,ints]) ?_ fun a ha=>?_
 ·try simp only [aF,QE,seval,fA]
  try simp
 ·obtain ⟨k,acc,ex⟩:=a
  obtain ⟨hk,hacc⟩:=ha
  simp only at hk hacc
  (repeat (first|simp only [↓QA,QB,seval,fA,Y4,gJ]|refine rd0 rfl ?_))
  refine aJ (fun hd=>?_) fun hd=>?_
  ·have hk1:k<W.length:=by simpa using hd
   have hw:=b7 hk1 (by omega)
   have hro:=hwm _ (List.getElem_mem hk1)
   obtain ⟨bl,hbl⟩:∃ bl,W[k]=bl:=⟨_,rfl⟩
   rw [hbl] at hro
   rw [List.drop_eq_getElem_cons hk1,hbl,List.filterMap_cons] at hacc
   have hal:acc.length≤2187:=by
    have:=congrArg List.length hacc
    simp only [List.length_append] at this
    omega
   have hin:=PU v hv but hbu W bl hro.len (nY hv hro) k hk1 hbl acc ex
   rw [aK] at hin
   have hap:=fun (y:AV) (hy:aU 2 [y]=true) (τ:St)=>FZ (σ:=.cells (aB v)::.tok 2 acc.length ex::τ) (t:=1) (ex:=ex) (sz:=2) (b:=48) (xs:=acc.map fH) (ys:=[y]) (f:=true) (tk:=none) ⟨AO acc,hy,by simp [room];omega,by simp [room];omega⟩ (by simp) acc.length (by simp) rfl
   rw [aK] at hap
   have hap2:=fun (l:List AV) (f:Bool) (tk:Option Nat)=>hap (.agg [.lit (bl.map (.int .i64)) false none,.lit l f tk]) rfl
   (repeat (first|simp only [↓QA,QB,seval,fA,hk1,hbl,ints,gJ]|refine rd0 rfl ?_))
   refine hin _ _ ?_ ?_ ?_ ?_ ?_ ?_ ?_ ?_ ?_
   all_goals try try simp only [aF,QE,seval,fA,gJ,ints]
   intro e' xs f tk τ htk hxs q1 q2 q5 q6 q7 q8 q9
   cases hall:pJ v bl but v.plots.length
   ·rw [vQ,hall] at hacc
    rw [hall] at q9
    (repeat (first|simp only [↓QA,QB,seval,fA,q1,q2,q5,q6,q7,q8,q9,ints,gJ]|refine rd0 rfl ?_))
    refine ⟨(k+1,acc,ex),⟨by simp only;omega,by simpa using hacc⟩,by simp only;omega,?_⟩
    try simp only [aF,QE,seval,fA,q1,q2,q5,q6,q7,q8,q9,hw,ints,gJ]
    try simp [aT]
   ·rw [vQ,hall] at hacc
    rw [hall] at q9
    rw [hxs hall]
    (repeat (first|simp only [↓QA,QB,seval,fA,q1,q2,q5,q6,q7,q8,q9,ints,gJ,hap2]|refine rd0 rfl ?_))
    refine ⟨(k+1,acc++[⟨bl,sV v bl but v.plots.length⟩],true),⟨by simp only;omega,by simpa using hacc⟩,by simp only;omega,?_⟩
    cases tk with
    |none =>
     try simp only [aF,QE,seval,fA,q1,q2,q5,q6,q7,q8,q9,hw,ints,gJ,List.map_append,List.map_cons,List.map_nil,List.length_append,sZ,Bool.and_false]
     try simp [aT]
    |some t =>
     have h2:=htk t rfl
     try simp only [aF,QE,seval,fA,q1,q2,q5,q6,q7,q8,q9,hw,ints,gJ,List.map_append,List.map_cons,List.map_nil,List.length_append,sZ,Bool.and_false,Nat.not_lt.2 (Nat.le_of_lt h2)]
     try simp [aT]
  ·have hk1:k=W.length:=by simp at hd;omega
   rw [hk1,List.drop_length] at hacc
   simp only [List.filterMap_nil,List.append_nil] at hacc
   subst hacc
   (repeat (first|simp only [↓QA,QB,seval,fA,qQ]|refine rd0 rfl ?_))
   try try simp only [QS,QC,seval,fA]
end Go.Am.Room.Fa
namespace Go.Am.Room
theorem CT:∀ (l:List Int) (s:Span),s.lo≤s.hi→(l.foldl nF s).lo≤s.lo∧s.hi≤(l.foldl nF s).hi∧(∀ x∈l,(l.foldl nF s).lo≤x∧x≤(l.foldl nF s).hi)∧((l.foldl nF s).lo=s.lo∨(l.foldl nF s).lo∈l)∧((l.foldl nF s).hi=s.hi∨(l.foldl nF s).hi∈l)
 |[],s,h=>⟨Int.le_refl _,Int.le_refl _,fun x hx=>by simp at hx,.inl rfl,.inl rfl⟩
 |y::l,s,h=>by
  have hj:(nF s y).lo≤(nF s y).hi:=by simp only [nF];omega
  obtain ⟨a,b,c,d,e⟩:=CT l (nF s y) hj
  simp only [List.foldl_cons]
  have h1:(nF s y).lo≤s.lo∧(nF s y).lo≤y∧((nF s y).lo=s.lo∨(nF s y).lo=y):=by simp only [nF];omega
  have h2:s.hi≤(nF s y).hi∧y≤(nF s y).hi∧((nF s y).hi=s.hi∨(nF s y).hi=y):=by simp only [nF];omega
  refine ⟨by omega,by omega,fun x hx=>?_,?_,?_⟩
  ·rcases List.mem_cons.1 hx with rfl|hx
   ·omega
   ·exact c x hx
  ·rcases d with d|d
   ·rcases h1.2.2 with h|h
    ·left;omega
    ·right;rw [d,h];simp
   ·right;simp [d]
  ·rcases e with e|e
   ·rcases h2.2.2 with h|h
    ·left;omega
    ·right;rw [e,h];simp
   ·right;simp [e]
theorem lV {l:List Int} (h:l≠[]):(qN l).lo∈l∧(qN l).hi∈l∧∀ x∈l,(qN l).lo≤x∧x≤(qN l).hi:=by
 cases l with
 |nil=>exact absurd rfl h
 |cons x l =>
  obtain ⟨a,b,c,d,e⟩:=CT l ⟨x,x⟩ (Int.le_refl _)
  simp only [qN]
  refine ⟨?_,?_,fun y hy=>?_⟩
  ·rcases d with d|d
   ·rw [d];simp
   ·simp [d]
  ·rcases e with e|e
   ·rw [e];simp
   ·simp [e]
  ·rcases List.mem_cons.1 hy with rfl|hy
   ·exact ⟨a,b⟩
   ·exact c y hy
theorem D2 {α:Type} {p:α→Bool} {l:List α}:(l.filter p).length=l.length↔∀ x∈l,p x=true:=by
 rw [List.length_filter_eq_length_iff]
theorem H1 {α:Type} {p:α→Bool} {l:List α}:mK (l.filter p).length l.length=1↔∀ x∈l,p x=true:=by
 rw [←D2]
 unfold mK
 split
 ·rename_i h;simp [h]
 ·rename_i h
  split
  ·simp [h]
  ·simp [h]
theorem JW {α:Type} {p:α→Bool} {l:List α}:mK (l.filter p).length l.length=2↔l≠[]∧∀ x∈l,p x=false:=by
 unfold mK
 split
 ·rename_i h
  simp only [show ¬(1:Int)=2 by omega,false_iff]
  rintro ⟨h1,h2⟩
  rw [D2] at h
  cases l with
  |nil=>exact h1 rfl
  |cons x l =>
   have a:=h x (by simp)
   have b:=h2 x (by simp)
   rw [a] at b;cases b
 ·rename_i h
  split
  ·rename_i h0
   simp only [true_iff]
   refine ⟨fun e=>?_,fun x hx=>?_⟩
   ·subst e;simp at h
   ·have:=List.eq_nil_of_length_eq_zero h0
    rw [List.filter_eq_nil_iff] at this
    simpa using this x hx
  ·rename_i h0
   simp only [show ¬(0:Int)=2 by omega,false_iff]
   rintro ⟨h1,h2⟩
   apply h0
   rw [List.length_eq_zero_iff,List.filter_eq_nil_iff]
   intro x hx
   simp [h2 x hx]
theorem EE (a b:Nat):mK a b=0∨mK a b=1∨mK a b=2:=by
 unfold mK;split
 ·simp
 ·split<;>simp
end Go.Am.Room
set_option maxRecDepth 4000
namespace Go.Am.Room.Fa
def iA (x:Span×Int):AV:=.tuple [bC x.1,.int .i64 x.2]
def iJ (x:List Int×Int):AV:=.tuple [ints x.1,.int .i64 x.2]
def tF (x:Int×Int):AV:=.tuple [.int .i64 x.1,.int .i64 x.2]
def pW (x:List Int×List Int×Int):AV:=.tuple [ints x.1,ints x.2.1,.int .i64 x.2.2]
theorem VI (v:Farm):clrs [encFarm v,.lit [] true none]=[encFarm v,ints []]:=by simp [clrs,(rB v).2,clr,ints]
theorem I7 (v:Farm):okVs 0 [encFarm v,.lit [] true none]:=⟨(rB v).1,by simp [okV,okVs],trivial⟩
theorem eV {v:Farm} {n:Int} (h:dA v n=0):Vd v∧0≤n∧n<v.plots.length:=by
 unfold dA at h
 split at h
 ·rename_i h0
  split at h
  ·rename_i h1;have:=gE.1 h1;exact ⟨vd_of_check h0,by omega,by omega⟩
  ·omega
 ·rename_i h0;exact absurd h h0
theorem qT {n most e:Int} (h:cY n most e=0):e=0∧0≤n∧n≤most:=by
 unfold cY at h
 split at h
 ·rename_i h0
  split at h
  ·rename_i h1;exact ⟨h0,gE.1 h1⟩
  ·omega
 ·rename_i h0;exact absurd h h0
theorem dO {v:Farm} {e:Int} (h:aZ v e=0):e=0∧aR v []≠[]:=by
 unfold aZ at h
 split at h
 ·rename_i h0
  split at h
  ·omega
  ·rename_i h1;exact ⟨h0,by simpa using h1⟩
 ·rename_i h0;exact absurd h h0
def nG (t:Truth) (d:Nat) (h:Int):Int:=yJ t.rain h d
theorem VA {t:Truth} {p:Nat} (h:p<t.fl.length):hO t p=t.fl[p]:=by simp [hO,h]
end Go.Am.Room.Fa
set_option maxRecDepth 4000
namespace Go.Am.Room.Fa
theorem GK {v:Farm} (hv:Vd v) {t:Truth} (ht:TOk v t) {d:Nat} (hd:d≤v.rain.length) (h:Int):0≤nG t d h∧nG t d h≤21:=by
 have hb:=vP (nY hv ht.rain) h.toNat d
 have:=hv.nra
 simp only [nG,yJ,Int.toNat_natCast]
 omega
theorem EP {v:Farm} (hv:Vd v) {l:List Truth} (hl:∀ t∈l,TOk v t) {d:Nat} (hd:d≤v.rain.length) (p:Nat):∀ n∈cG l p d,0≤n∧n≤21:=by
 intro n hn
 simp only [cG,List.mem_flatMap,List.mem_map] at hn
 obtain ⟨t,ht,h,_,rfl⟩:=hn
 exact GK hv (hl t ht) hd h
theorem n9 {v:Farm} {l:List Truth} (hl:∀ t∈l,TOk v t) (hne:l≠[]) {p:Nat} (hp:p<v.plots.length) (d:Nat):cG l p d≠[]:=by
 cases l with
 |nil=>exact absurd rfl hne
 |cons t l =>
  have:=((hl t (by simp)).fl p hp).1
  cases hf:hO t p with
  |nil=>exact absurd hf this
  |cons a b=>simp [cG,hf]
theorem w9 {v:Farm} (hv:Vd v) {l:List Truth} (hl:∀ t∈l,TOk v t) (hne:l≠[]) {p d:Nat} (hp:p<v.plots.length) (hd:d≤v.rain.length):0≤(fE l p d).lo∧(fE l p d).lo≤(fE l p d).hi∧(fE l p d).hi≤21:=by
 have hs:=lV (n9 hl hne hp d)
 have h1:=EP hv hl hd p _ hs.1
 have h2:=EP hv hl hd p _ hs.2.1
 have h3:=hs.2.2 _ hs.1
 simp only [fE]
 omega
end Go.Am.Room.Fa
set_option maxRecDepth 4000
namespace Go.Am.Room.Fa
def gN {α:Type} (p:α→Bool):List α→Nat→Int
 |[],_=>-1
 |x::xs,k=>if p x then k else gN p xs (k+1)
theorem lZ {α:Type} (p:α→Bool):∀ (l:List α) (k:Nat),decide (0≤gN p l k)=l.any p
 |[],k=>by simp [gN]
 |x::xs,k=>by
  cases h:p x
  ·simp [gN,h,lZ p xs (k+1)]
  ·simp [gN,h]
theorem yO (σ:St) (f:AV) (l:List Int) (p:Int→Bool) (hl:l.length<9223372036854775808) (hk:nI σ f) (h:∀ x∈l,eA T f [.int .i64 x] σ (.bool (p x))):eA T (.func 257 [] []) [ints l,f] σ (.int .i64 (gN p l 0)):=by
 refine bR (af:=a257) rfl (by simp [a257]) ?_
 have hk0:=hk.nil
 (repeat (first|simp only [↓QA,QB,seval,a257]|refine rd0 rfl ?_))
 refine bU (S:=Nat) 0 (fun k=>k≤l.length∧gN p (l.drop k) k=gN p l 0) (fun k=>l.length-k) (fun k=>[(0,ints l),(1,f),(7,.int .i64 l.length),(8,.int .i64 k)]) (fun _=>σ) ⟨Nat.zero_le _,by simp⟩ rfl ?_ fun k hk1=>?_
 ·try simp only [aF,QE,seval]
  try simp
 ·obtain ⟨hkl,hi⟩:=hk1
  (repeat (first|simp only [↓QA,QB,seval,KU]|refine rd0 rfl ?_))
  refine aJ (fun hd=>?_) fun hd=>?_
  ·have hlt:k<l.length:=by simpa using hd
   rw [List.drop_eq_getElem_cons hlt] at hi
   simp only [gN] at hi
   have hw:=b7 hlt hl
   (repeat (first|simp only [↓QA,QB,seval,hlt]|refine rd0 rfl ?_))
   refine aV (h l[k] (List.getElem_mem hlt)) ?_
   (repeat (first|simp only [↓QA,QB,seval]|refine rd0 rfl ?_))
   cases hp:p l[k]
   ·(repeat (first|simp only [↓QA,QB,seval,hw]|refine rd0 rfl ?_))
    refine ⟨k+1,⟨by omega,by rw [←hi,hp];rfl⟩,by omega,?_⟩
    try simp only [aF,QE,seval,hw,hk0,Nat.le_refl]
   ·(repeat (first|simp only [↓QA,QB,seval]|refine rd0 rfl ?_))
    refine bY [] (by first|rfl|simp) ?_
    rw [←hi,hp]
    try simp only [QS,QC,seval]
  ·have hlt:k=l.length:=by simp at hd;omega
   (repeat (first|simp only [↓QA,QB,seval]|refine rd0 rfl ?_))
   refine bY [] (by first|rfl|simp) ?_
   rw [←hi,hlt,List.drop_length]
   try simp only [QS,QC,seval,gN]
theorem lG (σ:St) (f:AV) (l:List Int) (p:Int→Bool) (hl:l.length<9223372036854775808) (hk:nI σ f) (h:∀ x∈l,eA T f [.int .i64 x] σ (.bool (p x))):eA T (.func 356 [] []) [ints l,f] σ (.bool (l.any p)):=by
 refine bR (af:=a356) rfl (by simp [a356]) ?_
 (repeat (first|simp only [↓QA,QB,seval,a356]|refine rd0 rfl ?_))
 refine aV (yO σ f l p hl hk h) ?_
 (repeat (first|simp only [↓QA,QB,seval]|refine rd0 rfl ?_))
 refine bY [] (by first|rfl|simp) ?_
 rw [←lZ p l 0]
 try simp only [QS,QC,seval]
def fQ (lo hi n:Int):Bool:=decide (n<lo)||decide (hi<n)
theorem v6 (lo hi n:Int):eA T (.func 369 [] [.ptr 0 0,.ptr 1 0]) [.int .i64 n] [.cells [.int .i64 lo],.cells [.int .i64 hi]] (.bool (fQ lo hi n)):=by
 refine bR (af:=a369) rfl (by simp [a369]) ?_
 (repeat (first|simp only [↓QA,QB,seval,a369]|refine rd0 rfl ?_))
 refine aJ (fun h=>?_) fun h=>?_
 all_goals
  (repeat (first|simp only [↓QA,QB,seval,h]|refine rd0 rfl ?_))
  refine bY [] (by first|rfl|simp) ?_
  try simp only [QS,QC,seval,fQ,h]
  try simp
def iV (lo hi:Int) (ns:List Int):Bool:=ns.any (fQ lo hi)
theorem aY (lo hi:Int) (ns:List Int) (hl:ns.length<9223372036854775808):cN T 232 [.int .i64 lo,.int .i64 hi,ints ns] (.bool (iV lo hi ns)):=by
 refine aQ (af:=a232) rfl (by simp [a232]) dd ?_
 (repeat (first|simp only [↓QA,QB,seval,a232]|refine rd0 rfl ?_))
 refine aV (lG _ _ ns (fQ lo hi) hl (fun τ=>?_) fun x _=>v6 lo hi x) ?_
 ·try simp only [QS,QC,seval]
 ·(repeat (first|simp only [↓QA,QB,seval,iV]|refine rd0 rfl ?_))
theorem G8 (lo hi n:Int):eA T (.func 378 [] [.ptr 0 0,.ptr 1 0]) [.int .i64 n] [.cells [.int .i64 lo],.cells [.int .i64 hi]] (.bool (fQ lo hi n)):=by
 refine bR (af:=a378) rfl (by simp [a378]) ?_
 (repeat (first|simp only [↓QA,QB,seval,a378]|refine rd0 rfl ?_))
 refine aJ (fun h=>?_) fun h=>?_
 all_goals
  (repeat (first|simp only [↓QA,QB,seval,h]|refine rd0 rfl ?_))
  refine bY [] (by first|rfl|simp) ?_
  try simp only [QS,QC,seval,fQ,h]
  try simp
theorem BK (lo hi:Int) (ns:List Int) (hl:ns.length<9223372036854775808):cN T 244 [.int .i64 lo,.int .i64 hi,ints ns] (.bool (iV lo hi ns)):=by
 refine aQ (af:=a244) rfl (by simp [a244]) dd ?_
 (repeat (first|simp only [↓QA,QB,seval,a244]|refine rd0 rfl ?_))
 refine aV (lG _ _ ns (fQ lo hi) hl (fun τ=>?_) fun x _=>G8 lo hi x) ?_
 ·try simp only [QS,QC,seval]
 ·(repeat (first|simp only [↓QA,QB,seval,iV]|refine rd0 rfl ?_))
theorem m6 (s:ByteArray):∀ n k,k≤n→eF s k=false→eF s n=false
  | 0, k, h, h1 => by have : k = 0 := by omega
                      subst this;exact h1
  |n+1,k,h,h1=>by
    by_cases hk:k=n+1
    · subst hk;exact h1
    · simp [eF,m6 s n k (by omega) h1]
theorem fK (lo hi n:Int):iV lo hi [n] = !inR n lo hi:=by
 rw [Bool.eq_iff_iff];simp [iV,fQ,inR]
theorem xS (lo hi n m:Int):iV lo hi [n,m]=(!inR n lo hi||!inR m lo hi):=by
 rw [Bool.eq_iff_iff];simp [iV,fQ,inR]
theorem m5 (s:ByteArray) (hs:s.size<9223372036854775808):cN T 111 [.str s] (.bool (kJ s)):=by
 refine aQ (af:=a111) rfl (by simp [a111]) dd ?_
 (repeat (first|simp only [↓QA,QB,seval,a111]|refine rd0 rfl ?_))
 refine bU (S:=Nat) 0 (fun k=>k≤s.size∧eF s k=true) (fun k=>s.size-k) (fun k=>[(0,.str s),(7,.ptr 0 0)]) (fun k=>[.siter s k]) ⟨Nat.zero_le _,rfl⟩ rfl ?_ fun k hk=>?_
 ·try simp only [aF,QE,seval]
  try simp
 ·obtain ⟨hkl,hok⟩:=hk
  by_cases hk1:k<s.size
  ·obtain ⟨R,hR⟩:∃ R:Int,((Utf8.decode s k).1:Int)=R:=⟨_,rfl⟩
   obtain ⟨W,hW⟩:∃ W,(Utf8.decode s k).2=W:=⟨_,rfl⟩
   have hstep:eF s (k+1)=uD k (dI s k):=by simp [eF,hok]
   have hbl:=yM s k
   have key:(97≤R∧R≤122∨0<k∧(R=46∨48≤R∧R≤57))→W=1∧eF s (k+1)=true:=by
    intro h
    by_cases hb:dI s k<128
    ·have:=nO hk1 hb
     rw [this] at hR hW
     have hR':R=dI s k:=by simp at hR;omega
     refine ⟨hW.symm,?_⟩
     rw [hstep,uD,←hR']
     simp [inR]
     omega
    ·have:=zT hk1 (by omega)
     omega
   have key2:¬(97≤R∧R≤122∨0<k∧(R=46∨48≤R∧R≤57))→kJ s=false:=by
    intro h
    have:eF s (k+1)=false:=by
     rw [hstep,uD]
     by_cases hb:dI s k<128
     ·have:=nO hk1 hb
      rw [this] at hR hW
      have hR':R=dI s k:=by simp at hR;omega
      rw [←hR']
      simp [inR]
      omega
     ·simp [inR];omega
    simp [kJ,m6 s s.size (k+1) (by omega) this]
   have go:∀ (e:Env),W=1∧eF s (k+1)=true→Env.get e 0 = .str s→Env.get e 7 = .ptr 0 0→∃ s',(s'≤s.size∧eF s s'=true)∧s.size-s'<s.size-k∧aF [.siter s k] e [.siter s (k+W)] [(0,.str s),(7,.ptr 0 0)] [.siter s s']:=by
    intro e h e0 e7
    refine ⟨k+1,⟨by omega,h.2⟩,by omega,?_⟩
    try simp only [aF,QE,seval,e0,e7,h.1]
    try simp [aT]
   (repeat (first|simp only [↓QA,QB,seval,DG,IW hk1,hR,hW]|refine rd0 rfl ?_))
   cases h1:decide (97≤R)
   ·have h1':¬97≤R:=by simpa using h1
    (repeat (first|simp only [↓QA,QB,seval,h1]|refine rd0 rfl ?_))
    cases h3:((k:Int)==0)
    ·have h3':0<k:=by simp at h3;omega
     (repeat (first|simp only [↓QA,QB,seval,h3]|refine rd0 rfl ?_))
     cases h4:(R==46)
     ·have h4':R≠46:=by simpa using h4
      (repeat (first|simp only [↓QA,QB,seval,h4]|refine rd0 rfl ?_))
      cases h5:decide (R<48)
      ·have h5':¬R<48:=by simpa using h5
       (repeat (first|simp only [↓QA,QB,seval,h5]|refine rd0 rfl ?_))
       cases h6:decide (57<R)
       ·have h6':¬57<R:=by simpa using h6
        (repeat (first|simp only [↓QA,QB,seval,h6]|refine rd0 rfl ?_))
        exact go _ (key (by omega)) (by try simp only [aF,QE,seval]) (by try simp only [aF,QE,seval])
       ·have h6':57<R:=by simpa using h6
        rw [key2 (by omega)]
        (repeat (first|simp only [↓QA,QB,seval,h6]|refine rd0 rfl ?_))
      ·have h5':R<48:=by simpa using h5
       rw [key2 (by omega)]
       (repeat (first|simp only [↓QA,QB,seval,h5]|refine rd0 rfl ?_))
     ·have h4':R=46:=by simpa using h4
      (repeat (first|simp only [↓QA,QB,seval,h4]|refine rd0 rfl ?_))
      exact go _ (key (by omega)) (by try simp only [aF,QE,seval]) (by try simp only [aF,QE,seval])
    ·have h3':k=0:=by simp at h3;omega
     rw [key2 (by omega)]
     (repeat (first|simp only [↓QA,QB,seval,h3]|refine rd0 rfl ?_))
   ·have h1':97≤R:=by simpa using h1
    (repeat (first|simp only [↓QA,QB,seval,h1]|refine rd0 rfl ?_))
    cases h2:decide (R≤122)
    ·have h2':¬R≤122:=by simpa using h2
     (repeat (first|simp only [↓QA,QB,seval,h2]|refine rd0 rfl ?_))
     cases h3:((k:Int)==0)
     ·have h3':0<k:=by simp at h3;omega
      (repeat (first|simp only [↓QA,QB,seval,h3]|refine rd0 rfl ?_))
      cases h4:(R==46)
      ·have h4':R≠46:=by simpa using h4
       (repeat (first|simp only [↓QA,QB,seval,h4]|refine rd0 rfl ?_))
       cases h5:decide (R<48)
       ·have h5':¬R<48:=by simpa using h5
        (repeat (first|simp only [↓QA,QB,seval,h5]|refine rd0 rfl ?_))
        cases h6:decide (57<R)
        ·have h6':¬57<R:=by simpa using h6
         (repeat (first|simp only [↓QA,QB,seval,h6]|refine rd0 rfl ?_))
         exact go _ (key (by omega)) (by try simp only [aF,QE,seval]) (by try simp only [aF,QE,seval])
        ·have h6':57<R:=by simpa using h6
         rw [key2 (by omega)]
         (repeat (first|simp only [↓QA,QB,seval,h6]|refine rd0 rfl ?_))
       ·have h5':R<48:=by simpa using h5
        rw [key2 (by omega)]
        (repeat (first|simp only [↓QA,QB,seval,h5]|refine rd0 rfl ?_))
      ·have h4':R=46:=by simpa using h4
       (repeat (first|simp only [↓QA,QB,seval,h4]|refine rd0 rfl ?_))
       exact go _ (key (by omega)) (by try simp only [aF,QE,seval]) (by try simp only [aF,QE,seval])
     ·have h3':k=0:=by simp at h3;omega
      rw [key2 (by omega)]
      (repeat (first|simp only [↓QA,QB,seval,h3]|refine rd0 rfl ?_))
    ·have h2':R≤122:=by simpa using h2
     (repeat (first|simp only [↓QA,QB,seval,h2]|refine rd0 rfl ?_))
     exact go _ (key (by omega)) (by try simp only [aF,QE,seval]) (by try simp only [aF,QE,seval])
  ·have hk2:k=s.size:=by omega
   (repeat (first|simp only [↓QA,QB,seval,DG,JU hk1]|refine rd0 rfl ?_))
   ((first|refine bJ (BK 1 16 [(s.size:Int)] (by simp)) (by simp [clr,clrs,ints]) (by simp [okV,okVs]) ?_|refine cP (BK 1 16 [(s.size:Int)] (by simp)) (by simp [clr,clrs,ints]) (by simp [okV,okVs]) ?_);(repeat (first|simp only [↓QA,QB,seval]|refine rd0 rfl ?_)))
   rw [fK]
   (repeat (first|simp only [↓QA,QB,seval]|refine rd0 rfl ?_))
   simp [kJ,←hk2,hok]
def cX {α:Type} (fY most:Int) (of:Nat→α→Int) (l:List α):Int×Int:=if inR l.length fY most=false then (0,3) else match aL of l 0 with|some (i,e)=>(i,e)|none=>(0,0)
def kI (x:Int×Int):AV:=.tuple [.int .i64 x.1,.int .i64 x.2]
theorem CW {α:Type} (f:α→ByteArray) (s:ByteArray):∀ l:List α,l.any (fun x=>decide (f x=s))=decide (iH s (l.map f)≠(l.map f).length)
 |[]=>by simp [iH]
 |x::xs=>by
  simp only [List.any_cons,CW f s xs,List.map_cons,iH,List.length_cons]
  by_cases h:f x=s
  ·simp [h]
  ·simp [h]
end Go.Am.Room.Fa
