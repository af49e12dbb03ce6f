/- A part of the proof of TopBlamed: an abstract machine, or what functions come to on it. -/
import Derived.Test.YtckllniniolhcaaGreatTopBlamedQ2
import Derived.WalkKit
import Derived.ChangeArms
import Derived.SizedLaws
import Derived.ChangeBears
import Derived.ChangeShapes
import Derived.WideShapes
import Derived.ProofKit
import Derived.OpenShut
import Derived.Lib.Strings
import Derived.Laws.RangeAny
open Nat (reduceLT reduceEqDiff reduceAdd reduceLeDiff reduceMul)
set_option linter.unusedVariables false
set_option linter.unusedSimpArgs false
set_option linter.defProp false
namespace Go.Am
variable {P:Program} {hh:String->Bool} {G G0 G1 G':Gh} {w w0 w1 w':World} {σ σ' σ1:St} {env env':Env} {n m m':Nat} {v:AV} {a:Act} {Q R S:Out->Prop}
theorem aED(env:Env)(t:Nat):Env.get env t = .undef\/∃ p∈env,p.1=t/\Env.get env t=p.2:=by
 induction env with
 |nil=>exact .inl rfl
 |cons p env ih =>
  obtain⟨k,v⟩:=p;by_cases hk:k=t
  ·exact .inr ⟨(k,v),by simp,hk,by simp[Env.get,hk]⟩
  ·rcases ih with h|⟨p,q1,q2,q3⟩
   ·exact .inl (by simp[Env.get,hk,h])
   ·exact .inr ⟨p,by simp[q1],q2,by simp[Env.get,hk,q3]⟩
theorem RL{c:ACode}(h:cO P hh (.code c env σ) R)(h1:∀ o,R o->∃ env' m,aHT σ o.env o.σ env' m/\Q ⟨o.j,env',o.σ.take m,o.v⟩):cO P hh (.code c env σ) Q:=by
 intro F n cd G w a B f1 f2 f3 f4 f5 f6;have he0:=lA f4;refine (h f1 f2 (f3.ghost (G':=G.shut σ) rfl rfl rfl rfl) f4.shut (f5.mono fun r e=>e) f6).mono fun e a' w' hp=>?_
 obtain⟨o,G1,q1,q2,q3,q4,q5,q6⟩:=hp;obtain⟨env',m,⟨t1,t2,t3,t4⟩,hq⟩:=h1 o q1;have hkept:aEV σ o.σ m:=⟨t1,t2,t4⟩;have hless:=(oO (m:=m) q4 G.res).toLess;refine⟨_,G1.cut w' o.σ m G.res,hq,q2,⟨q3.1,fun t=>?_⟩,KH f4 q5 q4 hkept,xM f4 q5 q4 t1,q6.mono fun r e=>e⟩;rcases aED env' t with hu|⟨p,p1,p2,p3⟩
 ·show RelV _ _ (Env.get env' t) _
  rw[hu];exact .undef _
 ·show RelV _ _ (Env.get env' t) _
  obtain⟨g1,g2⟩:=t3 p p1;rw[p3];have:=q3.2 t;rw[<-p2,<-g1] at this;rw[<-p2];exact this.less hless g2
theorem M8{c:ACode}(t sz:Nat)(xs:List AV)(ht:Env.get env t = .lit xs true none)(h:cO P hh (.code c ((t,.lit xs false (some σ.length))::env) (σ++[.tok sz xs.length false])) Q):cO P hh (.code c env σ) Q:=by
 intro F n cd G w a B f1 f2 f3 f4 f5 f6;have hr:=f3.2 t;rw[ht] at hr;generalize hu:a.tmps.getD t undef=u at hr;obtain⟨base,cap,rfl,htk,hbn⟩:=kF hr;have hcap:=htk.2.1 rfl;obtain⟨G1,hG1⟩:∃ G1:Gh,G1={ G with tok:=fun i=>if i=σ.length then some (base,xs.length,xs.length) else G.tok i }:=⟨_,rfl⟩;have hlt:∀ {t b n c},G.tok t=some (b,n,c)->t<σ.length:=fun e=>by
  obtain⟨_,_,q,_⟩:=f4.tok _ _ _ _ e;exact (List.getElem?_eq_some_iff.1 q).1
 have he:Evo G w G1 w:=by
  rw[hG1];refine⟨fun _ _ h=>h,fun b L h=>⟨L,h,Nat.le_refl _,fun _ _=>rfl⟩,fun t b n c e=>⟨b,n,c,?_,Nat.le_refl _,fun _=>⟨rfl,rfl⟩⟩,fun _ _ _ _ h=>h,fun _ h=>h,rfl,rfl,rfl,rfl,rfl,Nat.le_refl _,fun _ _ h=>h⟩;have:=hlt e;simp only[show t≠σ.length by omega,if_false];exact e
 have hS1:RelS P hh G1 w (σ++[.tok sz xs.length false]):=by
  have hm:=f4.more [.tok sz xs.length false];rw[hG1] at he ⊢;refine⟨hm.lt,fun id b x e1 e2=>(hm.blk id b x e1 e2).mono he rfl,hm.inj,hm.fresh,hm.lim,fun t' b k c e=>?_,fun b t' e=>?_,hm.defs,hm.base,hm.size,hm.res⟩
  ·by_cases ht':t'=σ.length
   ·subst ht';simp only[if_true,Option.some.injEq,Prod.mk.injEq] at e;obtain⟨rfl,rfl,rfl⟩:=e;exact⟨sz,false,by simp,Nat.le_refl _,fun _=>rfl,fun h=>by cases h⟩
   ·simp only[ht',if_false] at e;exact hm.tok _ _ _ _ e
  ·obtain⟨q1,p,q2⟩:=hm.own b t' e;refine⟨q1,p,?_⟩;obtain⟨b',n',c'⟩:=p;have:=hlt q2;simp only[show t'≠σ.length by omega,if_false];exact q2
 have hv:RelV G1 w (.lit xs false (some σ.length)) (.slice base xs.length cap):=by
  have htk':lT G1 false (some σ.length) xs.length base cap:=by
   refine⟨htk.1,by simp,fun t' e=>?_⟩;cases e;exact⟨base,xs.length,xs.length,by rw[hG1];simp,Nat.le_refl _,fun _ _=>⟨rfl,hcap.symm⟩⟩
  have hr1:=hr.mono he;cases hr1 with
  |nil _ hb=>exact .nil htk' hb
  |lit _ hl hc =>
   refine .lit htk' ⟨hl.lim,fun t' e=>?_,hl.size,hl.cells⟩ hc;have:=hl.own t' e;cases this
 have hE1:eL G1 w n ((t,.lit xs false (some σ.length))::env) a.tmps:=by
  refine⟨f3.1,fun t'=>?_⟩;by_cases htt:t=t'
  ·subst htt;rw[hu];simpa[Env.get] using hv
  ·simpa[Env.get,htt] using (f3.2 t').mono he
 exact (h f1 f2 hE1 hS1 (f5.mono he.defs) f6).mono fun e a w=>qA.lift he
theorem zV:∀ (args:List AV) (k t:Nat),Env.get (eI k args) t=if k<=t then (args[t-k]?).getD .undef else .undef
 |[],k,t=>by simp[eI,Env.get]
 |v::vs,k,t=>by
  simp only[eI,Env.get];by_cases hk:k=t
  ·subst hk;simp
  ·rw[if_neg hk,zV vs (k+1) t];by_cases hlt:k<=t
   ·rw[if_pos hlt,if_pos (by omega),show t-k=(t-(k+1))+1 by omega];rfl
   ·rw[if_neg hlt,if_neg (by omega)]
theorem aCX{args:List AV}{vs:Array Value}(h:fF G w args vs)(hn:args.length<=n):eL G w n (eI 0 args) (vs++Array.replicate (n-vs.size) undef):=by
 refine⟨by have:=h.1;simp;omega,fun t=>?_⟩;rw[zV];simp only[Nat.zero_le,if_true,Nat.sub_zero];cases e:args[t]? with
 |none=>simpa using .undef _
 |some x =>
  have ht:t<vs.size:=by rw[h.1];exact (List.getElem?_eq_some_iff.1 e).1
  have:=h.2 t x vs[t] e (Array.getElem?_eq_getElem ht);simpa[Array.getD_eq_getD_getElem?,Array.getElem?_append_left ht,Array.getElem?_eq_getElem ht] using this
theorem DX{fn:Func}{af:AFunc}(h:lB P hh fn=some af):
  ∃ c,fn.body=some c/\comp P hh fn.ntmps c=some af.body/\nC P fn.results.toList=some af.results/\(fn.name== "runtime.NumGoroutine")=false/\af.ntmps=fn.ntmps:=by
 unfold lB at h
 split at h
 ·cases h
 ·rename_i c hb
  split at h
  ·rename_i b rs h1 h2
   split at h
   ·cases h
   ·rename_i hname
    cases h
    exact⟨c,hb,h1,h2,by simpa using hname,rfl⟩
  ·cases h
theorem SM{T:FuncId->Option AFunc}(hT:∀ f af,T f=some af->∃ fn,P.funcs[f]? = some fn/\lB P hh fn=some af){f:FuncId}{args:List AV}{af:AFunc}(hf:T f=some af)(hn:args.length<=af.ntmps)(h:cO P hh (.code af.body (eI 0 args) σ) R)(h1:∀ o,R o->(o.j=none\/o.j=some .ret)/\∃ v,eY af.results o.env o.σ=some v/\KY σ o.σ v Q):cO P hh (.call f args σ) Q:=by
 obtain⟨fn,hfn,hcomp⟩:=hT f af hf
 obtain⟨c,hb,hc,hres,hname,hnt⟩:=DX hcomp
 have hname':¬fn.name = "runtime.NumGoroutine":=by simpa using hname
 refine⟨fun vs w=>by simp[callFunc,hfn,hname',hb],fun {G w vs} ha hS=>?_⟩
 refine callsIn_of_wp_marks hfn hb trivial (wpIn_mono (h (F:=Fence.wide) (cd:=c) (n:=fn.ntmps) (G:=G.shut σ) (w:=w) (a:={ tmps:=vs++Array.replicate (fn.ntmps-vs.size) undef,defers:=[] }) (B:=w.heap.size) (.inl rfl) hc ((aCX ha (by omega)).ghost rfl rfl rfl rfl) hS.shut
  ⟨[],rfl,List.nodup_nil,fun r hr=>by cases hr⟩ (Nat.le_refl _)).wpIn fun e a' w' hp=>?_)
 obtain⟨o,G1,q1,rfl,q3,q4,q5,rs,m1,m2,m3⟩:=hp
 obtain⟨hj,v,hv,hl⟩:=h1 o q1
 have hleave:LeavesInM Fence.wide 0 P fn a'.tmps (fun e w'=>∃ r G' u,e = .returned u/\Q r/\RelV G' w' r.v u/\RelS P hh G' w' r.σ/\Evo G w G' w') a'.defers .returning w':=by
  rw[m1]
  refine zO rs m2 (fun r hr=>⟨(m3 r hr).1,fun e=>?_⟩) q4 q3 q5 fun G2 w2 s1 s2 s3=>?_
  ·have:=(Array.getElem?_eq_some_iff.1 (hS.defs r e).1).1
   have:=(m3 r hr).2
   omega
  ·obtain⟨u,r1,r2⟩:=DO s2 s1 hres hv
   obtain⟨o2,G3,t1,t2,t3,t4⟩:=JP hS s3 s1 r2 hl
   exact⟨u,r1,o2,G3,u,rfl,t1,t2,t3,t4⟩
 rcases hj with hj|hj<;>rw[hj]<;>exact hleave
theorem RelS.newDef(h:RelS P hh G w σ):RelS P hh { G with defs:=fun x=>G.defs x\/x=w.heap.size } (w.alloc (.deferred (some []))) σ /\
  Evo G w { G with defs:=fun x=>G.defs x\/x=w.heap.size } (w.alloc (.deferred (some []))):=by
 have h1:=h.alloc (.deferred (some []));have he:=kD h (.deferred (some []))
 refine⟨⟨h1.lt,fun id b x e1 e2=>(h1.blk id b x e1 e2).ghost rfl rfl rfl rfl,h1.inj,fun id b e=>?_,h1.lim,h1.tok,h1.own,fun r e=>?_,h1.base,h1.size,h1.res⟩,
  ⟨he.loc,he.lim,he.tok,he.own,fun r e=>.inl e,he.B0,he.h0,he.os,he.tape,he.output,he.size,he.res⟩⟩
 ·obtain⟨q1,q2,q3,q4⟩:=h1.fresh id b e;refine⟨q1,q2,q3,fun hd=>hd.elim q4 fun e'=>?_⟩;have:=(h.fresh id b e).2.1;omega
 ·rcases e with e|rfl
  ·exact h1.defs r e
  ·refine⟨by rw[eC,if_pos rfl],h.size,?_⟩;cases e:G.lim w.heap.size with
   |none=>rfl
   |some L=>have:=rG h e;omega
theorem tB(w:World)(g:Nat)(o:Obj):Part g w (w.putObj g o):=kK w g o
theorem CL{f:AOpd}{g:FuncId}{first cap:List AV}{ps:List Nat}{x y:ACode}(hf:f.ev env = .func g first cap)(h:cO P hh (.call g (first++[.yield σ.length]++cap) (σ++[.loop .ready none env ps x y])) R)(h1:∀ o,R o->∃ st pend env' ps' a' b',o.σ[σ.length]? = some (.loop st pend env' ps' a' b')/\st≠.busy/\Q ⟨pend,env,o.σ.set σ.length .dead,.undef⟩):cO P hh (.code (.rangeFunc f ps x y) env σ) Q:=by
 intro F n cd G w a B f1 f2 f3 f4 f5 f6;obtain⟨fo,pa,c,d,rfl,c1,c2,c3,rfl,c5,c6,c7⟩:=OV f2;have hF:F=Fence.wide:=by
  rcases f1 with h|⟨l,_,h⟩
  ·exact h
  ·simp[oV] at h
 subst hF;refine wpIn_rangeFunc fun fn _=>?_
 obtain⟨hD,heD⟩:=f4.newDef;obtain⟨GD,hGD⟩:∃ GD:Gh,GD={ G with defs:=fun z=>G.defs z\/z=w.heap.size }:=⟨_,rfl⟩;rw[<-hGD] at hD heD;obtain⟨rec,hrec⟩:∃ rec:Loop,rec={ state:=.ready,pending:=none,fn,tmps:=a.tmps,params:=pa,assign:=c,body:=d,defers:=w.heap.size }:=⟨_,rfl⟩;have hED:=f3.mono heD;obtain⟨hL,heL⟩:=uR (o:=.loop rec) hD (x:=.loop .ready none env pa.toList x y) fun G' he' =>
  ⟨rec,n,by rw[eC,if_pos rfl],by rw[hrec];rfl,by rw[hrec];rfl,by rw[hrec],by rw[hrec];exact c2,by rw[hrec];exact c3,c5,by rw[show rec.tmps=a.tmps by rw[hrec]];exact hED.mono he',by rw[hrec];exact⟨c6,c7⟩⟩
 rw[show (w.alloc (.deferred (some []))).heap.size=w.heap.size+1 from by simp] at hL heL;have hr:=cE (a:=a) c1 f3;rw[hf] at hr;have heGL:=heD.trans heL;have hr2:=hr.mono heGL;generalize hfu:a.eval fo=fu at hr2;cases hr2 with
 |@func _ _ _ first' cap' e1 e2 e3 e4 =>
  refine⟨w.heap.size+1,[CN w.heap.size],(w.alloc (.deferred (some []))).alloc (.loop rec),{ target:=.fn (.func g) cap',args:=first'++#[.func (.yield (w.heap.size+1)) #[] #[]] },(w.alloc (.deferred (some []))).alloc (.loop rec),g,
   first'++#[.func (.yield (w.heap.size+1)) #[] #[]]++cap',(w.alloc (.deferred (some []))).alloc (.loop rec),?_,?_,fun _ _=>trivial,?_,(fun h0=>by cases h0),?_⟩
  ·rw[hrec];exact run_enterLoop_outer _ _ _ _ _
  ·simp only[resolve,rangeCall];rw[hfu];simp[Deferred.ofValue,Act.eval]
  ·simp[invoke,h.1]
  ·have hargs:fF (GD.withLoc σ.length (w.heap.size+1)) ((w.alloc (.deferred (some []))).alloc (.loop rec)) (first++[.yield σ.length]++cap) (first'++#[.func (.yield (w.heap.size+1)) #[] #[]]++cap'):=by
    refine fF.append (fF.append ⟨e1,e3⟩ ⟨rfl,fun i z u q1 q2=>?_⟩) ⟨e2,e4⟩
    match i with
    |0=>simp at q1 q2;subst q1;subst q2;exact .yield eN
    |_+1=>simp at q1
   refine (h.2 hargs hL).mono fun e w3 hr3=>?_
   obtain⟨o,G3,u,rfl,q1,q2,q3,q4⟩:=hr3;obtain⟨st,pend,env',ps',a',b',s1,s2,s3⟩:=h1 o q1;have hloc:G3.loc σ.length=some (w.heap.size+1):=q4.loc _ _ eN;obtain⟨l,k,l1,l2,l3,l4⟩:=q3.blk _ _ _ hloc s1;have hst:l.state≠.busy:=by
    rw[l2];cases st<;>simp[aME] at s2 ⊢
   have hend:=run_endLoop (P:=P) l1 hst;have hw:=q3.write (y:=.dead) hloc (tB w3 (w.heap.size+1) (.loop { l with state:=.exhausted })) s1 (fun _ _ _ e=>by cases e) trivial;refine⟨_,_,hend,?_⟩;have hevo:=(heGL.trans q4).trans hw.2;have hmarks:qS G3 B ({ a with defers:=[CN w.heap.size]++a.defers }:Act).defers:=by
    obtain⟨rs,m1,m2,m3⟩:=f5;refine⟨w.heap.size::rs,by simp[m1],List.nodup_cons.2 ⟨fun hm=>?_,m2⟩,fun r hr=>?_⟩
    ·have:=(Array.getElem?_eq_some_iff.1 (f4.defs _ (m3 _ hm).1).1).1;omega
    ·rcases List.mem_cons.1 hr with rfl|hr
     ·exact⟨(heL.trans q4).defs _ (by rw[hGD];exact .inr rfl),f6⟩
     ·exact⟨hevo.defs _ (m3 r hr).1,(m3 r hr).2⟩
   have hpost:qA P hh G w n B Q (SD pend) { a with defers:=[CN w.heap.size]++a.defers } (w3.putObj (w.heap.size+1) (.loop { l with state:=.exhausted })) :=
    ⟨_,G3,s3,rfl,f3.mono hevo,hw.1,hevo,hmarks⟩
   rw[l3] at hpost ⊢;cases pend with
   |none=>exact hpost
   |some j =>
    cases j with
    |ret=>exact wpIn_ret hpost
    |exit id=>exact wpIn_exit hpost
theorem BW:∀ {ps:List Nat} {args:List AV} {us:List Value} {env:Env} {tmps:Array Value},ps.length=args.length->us.length=args.length->(∀ p∈ps,p<n) ->
  (∀ (i:Nat) (x:AV) (u:Value),args[i]? = some x->us[i]? = some u->RelV G w x u)->eL G w n env tmps ->
  eL G w n (iQ env ps args) ((ps.zip us).foldl (fun tmps (t,a)=>tmps.setIfInBounds t a) tmps)
 |[],[],us,env,tmps,_,_,_,_,hE=>by simpa[iQ] using hE
 |[],_::_,us,env,tmps,h,_,_,_,_=>by simp at h
 |_::_,[],us,env,tmps,h,_,_,_,_=>by simp at h
 |p::ps,v::args,[],env,tmps,_,h,_,_,_=>by simp at h
 |p::ps,v::args,u::us,env,tmps,h1,h2,h3,h4,hE=>by
  simp only[iQ,List.zip_cons_cons,List.foldl_cons];refine BW (by simpa using h1) (by simpa using h2) (fun q hq=>h3 q (List.mem_cons_of_mem _ hq)) (fun i x u e1 e2=>h4 (i+1) x u (by simpa using e1) (by simpa using e2)) ?_;exact hE.put (a:={ tmps:=tmps,defers:=[] }) (dst:=some p) (fun d e=>by cases e;exact h3 p (by simp)) (h4 0 v u rfl rfl)
theorem J4{r:Nat}{o o':Obj}(hb:w.heap[r]? = some o):(w.putObj r o').heap[r]? = some o':=tR hb
theorem NG{id:Nat}{args:List AV}{ps:List Nat}{x y:ACode}(hl:σ[id]? = some (.loop .ready none env ps x y))(hn:ps.length=args.length)(h:cO P hh (.code x (iQ env ps args) σ) R)(h0:∀ o,R o->o.j=none/\o.σ[id]? = some (.loop .ready none env ps x y))(h1:∀ o,R o->cO P hh (.code y o.env (o.σ.set id (.loop .busy none env ps x y))) S)(h2:∀ o,S o->o.σ[id]? = some (.loop .busy none env ps x y)/\Q ⟨none,[],o.σ.set id (.loop (if o.j=none then .ready else .done) o.j env ps x y),.bool (decide (o.j=none))⟩):
  cO P hh (.callv (.yield id) args σ) Q:=by
 intro G w fv vs hf ha hS;cases hf with
 |@yield _ b hloc =>
  obtain⟨l,n,l1,l2,l3,l4,l5,l6,l7,l8,l9,l10⟩:=hS.blk _ _ _ hloc hl;have hy:=run_yield (P:=P) (args:=#[]++vs) l1 (by have:=ha.1;rw[<-l4] at hn;simp at hn ⊢;omega);refine⟨{ target:=.fn (.yield b) #[],args:=#[]++vs },_,w,by simp[Deferred.ofValue],by simp only[invoke];exact hy,fun {F} o a next Qx hF hnext=>?_⟩;rw[Oper.uponIn_round];refine⟨fun e=>absurd e hF.depth,hF.round ?_⟩;have htm:((l.params.zip (#[]++vs)).foldl (fun tmps (t,a)=>tmps.setIfInBounds t a) l.tmps)=((ps.zip vs.toList).foldl (fun tmps (t,a)=>tmps.setIfInBounds t a) l.tmps):=by
   rw[<-Array.foldl_toList,Array.toList_zip,<-l4];simp
  rw[htm];have hE:=BW (G:=G) (w:=w) (env:=env) (tmps:=l.tmps) hn (us:=vs.toList) (by simpa using ha.1) l7 (fun i z u e1 e2=>ha.2 i z u e1 (by simpa using e2)) l8
  refine roundIn_of_wpIn trivial (wpIn_mono (h (F:=Fence.wide.inRound b) (cd:=l.assign) (n:=n) (G:=G) (w:=w) (a:={ tmps:=(ps.zip vs.toList).foldl (fun tmps (t,a)=>tmps.setIfInBounds t a) l.tmps,defers:=[] }) (B:=w.heap.size)
   (.inr ⟨b,rfl,l9⟩) l5 hE hS ⟨[],rfl,List.nodup_nil,fun r hr=>by cases hr⟩ (Nat.le_refl _)).wpIn fun e a1 w1 hp=>?_)
  obtain⟨o1,G1,q1,rfl,q3,q4,q5,q6⟩:=hp;obtain⟨j0,s0⟩:=h0 o1 q1;rw[j0];have hloc1:=q5.loc _ _ hloc;obtain⟨r,n1,r1,r2,r3,r4,r5,r6,r7,r8,r9,r10⟩:=q4.blk _ _ _ hloc1 s0;refine⟨_,run_beginRound r1 r2,?_⟩;have hp1:=tB w1 b (.loop { r with state:=.busy });have hev1:Evo G1 w1 G1 (w1.putObj b (.loop { r with state:=.busy })):=nT hp1 (q4.fresh _ _ hloc1).2.2.1;have hw1:=q4.write (y:=.loop .busy none env ps x y) hloc1 hp1 s0 (fun _ _ _ e=>by cases e)
   ⟨{ r with state:=.busy },n1,J4 r1,rfl,r3,r4,r5,r6,r7,r8.mono hev1,r9,r10⟩
  -- the body is the record's,from the first look on
  have hbody:comp P hh n l.body=some y:=l6
  refine wpIn_mono (h1 o1 q1 (F:=Fence.wide.inRound b) (cd:=l.body) (n:=n) (G:=G1) (w:=w1.putObj b (.loop { r with state:=.busy })) (a:=a1) (B:=w.heap.size)
   (.inr ⟨b,rfl,l10⟩) hbody (q3.mono hev1) hw1.1 (q6.mono hev1.defs) (Nat.le_trans q5.size hev1.size)).wpIn fun e2 a2 w2 hp2=>?_
  obtain⟨o2,G2,p1,rfl,p3,p4,p5,p6⟩:=hp2;obtain⟨t0,tq⟩:=h2 o2 p1;have hev2:=(q5.trans hev1).trans p5;have hloc2:=hev2.loc _ _ hloc;obtain⟨z,n2,z1,z2,z3,z4,z5,z6,z7,z8,z9,z10⟩:=p4.blk _ _ _ hloc2 t0;have fin:∀ (jump:Option Code),jump=o2.j.map MQ->∃ v w',(Instr.endRound b jump).run P w2 = .ok v w'/\∃ v',Ending.returned v = .returned v'/\next (a.put o.dst v') w':=by
   intro jump hj;have hp2:=tB w2 b (.loop { z with state:=if jump.isNone then .ready else .done,pending:=jump });have hev3:Evo G2 w2 G2 (w2.putObj b (.loop { z with state:=if jump.isNone then .ready else .done,pending:=jump })):=nT hp2 (p4.fresh _ _ hloc2).2.2.1;have hnone:jump.isNone=decide (o2.j=none):=by rw[hj];cases o2.j<;>rfl
   have hw2:=p4.write (y:=.loop (if o2.j=none then .ready else .done) o2.j env ps x y) hloc2 hp2 t0 (fun _ _ _ e=>by cases e)
    ⟨{ z with state:=if jump.isNone then .ready else .done,pending:=jump },n2,J4 z1,by
     simp only[hnone]
     by_cases hq:o2.j=none<;>simp[hq,aME],hj,z4,z5,z6,z7,z8.mono hev3,z9,z10⟩
   refine⟨_,_,run_endRound jump z1,_,rfl,?_⟩;refine hnext _ G2 _ (.bool jump.isNone) tq ?_ hw2.1 (hev2.trans hev3);rw[hnone];exact .bool _
  cases hj:o2.j with
  |none =>
   obtain⟨v,w3,g1,v',g2,g3⟩:=fin none (by rw[hj];rfl);cases g2;exact⟨v,w3,g1,g3⟩
  |some j =>
   cases j with
   |ret =>
    obtain⟨v,w3,g1,v',g2,g3⟩:=fin (some .ret) (by rw[hj];rfl);cases g2;exact⟨v,w3,g1,g3⟩
   |exit id' =>
    obtain⟨v,w3,g1,v',g2,g3⟩:=fin (some (.exit id')) (by rw[hj];rfl);cases g2;exact⟨v,w3,g1,g3⟩
theorem eL.same{tmps:Array Value}(h:eL G w n env' tmps)(he:∀ t,Env.get env t=Env.get env' t):eL G w n env tmps:=⟨h.1,fun t=>by rw[he];exact h.2 t⟩
theorem OG{c:ACode}(he:∀ t,Env.get env t=Env.get env' t)(h:cO P hh (.code c env' σ) Q):cO P hh (.code c env σ) Q:=by
 intro F n cd G w a B f1 f2 f3 f4 f5 f6;exact h f1 f2 (f3.same fun t=>(he t).symm) f4 f5 f6
theorem N1{os:List AOper}(he:∀ t,Env.get env t=Env.get env' t)(h:cO P hh (.ops os env' σ) Q):cO P hh (.ops os env σ) Q:=by
 intro F n ops l G w a B R f1 f2 f3 f4 f5 f6;exact h f1 f2 (f3.same fun t=>(he t).symm) f4 f5 f6
theorem R7{c:ACode}(he:∀ t,Env.get env' t = .undef\/Env.get env' t=Env.get env t\/Env.get env' t=clr (Env.get env t))(h:cO P hh (.code c env' σ) Q):cO P hh (.code c env σ) Q:=by
 intro F n cd G w a B f1 f2 f3 f4 f5 f6;refine h f1 f2 ⟨f3.1,fun t=>?_⟩ f4 f5 f6;rcases he t with e|e|e
 ·rw[e];exact .undef _
 ·rw[e];exact f3.2 t
 ·rw[e];exact (f3.2 t).clr
theorem aNQ{T:FuncId->Option AFunc}(hT:∀ f af,T f=some af->∃ fn,P.funcs[f]? = some fn/\lB P hh fn=some af){t:Task}(h:Run T t Q):cO P hh t Q:=by
 induction h with
 |mono _ hq ih=>exact T0 ih hq
 |skip h=>exact TU h
 |jump h=>exact TX h
 |seq _ _ h2 ih ih1=>exact aBH ih ih1 h2
 |cond b hc _ ih=>exact T8 b hc ih
 |block _ h1 ih=>exact NY ih h1
 |loop _ _ h2 ih ih1=>exact RO ih ih1 h2
 |scope _ ih=>exact OH ih
 |reg _ ih=>exact aB8 ih fun _ _=>trivial
 |dreg _ ih=>exact TC ih
 |rangeFunc hf _ h1 ih=>exact CL hf ih h1
 |trim _ h1 ih=>exact RL ih h1
 |trim2 _ h1 ih=>exact N5 ih h1
 |frame hf h0 _ h1 ih=>exact L8 hf h0 ih h1
 |frameS hf h0 _ h1 ih=>exact LN hf h0 ih h1
 |chainNil h=>exact DQ h
 |chainCons _ _ h2 ih ih1=>exact DD ih ih1 h2
 |chain _ h1 h2 _ ih ih1=>exact LR ih h1 h2 ih1
 |ghost t sz xs ht _ ih=>exact M8 t sz xs ht ih
 |reenv he _ ih=>exact OG he ih
 |weak he _ ih=>exact R7 he ih
 |reops he _ ih=>exact N1 he ih
 |nil h=>exact aCI h
 |off hw _ ih=>exact V1 hw ih
 |step hw ha _ ih=>exact SV hw ha ih
 |stepc hw ho _ _ ih ih1=>exact OJ hw ho ih ih1
 |stepm hw ho hx hl he hn _ _ ih0 ih1=>exact NV hw ho hx hl he hn ih0 ih1
 |dnil hr h=>exact RS hr h
 |doff hw _ ih=>exact SJ hw ih
 |dalloc hw ho _ ih=>exact JL hw ho ih
 |dpure hw hk ha _ ih=>exact L9 hw hk ha ih
 |dread hw hk ha _ ih=>exact OL hw hk ih
 |dact hw hk ha _ ih=>exact UA hw hk ha ih
 |dcall hw ho _ _ ih ih1=>exact N6 hw ho ih ih1
 |callf _ ih=>exact D5 ih
 |round hl hn _ h0 _ h2 ih ih1=>exact NG hl hn ih h0 ih1 h2
 |call hf hn _ h1 ih=>exact SM hT hf hn ih h1
end Go.Am
namespace Go.Am
variable {P:Program} {hh:String->Bool}
def Gh.start(w:World):Gh:=⟨fun _=>none,fun _=>none,fun _=>none,fun _=>none,fun _=>False,w.heap.size,w.heap,fun _=>none⟩
end Go.Am
namespace Go.Am
open Go.ChangeShapes Go.WideShapes Go.ChangeAt Go.RowKit
variable {P:Program} {hh:String->Bool} {H:Type} {enc:TypeId×Value->H} {w:World} {sp:Nat->Bool} {held:Bool}
def mkV(P:Program)(t:TypeId)(cs:List AV):AV:=match P.underlying t with
 |some (.struct _)=>.agg cs
 |some (.array _ _)=>.agg cs
 |_=>cs.headD .undef
def Typ(P:Program):Nat->TypeId->List AV->Prop
 |0,_,_=>False
 |n+1,t,cs =>
  match P.underlying t with
  |some .bool=>∃ b,cs=[.bool b]
  |some (.int k)=>∃ m,cs=[.int k m]/\(Lit.int k m).wf=true
  |some .string=>∃ s:ByteArray,cs=[.str s]/\s.size<=maxLen
  |some (.slice e)=>∃ ys:List (List AV),cs=[.lit (ys.map (mkV P e)) false none]/\(ys.length<=maxLen/\ys.length*P.bytesOf e<=reachBytes)/\∀ y∈ys,Typ P n e y
  |some (.struct fs)=>∃ parts:List (List AV),cs=parts.flatten/\parts.length=fs.toList.length/\∀ (i:Nat) f p,fs.toList[i]? = some f->parts[i]? = some p->Typ P n f.type p
  |some (.array k e)=>∃ parts:List (List AV),cs=parts.flatten/\parts.length=k/\∀ p∈parts,Typ P n e p
  |_=>False
def NR(P:Program):Nat->TypeId->Bool
 |0,_=>false
 |n+1,t =>
  match P.underlying t with
  |some .bool|some (.int _)|some .string=>true
  |some (.slice e)=>decide (0<P.cellsOf e)&&NR P n e
  |some (.struct fs)=>fs.toList.all fun f=>NR P n f.type
  |some (.array _ e)=>NR P n e
  |_=>false
def XQ(w:World)(b:Nat):Option Nat:=match w.heap[b]? with
 |some (.cells vs _ _)=>some vs.size
 |_=>none
noncomputable def DF(w:World):Gh:=(Gh.start w).fresh0 w (XQ w) fun b=>∃ L,XQ w b=some L
theorem aBS(w:World):RelS P hh (DF w) w []:=vS fun b L e=>by
 refine⟨⟨L,e⟩,?_⟩;unfold XQ at e;split at e
 ·rename_i vs T fr h;simp only[Option.some.injEq] at e;exact⟨vs,T,fr,h,by omega⟩
 ·cases e
def xT(G:Gh)(w:World)(az:List AV)(cs:List Value):Prop:=az.length=cs.length/\∀ (i:Nat) a v,az[i]? = some a->cs[i]? = some v->RelV G w a v
theorem xT.nil{G:Gh}:xT G w [] []:=⟨rfl,by simp⟩
theorem xT.app{G:Gh}{az bs:List AV}{cs ds:List Value}(h:xT G w az cs)(k:xT G w bs ds):xT G w (az++bs) (cs++ds):=by
 refine⟨by simp[h.1,k.1],fun i a v e1 e2=>?_⟩;by_cases hi:i<az.length
 ·rw[List.getElem?_append_left hi] at e1;rw[List.getElem?_append_left (by rw[<-h.1];exact hi)] at e2;exact h.2 i a v e1 e2
 ·rw[List.getElem?_append_right (by omega)] at e1;rw[List.getElem?_append_right (by rw[<-h.1];omega),<-h.1] at e2;exact k.2 _ a v e1 e2
theorem xT.one{G:Gh}{a:AV}{v:Value}(h:RelV G w a v):xT G w [a] [v]:=⟨rfl,fun i x u e1 e2=>by
 cases i with
 |zero=>simp at e1 e2;subst e1;subst e2;exact h
 |succ i=>simp at e1⟩
theorem S5{n:Nat}{t:TypeId}{cs:List AV}(h:Typ P n t cs):(mkV P t cs).cells=cs:=by
 cases n with
 |zero=>exact h.elim
 |succ n =>
  simp only[Typ] at h;unfold mkV;split at h
  ·rename_i hu;rw[hu];obtain⟨b,rfl⟩:=h;rfl
  ·rename_i hu;rw[hu];obtain⟨b,rfl,_⟩:=h;rfl
  ·rename_i hu;rw[hu];obtain⟨b,rfl,_⟩:=h;rfl
  ·rename_i hu;rw[hu];obtain⟨b,rfl,_⟩:=h;rfl
  ·rename_i hu;rw[hu];rfl
  ·rename_i hu;rw[hu];rfl
  ·exact h.elim
theorem aBY{a:Addr}{v:Value}(h:w.cell? a=some v)(n:Nat):a.add n=⟨a.block,a.off+n,none⟩:=by
 have hs:a.spot=none:=by
  unfold World.cell? at h;split at h
  ·split at h
   ·cases h
   ·rename_i hs;simpa using hs
  ·cases h
 obtain⟨b,o,s⟩:=a;simp only at hs;subst hs;unfold Addr.add;split
 ·rename_i h0;simp[h0]
 ·rfl
theorem aE5{b o:Nat}{v:Value}(h:w.cell? ⟨b,o,none⟩=some v):∃ L,XQ w b=some L/\o<L:=by
 unfold World.cell? at h;split at h
 ·rename_i c T fr hb;refine⟨c.size,by simp only at hb;simp[XQ,hb],?_⟩;simp at h;exact (Array.getElem?_eq_some_iff.1 h).1
 ·cases h
theorem aC3{G:Gh}{n:Nat}{cs:List Value}:∀ (fl:List Field) (o:Nat),(∀ (j:Nat) f,fl[j]? = some f->f.offset=o+((fl.take j).map fun f=>P.cellsOf f.type).sum)->cs.length=o+(fl.map fun f=>P.cellsOf f.type).sum ->
  (∀ f∈fl,∃ az,Typ P n f.type az/\xT G w az ((cs.drop f.offset).take (P.cellsOf f.type))) ->
  ∃ parts:List (List AV),parts.length=fl.length/\(∀ (i:Nat) f p,fl[i]? = some f->parts[i]? = some p->Typ P n f.type p)/\xT G w parts.flatten (cs.drop o)
 |[],o,_,hl,_=>⟨[],rfl,by simp,by
   have:cs.drop o=[]:=List.drop_of_length_le (by simp at hl;omega)
   rw[this];exact .nil⟩
 |f::fl,o,ho,hl,ht=>by
  have h0:=ho 0 f rfl;simp only[List.take_zero,List.map_nil,List.sum_nil,Nat.add_zero] at h0;simp only[List.map_cons,List.sum_cons] at hl;obtain⟨az,h1,h2⟩:=ht f (by simp)
  obtain⟨parts,q1,q2,q3⟩:=aC3 fl (o+P.cellsOf f.type) (fun j g hj=>by
   have:=ho (j+1) g (by simpa using hj);simp only[List.take_succ_cons,List.map_cons,List.sum_cons] at this
   omega) (by omega) fun g hg=>ht g (List.mem_cons_of_mem _ hg)
  refine⟨az::parts,by simp[q1],fun i g p e1 e2=>?_,?_⟩
  ·cases i with
   |zero=>simp at e1 e2;subst e1;subst e2;exact h1
   |succ i=>exact q2 i g p (by simpa using e1) (by simpa using e2)
  ·rw[List.flatten_cons];have e:cs.drop o=(cs.drop o).take (P.cellsOf f.type)++cs.drop (o+P.cellsOf f.type):=by
    rw[<-List.drop_drop,List.take_append_drop]
   rw[e];rw[h0] at h2;exact h2.app q3
theorem aIS{G:Gh}{m:Nat}{e:TypeId}{cs:List Value}:∀ (n o:Nat),cs.length=o+n*P.cellsOf e ->
  (∀ i,i<n->∃ az,Typ P m e az/\xT G w az ((cs.drop (o+i*P.cellsOf e)).take (P.cellsOf e)))->∃ parts:List (List AV),parts.length=n/\(∀ p∈parts,Typ P m e p)/\xT G w parts.flatten (cs.drop o)
 |0,o,hl,_=>⟨[],rfl,by simp,by
   have:cs.drop o=[]:=List.drop_of_length_le (by simp at hl;omega)
   rw[this];exact .nil⟩
 |n+1,o,hl,ht=>by
  obtain⟨az,h1,h2⟩:=ht 0 (by omega);rw[Nat.zero_mul,Nat.add_zero] at h2;rw[Nat.add_mul,Nat.one_mul] at hl;obtain⟨parts,q1,q2,q3⟩:=aIS (e:=e) (cs:=cs) (m:=m) n (o+P.cellsOf e) (by omega) fun i hi=>by
   obtain⟨az,k1,k2⟩:=ht (i+1) (by omega);rw[Nat.add_mul,Nat.one_mul,Nat.add_comm (i*_),<-Nat.add_assoc] at k2;exact⟨az,k1,k2⟩
  refine⟨az::parts,by simp[q1],fun p hp=>?_,?_⟩
  ·rcases List.mem_cons.1 hp with rfl|hp
   ·exact h1
   ·exact q2 p hp
  ·rw[List.flatten_cons];have e1:cs.drop o=(cs.drop o).take (P.cellsOf e)++cs.drop (o+P.cellsOf e):=by
    rw[<-List.drop_drop,List.take_append_drop]
   rw[e1];exact h2.app q3
theorem AF{α:Type}{Q:Nat->α->Prop}:∀ n,(∀ i,i<n->∃ x,Q i x)->∃ l:List α,l.length=n/\∀ (i:Nat) x,l[i]? = some x->Q i x
 |0,_=>⟨[],rfl,by simp⟩
 |n+1,h=>by
  obtain⟨l,h1,h2⟩:=AF n fun i hi=>h i (by omega)
  obtain⟨x,hx⟩:=h n (by omega);refine⟨l++[x],by simp[h1],fun i y e=>?_⟩;by_cases hi:i<l.length
  ·rw[List.getElem?_append_left hi] at e;exact h2 i y e
  ·rw[List.getElem?_append_right (by omega)] at e;have:i-l.length=0:=by
    by_cases h0:i-l.length=0
    ·exact h0
    ·rw[List.getElem?_eq_none (by simp;omega)] at e;cases e
   rw[this] at e;simp at e;subst e;rw[show i=n by omega];exact hx
theorem oZ(hl:laidOutB P=true):∀ (n m:Nat) (t:TypeId) (cs:List Value) (x:DataW H×List MemPlace),t<P.types.size->NR P n t=true->DataW.trod enc P w 0 sp held m t cs=some x->(∀ k∈x.1.weights P t,k<=reachBytes) ->
  ∃ az,Typ P n t az/\xT (DF w) w az cs
 |0,m,t,cs,x,_,ho,_,_=>by simp[NR] at ho
 |n+1,m,t,cs,x,ht,ho,h,hwt=>by
  simp only[NR] at ho;split at ho
  ·rename_i hu;obtain⟨b,rfl,_⟩:=DataW.trod_bool hu h;exact⟨[.bool b],by simp only[Typ,hu];exact⟨b,rfl⟩,.one (.bool b)⟩
  ·rename_i k hu;obtain⟨b,rfl,_,hw⟩:=DataW.trod_int hu h;exact⟨[.int k b],by simp only[Typ,hu];exact⟨b,rfl,hw⟩,.one (.int k b)⟩
  ·rename_i hu;obtain⟨s,rfl,_,hs⟩:=DataW.trod_string hu h;exact⟨[.str s],by simp only[Typ,hu];exact⟨s,rfl,hs⟩,.one (.str s)⟩
  ·rename_i e hu;simp only[Bool.and_eq_true,decide_eq_true_eq] at ho;rcases DataW.trod_slice hu h with⟨rfl,_⟩|⟨a,len,cap,elems,rest,m',_,rfl,hxe,_,hlc,hcm,hel,hei,_,_⟩
   ·refine⟨[.lit [] false none],by simp only[Typ,hu];exact⟨[],rfl,⟨by simp,by simp⟩,by simp⟩,.one (.nil ⟨Nat.le_refl _,(fun e=>by cases e),(fun t e=>by cases e)⟩ fun _=>rfl)⟩
   ·
    have hws:∀ k∈x.1.weights P t,k<=reachBytes:=hwt;rw[hxe] at hws;simp only[DataW.weights,hu,List.mem_cons,List.mem_append,List.length_map] at hws;have hwl:len*P.bytesOf e<=reachBytes:=by
     have h1:=hws _ (.inl rfl);rw[hel] at h1;exact Nat.le_trans (Nat.mul_le_mul_right _ (Nat.le_add_right _ _)) h1
    have hwe:∀ (d:DataW H),d∈elems.map (·.1)->∀ k∈d.weights P e,k<=reachBytes:=by
     have key:∀ (l:List (DataW H)) (d:DataW H),d∈l->∀ k∈d.weights P e,k∈DataW.weightsAll P e l:=by
      intro l
      induction l with
      |nil=>intro d hd;cases hd
      |cons a l ih =>
       intro d hd k hk;simp only[DataW.weightsAll,List.mem_append];rcases List.mem_cons.1 hd with rfl|hd
       ·exact .inl hk
       ·exact .inr (ih d hd k hk)
     exact fun d hd k hk=>hws k (.inr (.inl (key _ d hd k hk)))
    have hel2:∀ i,i<len->∃ y,Typ P n e y/\∃ vs,w.cells? 0 (a.add (i*P.cellsOf e)) (P.cellsOf e)=some vs/\xT (DF w) w y vs:=by
     intro i hi;have h1:=hei i hi;rw[List.getElem?_eq_getElem (by omega),Option.bind_eq_some_iff] at h1;obtain⟨vs,q1,q2⟩:=h1;obtain⟨y,q3,q4⟩:=oZ hl n m' e vs _ (kid_slice hl ht hu) ho.2 q2 (hwe _ (List.mem_map.2 ⟨_,List.getElem_mem (by omega),rfl⟩));exact⟨y,q3,vs,q1,q4⟩
    obtain⟨ys,hyl,hys⟩:=AF len hel2
    refine⟨[.lit (ys.map (mkV P e)) false none],by
     simp only[Typ,hu];refine⟨ys,rfl,⟨by omega,by rw[hyl];exact hwl⟩,fun y hy=>?_⟩;obtain⟨i,hi⟩:=List.getElem?_of_mem hy
     exact (hys i y hi).1,.one ?_⟩
    by_cases h0:len=0
    ·subst h0;obtain rfl:ys=[]:=List.eq_nil_of_length_eq_zero hyl;exact .nil ⟨Nat.zero_le _,(fun e=>by cases e),(fun t e=>by cases e)⟩ fun e=>by cases e
    ·
     have hcell:∀ i j,i<len->j<P.cellsOf e->∃ v,w.cell? ((a.add (i*P.cellsOf e)).add j)=some v:=by
      intro i j hi hj;obtain⟨y,_,vs,q1,_⟩:=hel2 i hi;simp only[World.cells?,Nat.zero_le,if_true] at q1;have hlen:=mapM_some_length q1;have:=mapM_some_get q1 j j (by simp[hj]);rw[List.length_range] at hlen;rw[List.getElem?_eq_getElem (by omega)] at this;exact⟨_,this⟩
     obtain⟨v0,hv0⟩:=hcell 0 0 (by omega) ho.1;rw[Nat.zero_mul] at hv0;have ha0:a.add 0=a:=by simp[Addr.add]
     rw[ha0,ha0] at hv0;have hplain:∀ i,a.add i=⟨a.block,a.off+i,none⟩:=aBY hv0;have hae:a=⟨a.block,a.off,none⟩:=by have:=hplain 0;rw[ha0] at this;simpa using this
     have hplain2:∀ i j,(a.add i).add j=⟨a.block,a.off+(i+j),none⟩:=by
      intro i j;rw[hplain];unfold Addr.add;split
      ·rename_i h;simp[h]
      ·simp[Nat.add_assoc]
     have hcell2:∀ i j,i<len->j<P.cellsOf e->∃ v,w.cell? ⟨a.block,a.off+(i*P.cellsOf e+j),none⟩=some v:=by
      intro i j hi hj;have:=hcell i j hi hj;rw[hplain2] at this;exact this
     rw[hae,show len=(ys.map (mkV P e)).length by simp[hyl]];have hsz:∀ (i:Nat) (x:AV),(ys.map (mkV P e))[i]? = some x->∃ y,ys[i]? = some y/\x=mkV P e y/\x.cells=y:=by
      intro i x hx;rw[List.getElem?_map] at hx;cases hy:ys[i]? with
      |none=>rw[hy] at hx;cases hx
      |some y =>
       rw[hy] at hx;simp at hx;exact⟨y,rfl,hx.symm,by rw[<-hx,S5 (hys i y hy).1]⟩
     have hvl:∀ (i:Nat) y,ys[i]? = some y->y.length=P.cellsOf e:=by
      intro i y hy;obtain⟨_,vs,q1,q2⟩:=hys i y hy;rw[q2.1];simp only[World.cells?,Nat.zero_le,if_true] at q1;rw[mapM_some_length q1,List.length_range]
     refine .lit (sz:=P.cellsOf e) ⟨by simp;omega,(fun e=>by cases e),(fun t e=>by cases e)⟩ ⟨?_,(fun t e=>by cases e),fun i x hx=>?_,fun k hk=>?_⟩ fun i x j c u hx hc hu2=>?_
     ·obtain⟨v,hv⟩:=hcell2 (len-1) (P.cellsOf e-1) (by omega) (by omega);obtain⟨L,q1,q2⟩:=aE5 hv;refine⟨L,q1,?_⟩;rw[List.length_map,hyl];have:(len-1)*P.cellsOf e+P.cellsOf e=len*P.cellsOf e:=by
       rw[<-Nat.succ_mul];congr 1;omega
      omega
     ·obtain⟨y,q1,q2,q3⟩:=hsz i x hx;rw[q3];exact hvl i y q1
     ·rw[List.length_map,hyl] at hk;have hd:k/P.cellsOf e<len:=Nat.div_lt_of_lt_mul (by rw[Nat.mul_comm];exact hk);have hm:k%P.cellsOf e<P.cellsOf e:=Nat.mod_lt _ ho.1;obtain⟨v,hv⟩:=hcell2 _ _ hd hm;have:k/P.cellsOf e*P.cellsOf e+k%P.cellsOf e=k:=by rw[Nat.mul_comm];exact Nat.div_add_mod _ _
      rw[this] at hv;rw[hv];rfl
     ·obtain⟨y,q1,q2,q3⟩:=hsz i x hx;rw[q3] at hc;obtain⟨_,vs,p1,p2⟩:=hys i y q1;have hjl:j<P.cellsOf e:=by
       rw[<-hvl i y q1];exact (List.getElem?_eq_some_iff.1 hc).1
      simp only[World.cells?,Nat.zero_le,if_true] at p1;have hg:=mapM_some_get p1 j j (by simp[hjl]);rw[hplain2] at hg;rw[hu2] at hg;exact p2.2 j c u hc hg.symm
  ·rename_i fs hu;rw[List.all_eq_true] at ho;obtain⟨xs,m',_,hxe,hcl,hxl,hf⟩:=DataW.trod_struct hu h;obtain⟨k1,k2,k3⟩:=kid_struct hl ht hu;obtain⟨parts,q1,q2,q3⟩:=aC3 (P:=P) (G:=DF w) (w:=w) (n:=n) (cs:=cs) fs.toList 0 (fun j f hj=>by rw[k3 j f hj];omega) (by rw[hcl,k2];omega) fun f hfm=>by
    obtain⟨i,hi⟩:=List.getElem?_of_mem hfm;have h1:=hf i f (by simpa using hi);have hil:i<xs.length:=by rw[hxl];have:=(List.getElem?_eq_some_iff.1 hi).1;simpa using this
    rw[List.getElem?_eq_getElem hil] at h1;have hd:(xs.map (·.1))[i]? = some xs[i].1:=by rw[List.getElem?_map,List.getElem?_eq_getElem hil];rfl
    have hty:(fs.toList.map (·.type))[i]? = some f.type:=by rw[List.getElem?_map,hi];rfl
    refine oZ hl n m' f.type _ _ (k1 f hfm) (ho f hfm) h1 fun k hk=>hwt k ?_
    rw[hxe];simp only[DataW.weights,hu];exact DataW.weights_mem_each hty hd k hk
   rw[List.drop_zero] at q3;exact⟨parts.flatten,by simp only[Typ,hu];exact⟨parts,rfl,q1,q2⟩,q3⟩
  ·rename_i k e hu;obtain⟨xs,m',_,hxe,hcl,hxl,hf⟩:=DataW.trod_array hu h;obtain⟨k1,k2⟩:=kid_array hl ht hu;have hwe:∀ (d:DataW H),d∈xs.map (·.1)->∀ q∈d.weights P e,q<=reachBytes:=by
    have key:∀ (l:List (DataW H)) (d:DataW H),d∈l->∀ q∈d.weights P e,q∈DataW.weightsAll P e l:=by
     intro l
     induction l with
     |nil=>intro d hd;cases hd
     |cons a l ih =>
      intro d hd q hq;simp only[DataW.weightsAll,List.mem_append];rcases List.mem_cons.1 hd with rfl|hd
      ·exact .inl hq
      ·exact .inr (ih d hd q hq)
    intro d hd q hq;refine hwt q ?_;rw[hxe];simp only[DataW.weights,hu];exact key _ d hd q hq
   obtain⟨parts,q1,q2,q3⟩:=aIS (P:=P) (G:=DF w) (w:=w) (m:=n) (e:=e) (cs:=cs) k 0 (by rw[hcl,k2];omega) fun i hi=>by
    have h1:=hf i hi;have hil:i<xs.length:=by omega
    rw[List.getElem?_eq_getElem hil] at h1;rw[Nat.zero_add];exact oZ hl n m' e _ _ k1 ho h1 (hwe _ (List.mem_map.2 ⟨_,List.getElem_mem hil,rfl⟩))
   rw[List.drop_zero] at q3;exact⟨parts.flatten,by simp only[Typ,hu];exact⟨parts,rfl,q1,q2⟩,q3⟩
  ·cases ho
theorem zN(hl:laidOutB P=true)(n:Nat){t:TypeId}{v:Value}{d:DataW H}{ps:List MemPlace}(ht:t<P.types.size)(ho:NR P n t=true)(hv:Value.okWide P w .any 0 t v)(h:DataW.Trod enc P w 0 sp held t v d ps)(hwt:∀ k∈d.weights P t,k<=reachBytes):
  ∃ az,Typ P n t az/\RelV (DF w) w (mkV P t az) v:=by
 obtain⟨m,hm⟩:=h;obtain⟨az,h1,h2⟩:=oZ hl n m t _ _ ht ho hm hwt;refine⟨az,h1,?_⟩;have hone:∀ {a:AV},az=[a]->(∀ cs,v≠.agg cs)->RelV (DF w) w a v:=by
  rintro a rfl hx;have hc:v.cells.toList=[v]:=by cases v<;>first|rfl|exact absurd rfl (hx _)
  rw[hc] at h2;exact h2.2 0 a v rfl rfl
 cases n with
 |zero=>exact h1.elim
 |succ n =>
  unfold mkV;simp only[Typ] at h1;split at h1<;>rename_i hu
  ·obtain⟨b,rfl⟩:=h1;rw[hu];obtain⟨c,hc⟩:=okWide_bool hu hv;exact hone rfl (by rw[hc];intro cs e;cases e)
  ·obtain⟨b,rfl,_⟩:=h1;rw[hu];obtain⟨c,hc⟩:=okWide_int hu hv;exact hone rfl (by rw[hc];intro cs e;cases e)
  ·obtain⟨b,rfl,_⟩:=h1;rw[hu];obtain⟨c,hc⟩:=okWide_string hu hv;exact hone rfl (by rw[hc];intro cs e;cases e)
  ·obtain⟨b,rfl,_⟩:=h1;rw[hu];obtain⟨_,_,_,hc⟩:=okWide_slice hu hv;exact hone rfl (by rw[hc];intro cs e;cases e)
  ·rw[hu];unfold Value.okWide at hv;rw[hu] at hv;obtain⟨cs,rfl,_,_⟩:=hv;refine .agg ?_ fun i a u e1 e2=>?_
   ·have:=h2.1;simpa[Value.cells] using this.symm
   ·exact h2.2 i a u e1 (by simpa[Value.cells] using e2)
  ·rw[hu];unfold Value.okWide at hv;rw[hu] at hv;obtain⟨cs,rfl,_,_⟩:=hv;refine .agg ?_ fun i a u e1 e2=>?_
   ·have:=h2.1;simpa[Value.cells] using this.symm
   ·exact h2.2 i a u e1 (by simpa[Value.cells] using e2)
  ·exact h1.elim
theorem D4{T:FuncId->Option AFunc}(hT:∀ f af,T f=some af->∃ fn,P.funcs[f]? = some fn/\lB P hh fn=some af){f:FuncId}{az:List AV}{vs:Array Value}{w:World}(ha:fF (DF w) w az vs)(h:Run T (.call f az []) fun o=>o.v = .bool true):
  Calls P f vs w fun e w'=>e = .returned (.bool true)/\RowKit.Below w.heap.size w w':=by
 have hs:=aNQ hT h;refine (callsIn_wide.1 (hs.2 (G:=DF w) (w:=w) (vs:=vs) ha (aBS w))).mono fun e w' hr=>?_
 obtain⟨r,G',u,rfl,q1,q2,q3,q4⟩:=hr;rw[q1] at q2;cases q2;refine⟨rfl,q4.os,q4.tape,q4.output,q4.size,fun k hk=>?_⟩;have hB:G'.B0=w.heap.size:=q4.B0;have hh0:G'.h0=(DF w).h0:=q4.h0;rw[q3.base k (by rw[hB];exact hk),hh0];simp only[DF,Gh.fresh0];rw[Array.getElem?_append_left hk]
theorem ID{G:Gh}:fF G w [] #[]:=⟨rfl,by simp⟩
theorem wM{G:Gh}{a:AV}{v:Value}{az:List AV}{vs:List Value}(h:RelV G w a v)(hs:fF G w az vs.toArray):fF G w (a::az) (v::vs).toArray:=by
 refine⟨by have:=hs.1;simp at this;simp[this],fun i x u e1 e2=>?_⟩;cases i with
 |zero=>simp at e1 e2;subst e1;subst e2;exact h
 |succ i=>exact hs.2 i x u (by simpa using e1) (by simpa using e2)
def FK(P:Program)(n:Nat):List TypeId->List AV->Prop
 |[],cs=>cs=[]
 |t::ts,cs=>∃ a b,cs=a++b/\Typ P n t a/\FK P n ts b
theorem JG{n:Nat}:∀ (fl:List Field) (parts:List (List AV)),parts.length=fl.length->(∀ (i:Nat) f p,fl[i]? = some f->parts[i]? = some p->Typ P n f.type p)->FK P n (fl.map Field.type) parts.flatten
 |[],parts,hl,_=>by rw[List.length_eq_zero_iff.1 hl];rfl
 |f::fl,[],hl,_=>by simp at hl
 |f::fl,p::parts,hl,h=>⟨p,parts.flatten,rfl,h 0 f p rfl rfl,JG fl parts (by simpa using hl) fun i g q e1 e2=>h (i+1) g q (by simpa using e1) (by simpa using e2)⟩
theorem M9{n:Nat}{t:TypeId}{fs:Array Field}{cs:List AV}(hu:P.underlying t=some (.struct fs))(h:Typ P (n+1) t cs):FK P n (fs.toList.map Field.type) cs:=by
 simp only[Typ,hu] at h;obtain⟨parts,rfl,h1,h2⟩:=h;exact JG fs.toList parts h1 h2
theorem lZ{n:Nat}{t:TypeId}{k:IntKind}{cs:List AV}(hu:P.underlying t=some (.int k))(h:Typ P (n+1) t cs):∃ m,cs=[.int k m]/\(Lit.int k m).wf=true:=by
 simp only[Typ,hu] at h;exact h
theorem XD{n:Nat}{t:TypeId}{cs:List AV}(hu:P.underlying t=some .bool)(h:Typ P (n+1) t cs):∃ b,cs=[.bool b]:=by
 simp only[Typ,hu] at h;exact h
theorem uO{n:Nat}{t e:TypeId}{cs:List AV}{α:Type}{f:α->AV}{Q:α->Prop}(hu:P.underlying t=some (.slice e))(h:Typ P (n+1) t cs)(hq:∀ y,Typ P n e y->∃ x,mkV P e y=f x/\Q x):∃ l:List α,cs=[.lit (l.map f) false none]/\(l.length<9223372036854775808/\l.length*P.bytesOf e<=reachBytes)/\∀ x∈l,Q x:=by
 simp only[Typ,hu] at h;obtain⟨ys,rfl,⟨h1,h1b⟩,h2⟩:=h;have key:∀ ys:List (List AV),(∀ y∈ys,Typ P n e y)->∃ l:List α,ys.map (mkV P e)=l.map f/\l.length=ys.length/\∀ x∈l,Q x:=by
  intro ys
  induction ys with
  |nil=>intro _;exact⟨[],rfl,rfl,by simp⟩
  |cons y ys ih =>
   intro hy;obtain⟨x,q1,q2⟩:=hq y (hy y (by simp));obtain⟨l,q3,q4,q5⟩:=ih fun z hz=>hy z (List.mem_cons_of_mem _ hz)
   exact⟨x::l,by simp[q1,q3],by simp[q4],fun z hz=>by
    rcases List.mem_cons.1 hz with rfl|hz
    ·exact q2
    ·exact q5 z hz⟩
 obtain⟨l,q1,q2,q3⟩:=key ys h2;exact⟨l,by rw[q1],⟨by simp only[maxLen] at h1;omega,by rw[q2];exact h1b⟩,q3⟩
theorem RI{n k:Nat}{t e:TypeId}{cs:List AV}(hu:P.underlying t=some (.array k e))(h:Typ P (n+1) t cs):FK P n (List.replicate k e) cs:=by
 simp only[Typ,hu] at h;obtain⟨parts,rfl,rfl,h2⟩:=h;have key:∀ parts:List (List AV),(∀ p∈parts,Typ P n e p)->FK P n (List.replicate parts.length e) parts.flatten:=by
  intro parts
  induction parts with
  |nil=>intro _;rfl
  |cons p parts ih=>intro hp;exact⟨p,parts.flatten,rfl,hp p (by simp),ih fun q hq=>hp q (List.mem_cons_of_mem _ hq)⟩
 exact key parts h2
theorem RP{k:Nat}{t e:TypeId}{cs:List AV}(hu:P.underlying t=some (.array k e)):mkV P t cs = .agg cs:=by simp[mkV,hu]
theorem OU{t:TypeId}{fs:Array Field}{cs:List AV}(hu:P.underlying t=some (.struct fs)):mkV P t cs = .agg cs:=by simp[mkV,hu]
theorem aDQ{t:TypeId}{a:AV}(hu:∀ fs,P.underlying t≠some (.struct fs))(hu2:∀ k e,P.underlying t≠some (.array k e)):mkV P t [a]=a:=by
 unfold mkV;split
 ·rename_i fs h;exact absurd h (hu fs)
 ·rename_i k e h;exact absurd h (hu2 k e)
 ·rfl
theorem aIP{m:Int}(h:(Lit.int .u8 m).wf=true):0<=m/\m<256:=by
 simp[Lit.wf,IntKind.min,IntKind.max,IntKind.signed,IntKind.bits] at h;omega
end Go.Am
namespace Go.Am
variable {T:FuncId->Option AFunc}
def mY(r:Option (AV×St))(K:AV->St->Prop):Prop :=
 match r with
 |some (v,σ)=>K v σ
 |none=>False
@[congr] theorem aIU{r r':Option (AV×St)}{K:AV->St->Prop}(h:r=r'):mY r K=mY r' K:=by rw[h]
@[simp] theorem aLW(v:AV)(σ:St)(K:AV->St->Prop):mY (some (v,σ)) K=K v σ:=rfl
@[simp] theorem aIZ(K:AV->St->Prop):mY none K=False:=rfl
@[simp] theorem aNL(c:Prop)[Decidable c](r q:Option (AV×St))(K:AV->St->Prop):mY (if c then r else q) K=if c then mY r K else mY q K:=by split<;>rfl
def CQ(v:AV)(A B:Unit->Prop):Prop :=
 match v with
 |.bool true=>A ()
 |.bool false=>B ()
 |_=>False
@[congr] theorem aIA{v v':AV}{A B:Unit->Prop}(h:v=v'):CQ v A B=CQ v' A B:=by rw[h]
@[simp] theorem aLS(b:Bool)(A B:Unit->Prop):CQ (.bool b) A B=if b=true then A () else B ():=by cases b<;>rfl
def oP(v:AV)(want:Bool)(A B:Unit->Prop):Prop :=
 match v with
 |.bool b=>if b=want then A () else B ()
 |.tuple []=>B ()
 |_=>False
@[congr] theorem aH0{v v':AV}{want:Bool}{A B:Unit->Prop}(h:v=v'):oP v want A B=oP v' want A B:=by rw[h]
@[simp] theorem aLA(b want:Bool)(A B:Unit->Prop):oP (.bool b) want A B=if b=want then A () else B ():=rfl
@[simp] theorem aNJ(want:Bool)(A B:Unit->Prop):oP (.tuple []) want A B=B ():=rfl
def PX(T:FuncId->Option AFunc)(f:AV)(args:List AV)(σ:St)(K:AV->St->Prop):Prop:=Run T (.callv f args σ) fun r=>K r.v r.σ
@[congr] theorem aIL{f f':AV}{args args':List AV}{σ σ':St}{K:AV->St->Prop}(h1:f=f')(h2:args=args')(h3:σ=σ'):PX T f args σ K=PX T f' args' σ' K:=by rw[h1,h2,h3]
def gM(T:FuncId->Option AFunc)(q:AOp)(e:Env)(σ:St)(K:AV->St->Prop):Prop :=
 match q with
 |.call f args=>PX T (f.ev e) (args.map (·.ev e)) σ K
 |q=>mY (aop q e σ) K
@[congr] theorem aMQ{q:AOp}{e e':Env}{σ σ':St}{K:AV->St->Prop}(h2:e=e')(h3:σ=σ'):gM T q e σ K=gM T q e' σ' K:=by rw[h2,h3]
def aI(T:FuncId->Option AFunc):List AOper->Env->St->(Env->St->Prop)->Prop
 |[],e,σ,K=>K e σ
 |⟨dst,q,none⟩::os,e,σ,K=>gM T q e σ fun v σ'=>aI T os (Env.put e dst v) σ' K
 |⟨dst,q,some (t,want)⟩::os,e,σ,K =>
  oP (Env.get e t) want (fun _=>gM T q e σ fun v σ'=>aI T os (Env.put e dst v) σ' K) (fun _=>aI T os (Env.put e dst (.tuple [])) σ K)
@[congr] theorem aHP{os:List AOper}{e e':Env}{σ σ':St}{K:Env->St->Prop}(h2:e=e')(h3:σ=σ'):aI T os e σ K=aI T os e' σ' K:=by rw[h2,h3]
theorem qT{Q:Out->Prop}:∀ {os:List AOper} {e:Env} {σ:St} {K:Env->St->Prop},aI T os e σ K->(∀ e σ,K e σ->Q ⟨none,e,σ,.undef⟩)->Run T (.ops os e σ) Q
 |[],e,σ,K,h,hq=>.nil (hq _ _ h)
 |o::os,e,σ,K,h,hq=>by
  have key:o.wanted e=some true->gM T o.op e σ (fun v σ'=>aI T os (Env.put e o.dst v) σ' K)->Run T (.ops (o::os) e σ) Q:=by
   intro hw h;by_cases hc:∃ f args,o.op = .call f args
   ·obtain⟨f,args,ho⟩:=hc;rw[ho] at h;exact .stepc hw ho h fun r hr=>qT hr hq
   ·have:∃ v σ',aop o.op e σ=some (v,σ')/\aI T os (Env.put e o.dst v) σ' K:=by
     unfold gM at h;split at h
     ·rename_i f args ho;exact absurd ⟨f,args,ho⟩ hc
     ·unfold mY at h;split at h
      ·rename_i v σ' hv;exact⟨v,σ',hv,h⟩
      ·exact h.elim
    obtain⟨v,σ',h1,h2⟩:=this;exact .step hw h1 (qT h2 hq)
  obtain⟨dst,q,g⟩:=o;cases g with
  |none=>exact key rfl h
  |some g =>
   obtain⟨t,want⟩:=g;simp only[aI,oP] at h;split at h
   ·rename_i b h1;split at h
    ·rename_i hb;exact key (by simp[AOper.wanted,h1,hb]) h
    ·rename_i hb;exact .off (by simp[AOper.wanted,h1];simpa using hb) (qT h hq)
   ·rename_i h1;exact .off (by simp[AOper.wanted,h1]) (qT h hq)
   ·exact h.elim
abbrev KJ:=Option AJump->Env->St->Prop
def sH(A K:KJ):KJ:=fun j e σ=>match j with|none=>A none e σ|some j=>K (some j) e σ
@[simp] theorem aKT(A K:KJ)(e:Env)(σ:St):sH A K none e σ=A none e σ:=rfl
@[simp] theorem aNB(A K:KJ)(j:AJump)(e:Env)(σ:St):sH A K (some j) e σ=K (some j) e σ:=rfl
def k6(id:Nat)(K:KJ):KJ:=fun j e σ=>match j with|some (.exit i)=>if i=id then K none e σ else K (some (.exit i)) e σ|j=>K j e σ
@[simp] theorem aHO(id:Nat)(K:KJ)(e:Env)(σ:St):k6 id K none e σ=K none e σ:=rfl
@[simp] theorem aLX(id:Nat)(K:KJ)(e:Env)(σ:St):k6 id K (some .ret) e σ=K (some .ret) e σ:=rfl
@[simp] theorem aII(id i:Nat)(K:KJ)(e:Env)(σ:St):k6 id K (some (.exit i)) e σ=if i=id then K none e σ else K (some (.exit i)) e σ:=rfl
def SH(T:FuncId->Option AFunc)(c:ACode)(e:Env)(σ:St)(K:KJ):Prop:=Run T (.code c e σ) fun o=>K o.j o.env o.σ
@[congr] theorem aJR{c:ACode}{e e':Env}{σ σ':St}{K:KJ}(h2:e=e')(h3:σ=σ'):SH T c e σ K=SH T c e' σ' K:=by rw[h2,h3]
def wp(T:FuncId->Option AFunc):ACode->Env->St->KJ->Prop
 |.skip,e,σ,K=>K none e σ
 |.reg os,e,σ,K=>aI T os e σ fun e σ=>K none e σ
 |.seq a b,e,σ,K=>wp T a e σ (sH (fun _ e σ=>wp T b e σ K) K)
 |.cond c a b,e,σ,K=>CQ (c.ev e) (fun _=>wp T a e σ K) (fun _=>wp T b e σ K)
 |.block id b,e,σ,K=>wp T b e σ (k6 id K)
 |.jump j,e,σ,K=>K (some j) e σ
 |.scope b,e,σ,K=>wp T b e σ K
 |c,e,σ,K=>SH T c e σ K
@[congr] theorem aRP{c:ACode}{e e':Env}{σ σ':St}{K:KJ}(h2:e=e')(h3:σ=σ'):wp T c e σ K=wp T c e' σ' K:=by rw[h2,h3]
theorem fA{Q:Out->Prop}:∀ {c:ACode} {e:Env} {σ:St} {K:KJ},wp T c e σ K->(∀ o,K o.j o.env o.σ->Q o)->Run T (.code c e σ) Q:=by
 intro c
 induction c generalizing Q with
 |skip=>intro e σ K h hq;exact .skip (hq ⟨none,e,σ,.undef⟩ h)
 |reg os=>intro e σ K h hq;exact .reg (qT h fun e σ hk=>hq ⟨none,e,σ,.undef⟩ hk)
 |dreg ds=>intro e σ K h hq;exact .mono h hq
 |seq a b iha ihb =>
  intro e σ K h hq;refine .seq (iha h fun o ho=>ho) (fun o ho hj=>?_) fun o ho hj=>?_
  ·simp only[hj,sH] at ho;exact ihb ho hq
  ·refine hq o ?_;cases hj':o.j with
   |none=>exact absurd hj' hj
   |some j=>simp only[hj',sH] at ho;exact ho
 |cond c a b iha ihb =>
  intro e σ K h hq;simp only[wp,CQ] at h;split at h
  ·rename_i h1;exact .cond true h1 (iha h hq)
  ·rename_i h1;exact .cond false h1 (ihb h hq)
  ·exact h.elim
 |block id b ih =>
  intro e σ K h hq;refine .block (ih h fun o ho=>ho) fun o ho=>hq _ ?_
  unfold k6 at ho;split at ho
  ·rename_i i hj;split at ho
   ·rename_i hi;subst hi;rw[if_pos hj];exact ho
   ·rename_i hi;rw[if_neg (by rw[hj];simpa using hi),hj];exact ho
  ·rename_i hj;rw[if_neg (fun e=>hj _ e)];exact ho
 |loop b ih=>intro e σ K h hq;exact .mono h hq
 |rangeFunc f ps a b _ _=>intro e σ K h hq;exact .mono h hq
 |jump j=>intro e σ K h hq;exact .jump (hq ⟨some j,e,σ,.undef⟩ h)
 |scope b ih=>intro e σ K h hq;exact .scope (ih h hq)
def cY(T:FuncId->Option AFunc)(f:FuncId)(args:List AV)(v:AV):Prop:=∀ σ,Run T (.call f args σ) fun o=>o.v=v/\o.σ=σ
theorem tO(σ τ:St)(k:Nat):(σ++τ)[σ.length+k]? = τ[k]?:=by rw[List.getElem?_append_right (by omega)];congr 1;omega
theorem mW(σ τ:St)(k:Nat)(x:ABlk):(σ++τ).set (σ.length+k) x=σ++τ.set k x:=by rw[List.set_append_right _ _ (by omega)];congr 2;omega
theorem aEN(σ τ:St)(x:ABlk):(σ++τ).set σ.length x=σ++τ.set 0 x:=mW σ τ 0 x
end Go.Am
namespace Go.Am
variable {T:FuncId->Option AFunc}
theorem aNZ(e:Env)(d:Nat)(v:AV):Env.put e (some d) v=(d,v)::e:=by simp only[Env.put]
theorem aI2(e:Env)(v:AV):Env.put e none v=e:=by simp only[Env.put]
theorem aAE(k:Nat)(v:AV)(e:Env)(t:Nat):Env.get ((k,v)::e) t=if k=t then v else Env.get e t:=by simp only[Env.get]
theorem PL(e:Env)(t:Nat):AOpd.ev e (.t t)=Env.get e t:=by simp only[AOpd.ev]
theorem aSG(e:Env)(v:AV):AOpd.ev e (.c v)=v:=by simp only[AOpd.ev]
theorem aQD(os:List AOper)(e:Env)(σ:St)(K:KJ):wp T (.reg os) e σ K=aI T os e σ fun e σ=>K none e σ:=by simp only[wp]
theorem aOK(a b:ACode)(e:Env)(σ:St)(K:KJ):wp T (.seq a b) e σ K=wp T a e σ (sH (fun _ e σ=>wp T b e σ K) K):=by simp only[wp]
theorem aM7(j:AJump)(e:Env)(σ:St)(K:KJ):wp T (.jump j) e σ K=K (some j) e σ:=by simp only[wp]
theorem aJ9(A K:KJ)(e:Env)(σ:St):sH A K none e σ=A none e σ:=by simp only[sH]
theorem aRV(e:Env)(σ:St)(K:Env->St->Prop):aI T [] e σ K=K e σ:=by simp only[aI]
def aSH(r:Option AV)(σ:St)(K:AV->St->Prop):Prop:=match r with|some v=>K v σ|none=>False
@[congr] theorem aLF{r r':Option AV}{σ σ':St}{K:AV->St->Prop}(h:r=r')(h2:σ=σ'):aSH r σ K=aSH r' σ' K:=by rw[h,h2]
def aQM(r:Option (List AV))(σ:St)(K:AV->St->Prop):Prop:=match r with|some cs=>K (.agg cs) σ|none=>False
@[congr] theorem aND{r r':Option (List AV)}{σ σ':St}{K:AV->St->Prop}(h:r=r')(h2:σ=σ'):aQM r σ K=aQM r' σ' K:=by rw[h,h2]
def aPX(r:Option St)(K:AV->St->Prop):Prop:=match r with|some σ=>K (.tuple []) σ|none=>False
@[congr] theorem aJC{r r':Option St}{K:AV->St->Prop}(h:r=r'):aPX r K=aPX r' K:=by rw[h]
def kU(n:Nat)(v:AV):Option (List AV):=if (v.cells.length==n&&v.cells.all (·.cell))=true then some v.cells else none
def yE(off:Nat):AV->Option AV
 |.ptr id o=>some (.ptr id (o+off))
 |.lptr xs i o t=>some (.lptr xs i (o+off) t)
 |_=>none
theorem XJ(off id o:Nat):yE off (.ptr id o)=some (.ptr id (o+off)):=by simp[yE]
theorem Z4(off:Nat)(xs:List AV)(i o:Nat)(t:Option Nat):yE off (.lptr xs i o t)=some (.lptr xs i (o+off) t):=by simp[yE]
def aQ9(r:Option (List AV))(σ:St)(K:AV->St->Prop):Prop:=match r with|some cs=>K (.ptr σ.length 0) (σ++[.cells cs])|none=>False
@[congr] theorem aKA{r r':Option (List AV)}{σ σ':St}{K:AV->St->Prop}(h:r=r')(h2:σ=σ'):aQ9 r σ K=aQ9 r' σ' K:=by rw[h,h2]
def aFM(i:Nat):AV->Option AV
 |.tuple vs=>vs[i]?
 |_=>none
theorem aL6(i:Nat)(vs:List AV):aFM i (.tuple vs)=vs[i]?:=by simp[aFM]
def aHD:AV->Option AV
 |.bool b=>some (.bool !b)
 |_=>none
theorem aJE(b:Bool):aHD (.bool b)=some (.bool !b):=by simp[aHD]
def D0(sh:EqTy)(neg:Bool)(x y:AV):Option AV:=(iS sh x y).map fun b=>.bool (if neg then !b else b)
theorem aNE(e:Env)(σ:St)(K:KJ):wp T .skip e σ K=K none e σ:=by simp only[wp]
theorem aEW(id:Nat)(b:ACode)(e:Env)(σ:St)(K:KJ):wp T (.block id b) e σ K=wp T b e σ (k6 id K):=by simp only[wp]
theorem aF8(b:ACode)(e:Env)(σ:St)(K:KJ):wp T (.scope b) e σ K=wp T b e σ K:=by simp only[wp]
theorem aEX(A K:KJ)(j:AJump)(e:Env)(σ:St):sH A K (some j) e σ=K (some j) e σ:=by simp only[sH]
theorem aJM(k:Nat):eI k []=[]:=by simp only[eI]
theorem aPQ(k:Nat)(v:AV)(vs:List AV):eI k (v::vs)=(k,v)::eI (k+1) vs:=by simp only[eI]
theorem aOO(e:Env)(cs:List AV)(off n:Nat)(x:AOpd)(rest:List (Nat×Nat×AOpd)):
  cG e cs ((off,n,x)::rest)=((kU n (x.ev e)).bind fun us=>eP cs off us).bind fun cs=>cG e cs rest:=by
 simp only[cG,kU];split
 ·simp only[Option.bind_some];cases eP cs off (x.ev e).cells<;>simp
 ·simp
end Go.Am
namespace Go.Am
variable {T:FuncId->Option AFunc}
def K8(I:Nat->Env->St->Prop)(k:Nat)(K:KJ):KJ:=fun j e σ=>match j with|none=>∃ k',k'<k/\I k' e σ|some j=>K (some j) e σ
theorem j5(I:Nat->Env->St->Prop)(k:Nat)(K:KJ)(e:Env)(σ:St):K8 I k K none e σ = ∃ k',k'<k/\I k' e σ:=by simp only[K8]
theorem kA(I:Nat->Env->St->Prop)(k:Nat)(K:KJ)(j:AJump)(e:Env)(σ:St):K8 I k K (some j) e σ=K (some j) e σ:=by simp only[K8]
theorem PO{b:ACode}{K:KJ}(I:Nat->Env->St->Prop)(step:∀ k e σ,I k e σ->wp T b e σ (K8 I k K)):∀ n e σ,I n e σ->SH T (.loop b) e σ K:=by
 intro n
 induction n using Nat.strongRecOn with
 |_ n ih =>
  intro e σ h;refine .loop (fA (step n e σ h) fun o ho=>ho) (fun o ho hj=>?_) fun o ho hj=>?_
  ·simp only[hj,j5] at ho;obtain⟨k',hk,hI⟩:=ho;exact ih k' hk o.env o.σ hI
  ·cases hj':o.j with
   |none=>exact absurd hj' hj
   |some j=>simp only[hj',kA] at ho;exact ho
end Go.Am
namespace Go.Am
variable {T:FuncId->Option AFunc}
def EQ(r:ARead):List St->Nat->Prop
 |[],_=>True
 |s::ss,j=>(if r.lo<=j/\j<=r.hi then aop r.op r.env s=some (r.v,s) else True)/\EQ r ss (j+1)
theorem LB{r:ARead}:∀ {hist:List St} {k:Nat},EQ r hist k->∀ j s,r.lo<=k+j->k+j<=r.hi->hist[j]? = some s->aop r.op r.env s=some (r.v,s)
 |[],k,_,j,s,_,_,h=>by simp at h
 |t::ss,k,h,j,s,h1,h2,h3=>by
  obtain⟨q1,q2⟩:=h;cases j with
  |zero=>simp at h3;subst h3;rw[if_pos ⟨by omega,by omega⟩] at q1;exact q1
  |succ j=>exact LB q2 j s (by omega) (by omega) (by simpa using h3)
def rF:List ARead->List St->Prop
 |[],_=>True
 |r::rs,hist=>EQ r hist 0/\rF rs hist
theorem FY:∀ {rs:List ARead} {hist:List St},rF rs hist->∀ r∈rs,ARead.ok r hist
 |[],_,_,r,h=>by cases h
 |r::rs,hist,h,q,hq=>by
  rcases List.mem_cons.1 hq with rfl|hq
  ·intro j s h1 h2 h3;exact LB h.1 j s (by omega) (by omega) h3
  ·exact FY h.2 q hq
def FM(T:FuncId->Option AFunc)(f:AV)(args:List AV)(σ:St)(K:AV->St->Prop):Prop:=∃ v σ',Run T (.callv f args σ) (fun r=>r.v=v/\r.σ=σ')/\K v σ'
@[congr] theorem aHM{f f':AV}{args args':List AV}{σ σ':St}{K:AV->St->Prop}(h1:f=f')(h2:args=args')(h3:σ=σ'):FM T f args σ K=FM T f' args' σ' K:=by rw[h1,h2,h3]
def wpD(T:FuncId->Option AFunc):List ADOper->Env->St->Nat->List St->List ARead->(Env->St->Prop)->Prop
 |[],e,σ,_,hist,reads,K=>rF reads hist/\K e σ
 |⟨⟨dst,.call f args,none⟩,_,_⟩::ds,e,σ,next,hist,reads,K=>FM T (f.ev e) (args.map (·.ev e)) σ fun v σ'=>wpD T ds (Env.put e dst v) σ' next (hist++[σ']) reads K
 |⟨⟨dst,.alloc _,none⟩,_,_⟩::ds,e,σ,next,hist,reads,K=>wpD T ds (Env.put e dst (.ptr next 0)) σ (next+1) hist reads K
 |⟨⟨dst,q,none⟩,lo,hi⟩::ds,e,σ,next,hist,reads,K =>
  mY (aop q e σ) fun v σ' =>
   if q.acts=true then wpD T ds (Env.put e dst v) σ' next (hist++[σ']) reads K
   else σ'=σ/\if q.reads=true then wpD T ds (Env.put e dst v) σ next hist (⟨lo,hi,q,e,v⟩::reads) K else wpD T ds (Env.put e dst v) σ next hist reads K
 |⟨⟨dst,.call f args,some (t,want)⟩,_,_⟩::ds,e,σ,next,hist,reads,K =>
  oP (Env.get e t) want (fun _=>FM T (f.ev e) (args.map (·.ev e)) σ fun v σ'=>wpD T ds (Env.put e dst v) σ' next (hist++[σ']) reads K)
   (fun _=>wpD T ds (Env.put e dst (.tuple [])) σ next (hist++[σ]) reads K)
 |⟨⟨dst,q,some (t,want)⟩,lo,hi⟩::ds,e,σ,next,hist,reads,K =>
  oP (Env.get e t) want
   (fun _=>q.allocs=false/\mY (aop q e σ) fun v σ' =>
    if q.acts=true then wpD T ds (Env.put e dst v) σ' next (hist++[σ']) reads K
    else σ'=σ/\if q.reads=true then wpD T ds (Env.put e dst v) σ next hist (⟨lo,hi,q,e,v⟩::reads) K else wpD T ds (Env.put e dst v) σ next hist reads K)
   (fun _=>wpD T ds (Env.put e dst (.tuple [])) σ (if q.allocs then next+1 else next) (if q.acts then hist++[σ] else hist) reads K)
theorem k9{Q:Out->Prop}:∀ {ds:List ADOper} {e:Env} {σ:St} {next:Nat} {hist:List St} {reads:List ARead} {K:Env->St->Prop},wpD T ds e σ next hist reads K ->
  (∀ e σ,K e σ->Q ⟨none,e,σ,.undef⟩)->Run T (.dops ds e σ next hist reads) Q
 |[],e,σ,next,hist,reads,K,h,hq=>.dnil (FY h.1) (hq _ _ h.2)
 |⟨⟨dst,q,g⟩,lo,hi⟩::ds,e,σ,next,hist,reads,K,h,hq=>by
  -- an operation that is neither a call nor a new variable
  have key:AOper.wanted ⟨dst,q,g⟩ e=some true->q.allocs=false->(mY (aop q e σ) fun v σ' =>
    if q.acts=true then wpD T ds (Env.put e dst v) σ' next (hist++[σ']) reads K
    else σ'=σ/\if q.reads=true then wpD T ds (Env.put e dst v) σ next hist (⟨lo,hi,q,e,v⟩::reads) K else wpD T ds (Env.put e dst v) σ next hist reads K) ->
    Run T (.dops (⟨⟨dst,q,g⟩,lo,hi⟩::ds) e σ next hist reads) Q:=by
   intro hw hal h;unfold mY at h;split at h
   ·rename_i v σ' hv;split at h
    ·rename_i ha;exact .dact hw ha hv (k9 h hq)
    ·rename_i ha;obtain⟨rfl,h⟩:=h;split at h
     ·rename_i hr;exact .dread hw hr hv (k9 h hq)
     ·rename_i hr;exact .dpure hw (by simp[hal];exact⟨by simpa using ha,by simpa using hr⟩) hv (k9 h hq)
   ·exact h.elim
  by_cases hc:∃ f args,q = .call f args
  ·obtain⟨f,args,rfl⟩:=hc;cases g with
   |none =>
    simp only[wpD,FM] at h;obtain⟨v,σ',h1,h2⟩:=h;exact .dcall rfl rfl h1 (k9 h2 hq)
   |some g =>
    obtain⟨t,want⟩:=g;simp only[wpD,oP] at h;split at h
    ·rename_i b h1;split at h
     ·rename_i hb;obtain⟨v,σ',h3,h4⟩:=h;exact .dcall (by simp[AOper.wanted,h1,hb]) rfl h3 (k9 h4 hq)
     ·rename_i hb;exact .doff (by simp[AOper.wanted,h1];simpa using hb) (by simpa[AOp.allocs,AOp.acts] using k9 h hq)
    ·rename_i h1;exact .doff (by simp[AOper.wanted,h1]) (by simpa[AOp.allocs,AOp.acts] using k9 h hq)
    ·exact h.elim
  ·cases g with
   |none =>
    by_cases hal:∃ z,q = .alloc z
    ·obtain⟨z,rfl⟩:=hal;simp only[wpD] at h;exact .dalloc rfl rfl (k9 h hq)
    ·refine key rfl ?_ ?_
     ·cases q<;>first|rfl|exact absurd ⟨_,rfl⟩ hal
     ·cases q<;>first|exact h|exact absurd ⟨_,_,rfl⟩ hc|exact absurd ⟨_,rfl⟩ hal
   |some g =>
    obtain⟨t,want⟩:=g
    have h:oP (Env.get e t) want (fun _=>q.allocs=false/\mY (aop q e σ) fun v σ' =>
      if q.acts=true then wpD T ds (Env.put e dst v) σ' next (hist++[σ']) reads K
      else σ'=σ/\if q.reads=true then wpD T ds (Env.put e dst v) σ next hist (⟨lo,hi,q,e,v⟩::reads) K else wpD T ds (Env.put e dst v) σ next hist reads K)
      (fun _=>wpD T ds (Env.put e dst (.tuple [])) σ (if q.allocs then next+1 else next) (if q.acts then hist++[σ] else hist) reads K):=by
     cases q<;>first|exact h|exact absurd ⟨_,_,rfl⟩ hc
    simp only[oP] at h;split at h
    ·rename_i b h1;split at h
     ·rename_i hb;exact key (by simp[AOper.wanted,h1,hb]) h.1 h.2
     ·rename_i hb;exact .doff (by simp[AOper.wanted,h1];simpa using hb) (k9 h hq)
    ·rename_i h1;exact .doff (by simp[AOper.wanted,h1]) (k9 h hq)
    ·exact h.elim
end Go.Am
namespace Go.Am
variable {T:FuncId->Option AFunc}
class HP (α:Type) where
 out:α
def bO(r:Option (AV×St))[K:HP (AV->St->Prop)]:Prop:=mY r K.out
theorem aKF(v:AV)(σ:St)(K:AV->St->Prop):bO (K:=⟨K⟩) (some (v,σ))=K v σ:=by simp only[bO,mY]
def cK(T:FuncId->Option AFunc)(f:AV)(args:List AV)(σ:St)[K:HP (AV->St->Prop)]:Prop:=PX T f args σ K.out
def cD(T:FuncId->Option AFunc)(f:AV)(args:List AV)(σ:St)[K:HP (AV->St->Prop)]:Prop:=FM T f args σ K.out
def rK(T:FuncId->Option AFunc)(c:ACode)(e:Env)(σ:St)[K:HP KJ]:Prop:=SH T c e σ K.out
def AJ(b:Bool)[A:HP Prop][B:HP Prop]:Prop:=if b=true then A.out else B.out
theorem TZ(A:Prop)(B:HP Prop):AJ (A:=⟨A⟩) true=A:=by simp[AJ]
theorem LU(A:HP Prop)(B:Prop):AJ (B:=⟨B⟩) false=B:=by simp[AJ]
theorem aE{b:Bool}{A B:Prop}(h1:b=true->A)(h2:b=false->B):AJ (A:=⟨A⟩) (B:=⟨B⟩) b:=by cases b<;>simp[AJ]<;>first|exact h1 rfl|exact h2 rfl
def bB(v:AV)[A:HP Prop][B:HP Prop]:Prop:=CQ v (fun _=>A.out) (fun _=>B.out)
def bG(v:AV)(want:Bool)[A:HP Prop][B:HP Prop]:Prop:=oP v want (fun _=>A.out) (fun _=>B.out)
theorem aLL(b:ACode)(e:Env)(σ:St)(K:KJ):wp T (.loop b) e σ K=rK (K:=⟨K⟩) T (.loop b) e σ:=by simp only[wp,rK]
theorem aF9(f:AOpd)(ps:List Nat)(a b:ACode)(e:Env)(σ:St)(K:KJ):wp T (.rangeFunc f ps a b) e σ K=rK (K:=⟨K⟩) T (.rangeFunc f ps a b) e σ:=by simp only[wp,rK]
theorem aK3(c:AOpd)(a b:ACode)(e:Env)(σ:St)(K:KJ):wp T (.cond c a b) e σ K=bB (A:=⟨wp T a e σ K⟩) (B:=⟨wp T b e σ K⟩) (c.ev e):=by simp only[wp,bB]
def evs(e:Env):List AOpd->List AV
 |[]=>[]
 |x::xs=>x.ev e::evs e xs
theorem nD(e:Env):∀ xs:List AOpd,xs.map (·.ev e)=evs e xs
 |[]=>rfl
 |x::xs=>by simp[evs,nD e xs]
def ovs(e:Env):Option AOpd->Option AV
 |none=>none
 |some x=>some (x.ev e)
def EJ:AV->AV->AV->Option AV
 |.bool true,x,_=>some x
 |.bool false,_,y=>some y
 |_,_,_=>none
def yY(n:Nat)(xs:List AV):Option AV:=if aH n xs=true then some (.lit xs true none) else none
def JV:AV->Option AV
 |.ptr i o=>some (.ptr i o)
 |.lptr xs i o t=>some (.lptr xs i o t)
 |.func f a b=>some (.func f a b)
 |.yield i=>some (.yield i)
 |_=>none
def aDN:AV->Option AV
 |.int k n=>some (.int k (k.wrap (0-n)))
 |_=>none
def Q4(k:IntKind):AV->Option AV
 |.int _ n=>some (.int k (k.wrap n))
 |_=>none
def aF6:AV->Option ByteArray
 |.str s=>some s
 |_=>none
def yW(σ:St):AV->Option (AV×St)
 |.ptr id 0 =>
  match σ[id]? with
  |some (.siter s pos) =>
   if pos<s.size then some (.tuple [.bool true,.int .i64 pos,.int .i32 (Utf8.decode s pos).1],σ.set id (.siter s (pos+(Utf8.decode s pos).2)))
   else some (.tuple [.bool false],σ)
  |_=>none
 |_=>none
def qZ(bytes:Nat)(l c:AV):Option Nat :=
 match l,c with
 |.int _ n,.int _ m=>if 0<=n/\n=m/\n*bytes<=room/\n<=room then some n.toNat else none
 |_,_=>none
def pT(d:Nat):Option AV->Option Int
 |none=>some d
 |some x=>eZ x
def AS(sz:Nat)(σ:St)(x:AV)(lo hi mx:Option AV):Option AV :=
 match i5 1 σ x with
 |none=>none
 |some n =>
  match pT 0 lo,pT n hi,mx.map eZ with
  |some l,some h,none=>nG sz x l h false
  |some l,some h,some (some m)=>if m=h/\hi.isSome=true then nG sz x l h true else none
  |_,_,_=>none
def O4(n sz:Nat)(x:AV)(lo hi:Option AV):Option AV :=
 match x,pT 0 lo,pT n hi with
 |.ptr id off,some l,some h=>if 0<=l/\l<=h/\h<=n then some (.ref id (off+l.toNat*sz) (h.toNat-l.toNat) sz) else none
 |_,_,_=>none
def GW(off:Nat)(sh:Option Nat):AV->Option AV
 |.agg cs=>eB sh cs off
 |_=>none
def pO(arr:Option Nat)(sz:Nat)(x i:AV):Option AV :=
 match eZ i,arr,x with
 |some j,some n,.ptr id off=>if 0<=j/\j<n then some (.ptr id (off+j.toNat*sz)) else none
 |some j,some n,.lptr xs q off t=>if 0<=j/\j<n then some (.lptr xs q (off+j.toNat*sz) t) else none
 |some j,none,.lit xs _ t =>
  match xs[j.toNat]? with
  |some y=>if 0<=j/\y.cells.length=sz then some (.lptr xs j.toNat 0 t) else none
  |none=>none
 |some j,none,.ref id off len sz'=>if 0<=j/\j<len/\sz'=sz then some (.ptr id (off+j.toNat*sz)) else none
 |_,_,_=>none
def GF(n sz:Nat)(sh:Option Nat)(x i:AV):Option AV :=
 match eZ i,x with
 |some j,.agg cs=>if 0<=j/\j<n then eB sh cs (j.toNat*sz) else none
 |_,_=>none
def A3(x i:AV):Option AV :=
 match eZ i,x with
 |some j,.str s=>if 0<=j then (s[j.toNat]?).map fun b=>.int .u8 b.toNat else none
 |_,_=>none
def PF(ok:Bool)(zero:AV):Option (Option AV)->Option AV
 |some (some v)=>some (if ok then .tuple [v,.bool true] else v)
 |some none=>some (if ok then .tuple [zero,.bool false] else zero)
 |none=>none
def A0(sh:EqTy)(σ:St)(m k v:AV):Option St :=
 match m with
 |.map id =>
  if (iS sh k k).isSome=false then none else
  match σ[id]? with
  |some (.map es)=>(oR sh k v es).map fun es'=>σ.set id (.map es')
  |_=>none
 |_=>none
theorem aSB(x:AOpd)(e:Env)(σ:St):aop (.mov x) e σ=some (x.ev e,σ):=by
 simp only[aop]
theorem aFD(z:List AV)(e:Env)(σ:St):aop (.alloc z) e σ=some (.ptr σ.length 0,σ++[.cells z]):=by
 simp only[aop]
theorem aM4(c x y:AOpd)(e:Env)(σ:St):aop (.pick c x y) e σ=(EJ (c.ev e) (x.ev e) (y.ev e)).map (·,σ):=by
 simp only[aop,EJ];repeat' split
 all_goals simp_all
theorem aSM(n:Nat)(x:AOpd)(e:Env)(σ:St):aop (.box n x) e σ=(kU n (x.ev e)).map fun cs=>(.ptr σ.length 0,σ++[.cells cs]):=by
 simp only[aop,kU];split<;>simp_all
theorem aGU(z:List AV)(ps:List (Nat×Nat×AOpd))(e:Env)(σ:St):aop (.build z ps) e σ=(cG e z ps).map fun cs=>(.agg cs,σ):=by
 simp only[aop];cases cG e z ps<;>simp
theorem aFI(n:Nat)(xs:List AOpd)(e:Env)(σ:St):aop (.mklit n xs) e σ=(yY n (evs e xs)).map (·,σ):=by
 simp only[aop,yY,nD];split<;>simp_all
theorem aE7(n:Nat)(xs:List AOpd)(e:Env)(σ:St):aop (.mkref n xs) e σ=(yY n (evs e xs)).map fun _=>(.ref σ.length 0 (evs e xs).length n,σ++[.cells ((evs e xs).flatMap AV.cells)]):=by
 simp only[aop,yY,nD];have:=congrArg List.length (nD e xs);split<;>simp_all
theorem aNI(sh:Option Nat)(x:AOpd)(e:Env)(σ:St):aop (.load sh x) e σ=(jT sh σ (x.ev e)).map (·,σ):=by
 simp only[aop];cases jT sh σ (x.ev e)<;>simp
theorem aG7(n:Nat)(x y:AOpd)(e:Env)(σ:St):aop (.store n x y) e σ=(kZ n σ (x.ev e) (y.ev e)).map (.tuple [],·):=by
 simp only[aop];cases kZ n σ (x.ev e) (y.ev e)<;>simp
theorem M3(x:AOpd)(e:Env)(σ:St):aop (.nilCheck x) e σ=(JV (x.ev e)).map (·,σ):=by
 simp only[aop,JV];cases x.ev e<;>simp
theorem aNO(op:BinOp)(x y:AOpd)(e:Env)(σ:St):aop (.bin op x y) e σ=(cQ op (x.ev e) (y.ev e)).map (·,σ):=by
 simp only[aop];cases cQ op (x.ev e) (y.ev e)<;>simp
theorem aRR(sh:EqTy)(n:Bool)(x y:AOpd)(e:Env)(σ:St):aop (.eql sh n x y) e σ=(D0 sh n (x.ev e) (y.ev e)).map (·,σ):=by
 simp only[aop,D0];cases iS sh (x.ev e) (y.ev e)<;>simp
theorem aQG(x:AOpd)(e:Env)(σ:St):aop (.not x) e σ=(aHD (x.ev e)).map (·,σ):=by
 simp only[aop,aHD];cases x.ev e<;>simp
theorem aO3(x:AOpd)(e:Env)(σ:St):aop (.neg x) e σ=(aDN (x.ev e)).map (·,σ):=by
 simp only[aop,aDN];cases x.ev e<;>simp
theorem aKD(k:IntKind)(x:AOpd)(e:Env)(σ:St):aop (.conv k x) e σ=(Q4 k (x.ev e)).map (·,σ):=by
 simp only[aop,Q4];cases x.ev e<;>simp
theorem aGX(f:FuncId)(xs ys:List AOpd)(e:Env)(σ:St):aop (.mkfun f xs ys) e σ=some (.func f (evs e xs) (evs e ys),σ):=by
 simp only[aop,nD]
theorem aET(e:Env)(σ:St):aop (.mkmap) e σ=some (.map σ.length,σ++[.map []]):=by
 simp only[aop]
theorem SB(z:List AV)(b:Nat)(x y:AOpd)(e:Env)(σ:St):aop (.mkslice z b x y) e σ=(qZ b (x.ev e) (y.ev e)).map fun n=>(.ref σ.length 0 n z.length,σ++[.cells (List.replicate n z).flatten]):=by
 simp only[aop,qZ];generalize x.ev e=u;generalize y.ev e=v;cases u<;>cases v<;>first|rfl|(dsimp only;split<;>first|rfl|simp_all|(split<;>simp_all))
theorem YZ(n:Nat)(x:AOpd)(lo hi mx:Option AOpd)(e:Env)(σ:St):aop (.slicev n x lo hi mx) e σ=(AS n σ (x.ev e) (ovs e lo) (ovs e hi) (ovs e mx)).map (·,σ):=by
 simp only[aop,AS];cases i5 1 σ (x.ev e)<;>cases lo<;>cases hi<;>cases mx<;>simp only[bP,pT,ovs,Option.map_none,Option.map_some]<;>repeat' split
 all_goals simp_all
theorem ZQ(n s:Nat)(x:AOpd)(lo hi:Option AOpd)(e:Env)(σ:St):aop (.slicea n s x lo hi) e σ=(O4 n s (x.ev e) (ovs e lo) (ovs e hi)).map (·,σ):=by
 simp only[aop,O4];generalize x.ev e=u;cases lo with
 |none=>cases hi with
  |none=>simp only[bP,pT,ovs];cases u<;>first|rfl|(dsimp only;split<;>first|rfl|simp_all|(split<;>simp_all))
  |some h=>simp only[bP,pT,ovs];generalize eZ (h.ev e)=p;cases u<;>cases p<;>first|rfl|(dsimp only;split<;>first|rfl|simp_all|(split<;>simp_all))
 |some l=>cases hi with
  |none=>simp only[bP,pT,ovs];generalize eZ (l.ev e)=p;cases u<;>cases p<;>first|rfl|(dsimp only;split<;>first|rfl|simp_all|(split<;>simp_all))
  |some h=>simp only[bP,pT,ovs];generalize eZ (l.ev e)=p;generalize eZ (h.ev e)=q;cases u<;>cases p<;>cases q<;>first|rfl|(dsimp only;split<;>first|rfl|simp_all|(split<;>simp_all))
theorem aDH(x:AOpd)(o:Nat)(e:Env)(σ:St):aop (.faddr x o) e σ=(yE o (x.ev e)).map (·,σ):=by
 simp only[aop,yE];cases x.ev e<;>simp
theorem aFB(x:AOpd)(o:Nat)(sh:Option Nat)(e:Env)(σ:St):aop (.field x o sh) e σ=(GW o sh (x.ev e)).map (·,σ):=by
 simp only[aop,GW];cases x.ev e<;>simp<;>(rename_i cs;cases eB sh cs o<;>simp)
theorem aG4(a:Option Nat)(s:Nat)(x i:AOpd)(e:Env)(σ:St):aop (.iaddr a s x i) e σ=(pO a s (x.ev e) (i.ev e)).map (·,σ):=by
 simp only[aop,pO];generalize eZ (i.ev e)=q;generalize x.ev e=u;cases q<;>cases a<;>cases u<;>first|rfl|(dsimp only;split<;>first|rfl|simp_all|(split<;>simp_all))
theorem aC8(n s:Nat)(sh:Option Nat)(x i:AOpd)(e:Env)(σ:St):aop (.index n s sh x i) e σ=(GF n s sh (x.ev e) (i.ev e)).map (·,σ):=by
 simp only[aop,GF];generalize eZ (i.ev e)=q;generalize x.ev e=u;cases q<;>cases u<;>first|rfl|(dsimp only;split<;>first|rfl|simp_all|(split<;>simp_all))
theorem WS(x i:AOpd)(e:Env)(σ:St):aop (.sindex x i) e σ=(A3 (x.ev e) (i.ev e)).map (·,σ):=by
 simp only[aop,A3];generalize eZ (i.ev e)=q;generalize x.ev e=u;cases q<;>cases u<;>first|rfl|(dsimp only;split<;>first|rfl|(rename_i k b h;cases b[k.toNat]?<;>rfl))
theorem aCS(sh:EqTy)(ok:Bool)(z:AV)(m k:AOpd)(e:Env)(σ:St):aop (.lookup sh ok z m k) e σ=(PF ok z (vF sh σ (m.ev e) (k.ev e))).map (·,σ):=by
 simp only[aop,PF];cases vF sh σ (m.ev e) (k.ev e) with
 |none=>rfl
 |some o=>cases o<;>rfl
theorem UP(sh:EqTy)(m k v:AOpd)(e:Env)(σ:St):aop (.mapset sh m k v) e σ=(A0 sh σ (m.ev e) (k.ev e) (v.ev e)).map (.tuple [],·):=by
 simp only[aop,A0];repeat' split
 all_goals simp_all
theorem aSL(x:AOpd)(i:Nat)(e:Env)(σ:St):aop (.ext x i) e σ=(aFM i (x.ev e)).map (·,σ):=by
 simp only[aop,aFM];cases x.ev e<;>simp<;>(rename_i vs;cases vs[i]?<;>simp)
theorem aRS(k:Nat)(x:AOpd)(e:Env)(σ:St):aop (.len k x) e σ=(i5 k σ (x.ev e)).map fun n=>(.int .i64 n,σ):=by
 simp only[aop];cases i5 k σ (x.ev e)<;>simp
theorem aCL(n b:Nat)(x y:AOpd)(e:Env)(σ:St):aop (.append n b x y) e σ=dD n b σ (x.ev e) (y.ev e):=by
 simp only[aop]
theorem aHB(n b:Nat)(x y:AOpd)(e:Env)(σ:St):aop (.apref n b x y) e σ=nB n b σ (x.ev e) (y.ev e):=by
 simp only[aop]
theorem aMY(n:Nat)(x y:AOpd)(e:Env)(σ:St):aop (.copy n x y) e σ=rA n σ (x.ev e) (y.ev e):=by
 simp only[aop]
theorem aO2(xs:List AOpd)(e:Env)(σ:St):aop (.min xs) e σ=(AI (evs e xs)).map (·,σ):=by
 simp only[aop,nD];cases AI (evs e xs)<;>simp
theorem aSD(xs:List AOpd)(e:Env)(σ:St):aop (.max xs) e σ=(AA (evs e xs)).map (·,σ):=by
 simp only[aop,nD];cases AA (evs e xs)<;>simp
theorem UW(x:AOpd)(e:Env)(σ:St):aop (.srange x) e σ=(aF6 (x.ev e)).map fun s=>(.ptr σ.length 0,σ++[.siter s 0]):=by
 simp only[aop,aF6];cases x.ev e<;>simp
theorem aF4(x:AOpd)(e:Env)(σ:St):aop (.snext x) e σ=yW σ (x.ev e):=by
 simp only[aop,yW];cases x.ev e<;>rfl
theorem aQ1(x:AOpd)(d:Option Nat)(os:List AOper)(e:Env)(σ:St)(K:Env->St->Prop):aI T (⟨d,.mov x,none⟩::os) e σ K=bO (K:=⟨fun v σ'=>aI T os (Env.put e d v) σ' K⟩) (aop (.mov x) e σ):=by simp only[aI,gM,bO]
theorem aD2(z:List AV)(d:Option Nat)(os:List AOper)(e:Env)(σ:St)(K:Env->St->Prop):aI T (⟨d,.alloc z,none⟩::os) e σ K=bO (K:=⟨fun v σ'=>aI T os (Env.put e d v) σ' K⟩) (aop (.alloc z) e σ):=by simp only[aI,gM,bO]
theorem aKY(c x y:AOpd)(d:Option Nat)(os:List AOper)(e:Env)(σ:St)(K:Env->St->Prop):aI T (⟨d,.pick c x y,none⟩::os) e σ K=bO (K:=⟨fun v σ'=>aI T os (Env.put e d v) σ' K⟩) (aop (.pick c x y) e σ):=by simp only[aI,gM,bO]
theorem aPP(n:Nat)(x:AOpd)(d:Option Nat)(os:List AOper)(e:Env)(σ:St)(K:Env->St->Prop):aI T (⟨d,.box n x,none⟩::os) e σ K=bO (K:=⟨fun v σ'=>aI T os (Env.put e d v) σ' K⟩) (aop (.box n x) e σ):=by simp only[aI,gM,bO]
theorem aFU(z:List AV)(ps:List (Nat×Nat×AOpd))(d:Option Nat)(os:List AOper)(e:Env)(σ:St)(K:Env->St->Prop):aI T (⟨d,.build z ps,none⟩::os) e σ K=bO (K:=⟨fun v σ'=>aI T os (Env.put e d v) σ' K⟩) (aop (.build z ps) e σ):=by simp only[aI,gM,bO]
theorem aFN(n:Nat)(xs:List AOpd)(d:Option Nat)(os:List AOper)(e:Env)(σ:St)(K:Env->St->Prop):aI T (⟨d,.mklit n xs,none⟩::os) e σ K=bO (K:=⟨fun v σ'=>aI T os (Env.put e d v) σ' K⟩) (aop (.mklit n xs) e σ):=by simp only[aI,gM,bO]
theorem aD6(n:Nat)(xs:List AOpd)(d:Option Nat)(os:List AOper)(e:Env)(σ:St)(K:Env->St->Prop):aI T (⟨d,.mkref n xs,none⟩::os) e σ K=bO (K:=⟨fun v σ'=>aI T os (Env.put e d v) σ' K⟩) (aop (.mkref n xs) e σ):=by simp only[aI,gM,bO]
theorem aKC(sh:Option Nat)(x:AOpd)(d:Option Nat)(os:List AOper)(e:Env)(σ:St)(K:Env->St->Prop):aI T (⟨d,.load sh x,none⟩::os) e σ K=bO (K:=⟨fun v σ'=>aI T os (Env.put e d v) σ' K⟩) (aop (.load sh x) e σ):=by simp only[aI,gM,bO]
theorem aFK(n:Nat)(x y:AOpd)(d:Option Nat)(os:List AOper)(e:Env)(σ:St)(K:Env->St->Prop):aI T (⟨d,.store n x y,none⟩::os) e σ K=bO (K:=⟨fun v σ'=>aI T os (Env.put e d v) σ' K⟩) (aop (.store n x y) e σ):=by simp only[aI,gM,bO]
theorem MI(x:AOpd)(d:Option Nat)(os:List AOper)(e:Env)(σ:St)(K:Env->St->Prop):aI T (⟨d,.nilCheck x,none⟩::os) e σ K=bO (K:=⟨fun v σ'=>aI T os (Env.put e d v) σ' K⟩) (aop (.nilCheck x) e σ):=by simp only[aI,gM,bO]
theorem aRX(op:BinOp)(x y:AOpd)(d:Option Nat)(os:List AOper)(e:Env)(σ:St)(K:Env->St->Prop):aI T (⟨d,.bin op x y,none⟩::os) e σ K=bO (K:=⟨fun v σ'=>aI T os (Env.put e d v) σ' K⟩) (aop (.bin op x y) e σ):=by simp only[aI,gM,bO]
theorem aOJ(sh:EqTy)(n:Bool)(x y:AOpd)(d:Option Nat)(os:List AOper)(e:Env)(σ:St)(K:Env->St->Prop):aI T (⟨d,.eql sh n x y,none⟩::os) e σ K=bO (K:=⟨fun v σ'=>aI T os (Env.put e d v) σ' K⟩) (aop (.eql sh n x y) e σ):=by simp only[aI,gM,bO]
theorem aPZ(x:AOpd)(d:Option Nat)(os:List AOper)(e:Env)(σ:St)(K:Env->St->Prop):aI T (⟨d,.not x,none⟩::os) e σ K=bO (K:=⟨fun v σ'=>aI T os (Env.put e d v) σ' K⟩) (aop (.not x) e σ):=by simp only[aI,gM,bO]
theorem aOH(x:AOpd)(d:Option Nat)(os:List AOper)(e:Env)(σ:St)(K:Env->St->Prop):aI T (⟨d,.neg x,none⟩::os) e σ K=bO (K:=⟨fun v σ'=>aI T os (Env.put e d v) σ' K⟩) (aop (.neg x) e σ):=by simp only[aI,gM,bO]
theorem aJW(k:IntKind)(x:AOpd)(d:Option Nat)(os:List AOper)(e:Env)(σ:St)(K:Env->St->Prop):aI T (⟨d,.conv k x,none⟩::os) e σ K=bO (K:=⟨fun v σ'=>aI T os (Env.put e d v) σ' K⟩) (aop (.conv k x) e σ):=by simp only[aI,gM,bO]
theorem aDJ(f:FuncId)(xs ys:List AOpd)(d:Option Nat)(os:List AOper)(e:Env)(σ:St)(K:Env->St->Prop):aI T (⟨d,.mkfun f xs ys,none⟩::os) e σ K=bO (K:=⟨fun v σ'=>aI T os (Env.put e d v) σ' K⟩) (aop (.mkfun f xs ys) e σ):=by simp only[aI,gM,bO]
theorem aFP(d:Option Nat)(os:List AOper)(e:Env)(σ:St)(K:Env->St->Prop):aI T (⟨d,.mkmap,none⟩::os) e σ K=bO (K:=⟨fun v σ'=>aI T os (Env.put e d v) σ' K⟩) (aop (.mkmap) e σ):=by simp only[aI,gM,bO]
theorem SY(z:List AV)(b:Nat)(x y:AOpd)(d:Option Nat)(os:List AOper)(e:Env)(σ:St)(K:Env->St->Prop):aI T (⟨d,.mkslice z b x y,none⟩::os) e σ K=bO (K:=⟨fun v σ'=>aI T os (Env.put e d v) σ' K⟩) (aop (.mkslice z b x y) e σ):=by simp only[aI,gM,bO]
theorem aA2(n:Nat)(x:AOpd)(lo hi mx:Option AOpd)(d:Option Nat)(os:List AOper)(e:Env)(σ:St)(K:Env->St->Prop):aI T (⟨d,.slicev n x lo hi mx,none⟩::os) e σ K=bO (K:=⟨fun v σ'=>aI T os (Env.put e d v) σ' K⟩) (aop (.slicev n x lo hi mx) e σ):=by simp only[aI,gM,bO]
theorem ZE(n s:Nat)(x:AOpd)(lo hi:Option AOpd)(d:Option Nat)(os:List AOper)(e:Env)(σ:St)(K:Env->St->Prop):aI T (⟨d,.slicea n s x lo hi,none⟩::os) e σ K=bO (K:=⟨fun v σ'=>aI T os (Env.put e d v) σ' K⟩) (aop (.slicea n s x lo hi) e σ):=by simp only[aI,gM,bO]
theorem aDY(x:AOpd)(o:Nat)(d:Option Nat)(os:List AOper)(e:Env)(σ:St)(K:Env->St->Prop):aI T (⟨d,.faddr x o,none⟩::os) e σ K=bO (K:=⟨fun v σ'=>aI T os (Env.put e d v) σ' K⟩) (aop (.faddr x o) e σ):=by simp only[aI,gM,bO]
theorem aEZ(x:AOpd)(o:Nat)(sh:Option Nat)(d:Option Nat)(os:List AOper)(e:Env)(σ:St)(K:Env->St->Prop):aI T (⟨d,.field x o sh,none⟩::os) e σ K=bO (K:=⟨fun v σ'=>aI T os (Env.put e d v) σ' K⟩) (aop (.field x o sh) e σ):=by simp only[aI,gM,bO]
theorem aEB(a:Option Nat)(s:Nat)(x i:AOpd)(d:Option Nat)(os:List AOper)(e:Env)(σ:St)(K:Env->St->Prop):aI T (⟨d,.iaddr a s x i,none⟩::os) e σ K=bO (K:=⟨fun v σ'=>aI T os (Env.put e d v) σ' K⟩) (aop (.iaddr a s x i) e σ):=by simp only[aI,gM,bO]
theorem aGV(n s:Nat)(sh:Option Nat)(x i:AOpd)(d:Option Nat)(os:List AOper)(e:Env)(σ:St)(K:Env->St->Prop):aI T (⟨d,.index n s sh x i,none⟩::os) e σ K=bO (K:=⟨fun v σ'=>aI T os (Env.put e d v) σ' K⟩) (aop (.index n s sh x i) e σ):=by simp only[aI,gM,bO]
theorem aAF(x i:AOpd)(d:Option Nat)(os:List AOper)(e:Env)(σ:St)(K:Env->St->Prop):aI T (⟨d,.sindex x i,none⟩::os) e σ K=bO (K:=⟨fun v σ'=>aI T os (Env.put e d v) σ' K⟩) (aop (.sindex x i) e σ):=by simp only[aI,gM,bO]
theorem YB(sh:EqTy)(ok:Bool)(z:AV)(m k:AOpd)(d:Option Nat)(os:List AOper)(e:Env)(σ:St)(K:Env->St->Prop):aI T (⟨d,.lookup sh ok z m k,none⟩::os) e σ K=bO (K:=⟨fun v σ'=>aI T os (Env.put e d v) σ' K⟩) (aop (.lookup sh ok z m k) e σ):=by simp only[aI,gM,bO]
theorem VH(sh:EqTy)(m k v:AOpd)(d:Option Nat)(os:List AOper)(e:Env)(σ:St)(K:Env->St->Prop):aI T (⟨d,.mapset sh m k v,none⟩::os) e σ K=bO (K:=⟨fun v σ'=>aI T os (Env.put e d v) σ' K⟩) (aop (.mapset sh m k v) e σ):=by simp only[aI,gM,bO]
theorem aQU(x:AOpd)(i:Nat)(d:Option Nat)(os:List AOper)(e:Env)(σ:St)(K:Env->St->Prop):aI T (⟨d,.ext x i,none⟩::os) e σ K=bO (K:=⟨fun v σ'=>aI T os (Env.put e d v) σ' K⟩) (aop (.ext x i) e σ):=by simp only[aI,gM,bO]
theorem aSS(k:Nat)(x:AOpd)(d:Option Nat)(os:List AOper)(e:Env)(σ:St)(K:Env->St->Prop):aI T (⟨d,.len k x,none⟩::os) e σ K=bO (K:=⟨fun v σ'=>aI T os (Env.put e d v) σ' K⟩) (aop (.len k x) e σ):=by simp only[aI,gM,bO]
theorem XM(n b:Nat)(x y:AOpd)(d:Option Nat)(os:List AOper)(e:Env)(σ:St)(K:Env->St->Prop):aI T (⟨d,.append n b x y,none⟩::os) e σ K=bO (K:=⟨fun v σ'=>aI T os (Env.put e d v) σ' K⟩) (aop (.append n b x y) e σ):=by simp only[aI,gM,bO]
theorem aGN(n b:Nat)(x y:AOpd)(d:Option Nat)(os:List AOper)(e:Env)(σ:St)(K:Env->St->Prop):aI T (⟨d,.apref n b x y,none⟩::os) e σ K=bO (K:=⟨fun v σ'=>aI T os (Env.put e d v) σ' K⟩) (aop (.apref n b x y) e σ):=by simp only[aI,gM,bO]
theorem aMS(n:Nat)(x y:AOpd)(d:Option Nat)(os:List AOper)(e:Env)(σ:St)(K:Env->St->Prop):aI T (⟨d,.copy n x y,none⟩::os) e σ K=bO (K:=⟨fun v σ'=>aI T os (Env.put e d v) σ' K⟩) (aop (.copy n x y) e σ):=by simp only[aI,gM,bO]
theorem aP7(xs:List AOpd)(d:Option Nat)(os:List AOper)(e:Env)(σ:St)(K:Env->St->Prop):aI T (⟨d,.min xs,none⟩::os) e σ K=bO (K:=⟨fun v σ'=>aI T os (Env.put e d v) σ' K⟩) (aop (.min xs) e σ):=by simp only[aI,gM,bO]
theorem aOC(xs:List AOpd)(d:Option Nat)(os:List AOper)(e:Env)(σ:St)(K:Env->St->Prop):aI T (⟨d,.max xs,none⟩::os) e σ K=bO (K:=⟨fun v σ'=>aI T os (Env.put e d v) σ' K⟩) (aop (.max xs) e σ):=by simp only[aI,gM,bO]
theorem aCZ(x:AOpd)(d:Option Nat)(os:List AOper)(e:Env)(σ:St)(K:Env->St->Prop):aI T (⟨d,.srange x,none⟩::os) e σ K=bO (K:=⟨fun v σ'=>aI T os (Env.put e d v) σ' K⟩) (aop (.srange x) e σ):=by simp only[aI,gM,bO]
theorem aER(x:AOpd)(d:Option Nat)(os:List AOper)(e:Env)(σ:St)(K:Env->St->Prop):aI T (⟨d,.snext x,none⟩::os) e σ K=bO (K:=⟨fun v σ'=>aI T os (Env.put e d v) σ' K⟩) (aop (.snext x) e σ):=by simp only[aI,gM,bO]
theorem aJL(f:AOpd)(xs:List AOpd)(d:Option Nat)(os:List AOper)(e:Env)(σ:St)(K:Env->St->Prop):aI T (⟨d,.call f xs,none⟩::os) e σ K=cK (K:=⟨fun v σ'=>aI T os (Env.put e d v) σ' K⟩) T (f.ev e) (evs e xs) σ:=by simp only[aI,gM,nD,cK]
theorem aGG(b:Bool)(A B:HP Prop):bB (.bool b) (A:=A) (B:=B)=AJ (A:=A) (B:=B) b:=by cases b<;>simp[bB,CQ,AJ]
theorem Z1(b:Bool)(A B:HP Prop):bG (.bool b) true (A:=A) (B:=B)=AJ (A:=A) (B:=B) b:=by cases b<;>simp[bG,oP,AJ]
theorem W0(b:Bool)(A B:HP Prop):bG (.bool b) false (A:=A) (B:=B)=AJ (A:=B) (B:=A) b:=by cases b<;>simp[bG,oP,AJ]
theorem VR(w:Bool)(A:HP Prop)(B:Prop):bG (.tuple []) w (A:=A) (B:=⟨B⟩)=B:=by simp[bG,oP]
theorem aGO(d:Option Nat)(q:AOp)(t:Nat)(want:Bool)(os:List AOper)(e:Env)(σ:St)(K:Env->St->Prop):aI T (⟨d,q,some (t,want)⟩::os) e σ K =
  bG (A:=⟨aI T (⟨d,q,none⟩::os) e σ K⟩) (B:=⟨aI T os (Env.put e d (.tuple [])) σ K⟩) (Env.get e t) want:=by simp only[aI,bG]
theorem aRF(ds:List ADOper)(e:Env)(σ:St)(K:KJ):wp T (.dreg ds) e σ K=rK (K:=⟨K⟩) T (.dreg ds) e σ:=by simp only[wp,rK]
theorem O7{ds:List ADOper}{e:Env}{σ:St}{K:KJ}(h:wpD T ds e (σ++dC ds) σ.length [σ++dC ds] [] fun e σ=>K none e σ):rK (K:=⟨K⟩) T (.dreg ds) e σ:=.dreg (k9 h fun e σ hk=>hk)
theorem aNT(e:Env)(σ:St)(next:Nat)(hist:List St)(reads:List ARead)(K:Env->St->Prop):wpD T [] e σ next hist reads K=(rF reads hist/\K e σ):=by simp only[wpD]
theorem aLC(f:AOpd)(xs:List AOpd)(d:Option Nat)(lo hi:Nat)(ds:List ADOper)(e:Env)(σ:St)(next:Nat)(hist:List St)(reads:List ARead)(K:Env->St->Prop):
  wpD T (⟨⟨d,.call f xs,none⟩,lo,hi⟩::ds) e σ next hist reads K=cD (K:=⟨fun v σ'=>wpD T ds (Env.put e d v) σ' next (hist++[σ']) reads K⟩) T (f.ev e) (evs e xs) σ:=by simp only[wpD,nD,cD]
theorem aEF(z:List AV)(d:Option Nat)(lo hi:Nat)(ds:List ADOper)(e:Env)(σ:St)(next:Nat)(hist:List St)(reads:List ARead)(K:Env->St->Prop):
  wpD T (⟨⟨d,.alloc z,none⟩,lo,hi⟩::ds) e σ next hist reads K=wpD T ds (Env.put e d (.ptr next 0)) σ (next+1) hist reads K:=by simp only[wpD]
def u7(lo hi:Nat)(q:AOp)(e:Env)(v:AV):List St->Nat->Prop
 |[],_=>True
 |s::ss,j=>(if lo<=j/\j<=hi then aop q e s=some (v,s) else True)/\u7 lo hi q e v ss (j+1)
theorem LG(r:ARead):∀ (ss:List St) (j:Nat),u7 r.lo r.hi r.op r.env r.v ss j=EQ r ss j
 |[],j=>by simp only[u7,EQ]
 |s::ss,j=>by simp only[u7,EQ,LG r ss (j+1)]
theorem UN(hist:List St):rF [] hist=True:=by simp only[rF]
theorem aA7(lo hi:Nat)(q:AOp)(e:Env)(v:AV)(rs:List ARead)(hist:List St):rF (⟨lo,hi,q,e,v⟩::rs) hist=(u7 lo hi q e v hist 0/\rF rs hist):=by
 simp only[rF];rw[<-LG]
theorem aG2(lo hi:Nat)(q:AOp)(e:Env)(v:AV)(j:Nat):u7 lo hi q e v [] j=True:=by simp only[u7]
theorem aDT(lo hi:Nat)(q:AOp)(e:Env)(v:AV)(s:St)(ss:List St)(j:Nat):u7 lo hi q e v (s::ss) j=((if lo<=j/\j<=hi then aop q e s=some (v,s) else True)/\u7 lo hi q e v ss (j+1)):=by simp only[u7]
theorem aQN(x:AOpd)(d:Option Nat)(wl wh:Nat)(ds:List ADOper)(e:Env)(σ:St)(next:Nat)(hist:List St)(reads:List ARead)(K:Env->St->Prop):wpD T (⟨⟨d,.mov x,none⟩,wl,wh⟩::ds) e σ next hist reads K=bO (K:=⟨fun v σ'=>σ'=σ/\wpD T ds (Env.put e d v) σ next hist reads K⟩) (aop (.mov x) e σ):=by
 simp only[wpD,bO,AOp.acts,AOp.reads,if_true,Bool.false_eq_true,if_false]
theorem aJ2(c x y:AOpd)(d:Option Nat)(wl wh:Nat)(ds:List ADOper)(e:Env)(σ:St)(next:Nat)(hist:List St)(reads:List ARead)(K:Env->St->Prop):wpD T (⟨⟨d,.pick c x y,none⟩,wl,wh⟩::ds) e σ next hist reads K=bO (K:=⟨fun v σ'=>σ'=σ/\wpD T ds (Env.put e d v) σ next hist reads K⟩) (aop (.pick c x y) e σ):=by
 simp only[wpD,bO,AOp.acts,AOp.reads,if_true,Bool.false_eq_true,if_false]
theorem aQT(n:Nat)(x:AOpd)(d:Option Nat)(wl wh:Nat)(ds:List ADOper)(e:Env)(σ:St)(next:Nat)(hist:List St)(reads:List ARead)(K:Env->St->Prop):wpD T (⟨⟨d,.box n x,none⟩,wl,wh⟩::ds) e σ next hist reads K=bO (K:=⟨fun v σ'=>wpD T ds (Env.put e d v) σ' next (hist++[σ']) reads K⟩) (aop (.box n x) e σ):=by
 simp only[wpD,bO,AOp.acts,AOp.reads,if_true,Bool.false_eq_true,if_false]
theorem aDX(z:List AV)(ps:List (Nat×Nat×AOpd))(d:Option Nat)(wl wh:Nat)(ds:List ADOper)(e:Env)(σ:St)(next:Nat)(hist:List St)(reads:List ARead)(K:Env->St->Prop):wpD T (⟨⟨d,.build z ps,none⟩,wl,wh⟩::ds) e σ next hist reads K=bO (K:=⟨fun v σ'=>σ'=σ/\wpD T ds (Env.put e d v) σ next hist reads K⟩) (aop (.build z ps) e σ):=by
 simp only[wpD,bO,AOp.acts,AOp.reads,if_true,Bool.false_eq_true,if_false]
theorem aEQ(n:Nat)(xs:List AOpd)(d:Option Nat)(wl wh:Nat)(ds:List ADOper)(e:Env)(σ:St)(next:Nat)(hist:List St)(reads:List ARead)(K:Env->St->Prop):wpD T (⟨⟨d,.mklit n xs,none⟩,wl,wh⟩::ds) e σ next hist reads K=bO (K:=⟨fun v σ'=>σ'=σ/\wpD T ds (Env.put e d v) σ next hist reads K⟩) (aop (.mklit n xs) e σ):=by
 simp only[wpD,bO,AOp.acts,AOp.reads,if_true,Bool.false_eq_true,if_false]
theorem aG0(n:Nat)(xs:List AOpd)(d:Option Nat)(wl wh:Nat)(ds:List ADOper)(e:Env)(σ:St)(next:Nat)(hist:List St)(reads:List ARead)(K:Env->St->Prop):wpD T (⟨⟨d,.mkref n xs,none⟩,wl,wh⟩::ds) e σ next hist reads K=bO (K:=⟨fun v σ'=>wpD T ds (Env.put e d v) σ' next (hist++[σ']) reads K⟩) (aop (.mkref n xs) e σ):=by
 simp only[wpD,bO,AOp.acts,AOp.reads,if_true,Bool.false_eq_true,if_false]
theorem aI1(sh:Option Nat)(x:AOpd)(d:Option Nat)(wl wh:Nat)(ds:List ADOper)(e:Env)(σ:St)(next:Nat)(hist:List St)(reads:List ARead)(K:Env->St->Prop):wpD T (⟨⟨d,.load sh x,none⟩,wl,wh⟩::ds) e σ next hist reads K=bO (K:=⟨fun v σ'=>σ'=σ/\wpD T ds (Env.put e d v) σ next hist (⟨wl,wh,.load sh x,e,v⟩::reads) K⟩) (aop (.load sh x) e σ):=by
 simp only[wpD,bO,AOp.acts,AOp.reads,if_true,Bool.false_eq_true,if_false]
theorem aDR(n:Nat)(x y:AOpd)(d:Option Nat)(wl wh:Nat)(ds:List ADOper)(e:Env)(σ:St)(next:Nat)(hist:List St)(reads:List ARead)(K:Env->St->Prop):wpD T (⟨⟨d,.store n x y,none⟩,wl,wh⟩::ds) e σ next hist reads K=bO (K:=⟨fun v σ'=>wpD T ds (Env.put e d v) σ' next (hist++[σ']) reads K⟩) (aop (.store n x y) e σ):=by
 simp only[wpD,bO,AOp.acts,AOp.reads,if_true,Bool.false_eq_true,if_false]
theorem M4(x:AOpd)(d:Option Nat)(wl wh:Nat)(ds:List ADOper)(e:Env)(σ:St)(next:Nat)(hist:List St)(reads:List ARead)(K:Env->St->Prop):wpD T (⟨⟨d,.nilCheck x,none⟩,wl,wh⟩::ds) e σ next hist reads K=bO (K:=⟨fun v σ'=>σ'=σ/\wpD T ds (Env.put e d v) σ next hist reads K⟩) (aop (.nilCheck x) e σ):=by
 simp only[wpD,bO,AOp.acts,AOp.reads,if_true,Bool.false_eq_true,if_false]
theorem aQJ(op:BinOp)(x y:AOpd)(d:Option Nat)(wl wh:Nat)(ds:List ADOper)(e:Env)(σ:St)(next:Nat)(hist:List St)(reads:List ARead)(K:Env->St->Prop):wpD T (⟨⟨d,.bin op x y,none⟩,wl,wh⟩::ds) e σ next hist reads K=bO (K:=⟨fun v σ'=>σ'=σ/\wpD T ds (Env.put e d v) σ next hist reads K⟩) (aop (.bin op x y) e σ):=by
 simp only[wpD,bO,AOp.acts,AOp.reads,if_true,Bool.false_eq_true,if_false]
theorem aNV(sh:EqTy)(n:Bool)(x y:AOpd)(d:Option Nat)(wl wh:Nat)(ds:List ADOper)(e:Env)(σ:St)(next:Nat)(hist:List St)(reads:List ARead)(K:Env->St->Prop):wpD T (⟨⟨d,.eql sh n x y,none⟩,wl,wh⟩::ds) e σ next hist reads K=bO (K:=⟨fun v σ'=>σ'=σ/\wpD T ds (Env.put e d v) σ next hist reads K⟩) (aop (.eql sh n x y) e σ):=by
 simp only[wpD,bO,AOp.acts,AOp.reads,if_true,Bool.false_eq_true,if_false]
theorem aR0(x:AOpd)(d:Option Nat)(wl wh:Nat)(ds:List ADOper)(e:Env)(σ:St)(next:Nat)(hist:List St)(reads:List ARead)(K:Env->St->Prop):wpD T (⟨⟨d,.not x,none⟩,wl,wh⟩::ds) e σ next hist reads K=bO (K:=⟨fun v σ'=>σ'=σ/\wpD T ds (Env.put e d v) σ next hist reads K⟩) (aop (.not x) e σ):=by
 simp only[wpD,bO,AOp.acts,AOp.reads,if_true,Bool.false_eq_true,if_false]
theorem aP5(x:AOpd)(d:Option Nat)(wl wh:Nat)(ds:List ADOper)(e:Env)(σ:St)(next:Nat)(hist:List St)(reads:List ARead)(K:Env->St->Prop):wpD T (⟨⟨d,.neg x,none⟩,wl,wh⟩::ds) e σ next hist reads K=bO (K:=⟨fun v σ'=>σ'=σ/\wpD T ds (Env.put e d v) σ next hist reads K⟩) (aop (.neg x) e σ):=by
 simp only[wpD,bO,AOp.acts,AOp.reads,if_true,Bool.false_eq_true,if_false]
theorem aJA(k:IntKind)(x:AOpd)(d:Option Nat)(wl wh:Nat)(ds:List ADOper)(e:Env)(σ:St)(next:Nat)(hist:List St)(reads:List ARead)(K:Env->St->Prop):wpD T (⟨⟨d,.conv k x,none⟩,wl,wh⟩::ds) e σ next hist reads K=bO (K:=⟨fun v σ'=>σ'=σ/\wpD T ds (Env.put e d v) σ next hist reads K⟩) (aop (.conv k x) e σ):=by
 simp only[wpD,bO,AOp.acts,AOp.reads,if_true,Bool.false_eq_true,if_false]
theorem aFF(f:FuncId)(xs ys:List AOpd)(d:Option Nat)(wl wh:Nat)(ds:List ADOper)(e:Env)(σ:St)(next:Nat)(hist:List St)(reads:List ARead)(K:Env->St->Prop):wpD T (⟨⟨d,.mkfun f xs ys,none⟩,wl,wh⟩::ds) e σ next hist reads K=bO (K:=⟨fun v σ'=>σ'=σ/\wpD T ds (Env.put e d v) σ next hist reads K⟩) (aop (.mkfun f xs ys) e σ):=by
 simp only[wpD,bO,AOp.acts,AOp.reads,if_true,Bool.false_eq_true,if_false]
theorem aD8(d:Option Nat)(wl wh:Nat)(ds:List ADOper)(e:Env)(σ:St)(next:Nat)(hist:List St)(reads:List ARead)(K:Env->St->Prop):wpD T (⟨⟨d,.mkmap,none⟩,wl,wh⟩::ds) e σ next hist reads K=bO (K:=⟨fun v σ'=>wpD T ds (Env.put e d v) σ' next (hist++[σ']) reads K⟩) (aop (.mkmap) e σ):=by
 simp only[wpD,bO,AOp.acts,AOp.reads,if_true,Bool.false_eq_true,if_false]
theorem UH(z:List AV)(b:Nat)(x y:AOpd)(d:Option Nat)(wl wh:Nat)(ds:List ADOper)(e:Env)(σ:St)(next:Nat)(hist:List St)(reads:List ARead)(K:Env->St->Prop):wpD T (⟨⟨d,.mkslice z b x y,none⟩,wl,wh⟩::ds) e σ next hist reads K=bO (K:=⟨fun v σ'=>wpD T ds (Env.put e d v) σ' next (hist++[σ']) reads K⟩) (aop (.mkslice z b x y) e σ):=by
 simp only[wpD,bO,AOp.acts,AOp.reads,if_true,Bool.false_eq_true,if_false]
theorem aCB(n:Nat)(x:AOpd)(lo hi mx:Option AOpd)(d:Option Nat)(wl wh:Nat)(ds:List ADOper)(e:Env)(σ:St)(next:Nat)(hist:List St)(reads:List ARead)(K:Env->St->Prop):wpD T (⟨⟨d,.slicev n x lo hi mx,none⟩,wl,wh⟩::ds) e σ next hist reads K=bO (K:=⟨fun v σ'=>σ'=σ/\wpD T ds (Env.put e d v) σ next hist (⟨wl,wh,.slicev n x lo hi mx,e,v⟩::reads) K⟩) (aop (.slicev n x lo hi mx) e σ):=by
 simp only[wpD,bO,AOp.acts,AOp.reads,if_true,Bool.false_eq_true,if_false]
theorem ZL(n s:Nat)(x:AOpd)(lo hi:Option AOpd)(d:Option Nat)(wl wh:Nat)(ds:List ADOper)(e:Env)(σ:St)(next:Nat)(hist:List St)(reads:List ARead)(K:Env->St->Prop):wpD T (⟨⟨d,.slicea n s x lo hi,none⟩,wl,wh⟩::ds) e σ next hist reads K=bO (K:=⟨fun v σ'=>σ'=σ/\wpD T ds (Env.put e d v) σ next hist reads K⟩) (aop (.slicea n s x lo hi) e σ):=by
 simp only[wpD,bO,AOp.acts,AOp.reads,if_true,Bool.false_eq_true,if_false]
theorem aGP(x:AOpd)(o:Nat)(d:Option Nat)(wl wh:Nat)(ds:List ADOper)(e:Env)(σ:St)(next:Nat)(hist:List St)(reads:List ARead)(K:Env->St->Prop):wpD T (⟨⟨d,.faddr x o,none⟩,wl,wh⟩::ds) e σ next hist reads K=bO (K:=⟨fun v σ'=>σ'=σ/\wpD T ds (Env.put e d v) σ next hist reads K⟩) (aop (.faddr x o) e σ):=by
 simp only[wpD,bO,AOp.acts,AOp.reads,if_true,Bool.false_eq_true,if_false]
theorem aDC(x:AOpd)(o:Nat)(sh:Option Nat)(d:Option Nat)(wl wh:Nat)(ds:List ADOper)(e:Env)(σ:St)(next:Nat)(hist:List St)(reads:List ARead)(K:Env->St->Prop):wpD T (⟨⟨d,.field x o sh,none⟩,wl,wh⟩::ds) e σ next hist reads K=bO (K:=⟨fun v σ'=>σ'=σ/\wpD T ds (Env.put e d v) σ next hist reads K⟩) (aop (.field x o sh) e σ):=by
 simp only[wpD,bO,AOp.acts,AOp.reads,if_true,Bool.false_eq_true,if_false]
theorem aDZ(a:Option Nat)(s:Nat)(x i:AOpd)(d:Option Nat)(wl wh:Nat)(ds:List ADOper)(e:Env)(σ:St)(next:Nat)(hist:List St)(reads:List ARead)(K:Env->St->Prop):wpD T (⟨⟨d,.iaddr a s x i,none⟩,wl,wh⟩::ds) e σ next hist reads K=bO (K:=⟨fun v σ'=>σ'=σ/\wpD T ds (Env.put e d v) σ next hist reads K⟩) (aop (.iaddr a s x i) e σ):=by
 simp only[wpD,bO,AOp.acts,AOp.reads,if_true,Bool.false_eq_true,if_false]
theorem aFV(n s:Nat)(sh:Option Nat)(x i:AOpd)(d:Option Nat)(wl wh:Nat)(ds:List ADOper)(e:Env)(σ:St)(next:Nat)(hist:List St)(reads:List ARead)(K:Env->St->Prop):wpD T (⟨⟨d,.index n s sh x i,none⟩,wl,wh⟩::ds) e σ next hist reads K=bO (K:=⟨fun v σ'=>σ'=σ/\wpD T ds (Env.put e d v) σ next hist reads K⟩) (aop (.index n s sh x i) e σ):=by
 simp only[wpD,bO,AOp.acts,AOp.reads,if_true,Bool.false_eq_true,if_false]
theorem aAZ(x i:AOpd)(d:Option Nat)(wl wh:Nat)(ds:List ADOper)(e:Env)(σ:St)(next:Nat)(hist:List St)(reads:List ARead)(K:Env->St->Prop):wpD T (⟨⟨d,.sindex x i,none⟩,wl,wh⟩::ds) e σ next hist reads K=bO (K:=⟨fun v σ'=>σ'=σ/\wpD T ds (Env.put e d v) σ next hist reads K⟩) (aop (.sindex x i) e σ):=by
 simp only[wpD,bO,AOp.acts,AOp.reads,if_true,Bool.false_eq_true,if_false]
theorem aAJ(sh:EqTy)(ok:Bool)(z:AV)(m k:AOpd)(d:Option Nat)(wl wh:Nat)(ds:List ADOper)(e:Env)(σ:St)(next:Nat)(hist:List St)(reads:List ARead)(K:Env->St->Prop):wpD T (⟨⟨d,.lookup sh ok z m k,none⟩,wl,wh⟩::ds) e σ next hist reads K=bO (K:=⟨fun v σ'=>σ'=σ/\wpD T ds (Env.put e d v) σ next hist (⟨wl,wh,.lookup sh ok z m k,e,v⟩::reads) K⟩) (aop (.lookup sh ok z m k) e σ):=by
 simp only[wpD,bO,AOp.acts,AOp.reads,if_true,Bool.false_eq_true,if_false]
theorem ZS(sh:EqTy)(m k v:AOpd)(d:Option Nat)(wl wh:Nat)(ds:List ADOper)(e:Env)(σ:St)(next:Nat)(hist:List St)(reads:List ARead)(K:Env->St->Prop):wpD T (⟨⟨d,.mapset sh m k v,none⟩,wl,wh⟩::ds) e σ next hist reads K=bO (K:=⟨fun v σ'=>wpD T ds (Env.put e d v) σ' next (hist++[σ']) reads K⟩) (aop (.mapset sh m k v) e σ):=by
 simp only[wpD,bO,AOp.acts,AOp.reads,if_true,Bool.false_eq_true,if_false]
theorem aSK(x:AOpd)(i:Nat)(d:Option Nat)(wl wh:Nat)(ds:List ADOper)(e:Env)(σ:St)(next:Nat)(hist:List St)(reads:List ARead)(K:Env->St->Prop):wpD T (⟨⟨d,.ext x i,none⟩,wl,wh⟩::ds) e σ next hist reads K=bO (K:=⟨fun v σ'=>σ'=σ/\wpD T ds (Env.put e d v) σ next hist reads K⟩) (aop (.ext x i) e σ):=by
 simp only[wpD,bO,AOp.acts,AOp.reads,if_true,Bool.false_eq_true,if_false]
theorem aRI(k:Nat)(x:AOpd)(d:Option Nat)(wl wh:Nat)(ds:List ADOper)(e:Env)(σ:St)(next:Nat)(hist:List St)(reads:List ARead)(K:Env->St->Prop):wpD T (⟨⟨d,.len k x,none⟩,wl,wh⟩::ds) e σ next hist reads K=bO (K:=⟨fun v σ'=>σ'=σ/\wpD T ds (Env.put e d v) σ next hist (⟨wl,wh,.len k x,e,v⟩::reads) K⟩) (aop (.len k x) e σ):=by
 simp only[wpD,bO,AOp.acts,AOp.reads,if_true,Bool.false_eq_true,if_false]
theorem U9(n b:Nat)(x y:AOpd)(d:Option Nat)(wl wh:Nat)(ds:List ADOper)(e:Env)(σ:St)(next:Nat)(hist:List St)(reads:List ARead)(K:Env->St->Prop):wpD T (⟨⟨d,.append n b x y,none⟩,wl,wh⟩::ds) e σ next hist reads K=bO (K:=⟨fun v σ'=>wpD T ds (Env.put e d v) σ' next (hist++[σ']) reads K⟩) (aop (.append n b x y) e σ):=by
 simp only[wpD,bO,AOp.acts,AOp.reads,if_true,Bool.false_eq_true,if_false]
theorem aGA(n b:Nat)(x y:AOpd)(d:Option Nat)(wl wh:Nat)(ds:List ADOper)(e:Env)(σ:St)(next:Nat)(hist:List St)(reads:List ARead)(K:Env->St->Prop):wpD T (⟨⟨d,.apref n b x y,none⟩,wl,wh⟩::ds) e σ next hist reads K=bO (K:=⟨fun v σ'=>wpD T ds (Env.put e d v) σ' next (hist++[σ']) reads K⟩) (aop (.apref n b x y) e σ):=by
 simp only[wpD,bO,AOp.acts,AOp.reads,if_true,Bool.false_eq_true,if_false]
theorem aJQ(n:Nat)(x y:AOpd)(d:Option Nat)(wl wh:Nat)(ds:List ADOper)(e:Env)(σ:St)(next:Nat)(hist:List St)(reads:List ARead)(K:Env->St->Prop):wpD T (⟨⟨d,.copy n x y,none⟩,wl,wh⟩::ds) e σ next hist reads K=bO (K:=⟨fun v σ'=>wpD T ds (Env.put e d v) σ' next (hist++[σ']) reads K⟩) (aop (.copy n x y) e σ):=by
 simp only[wpD,bO,AOp.acts,AOp.reads,if_true,Bool.false_eq_true,if_false]
theorem aRL(xs:List AOpd)(d:Option Nat)(wl wh:Nat)(ds:List ADOper)(e:Env)(σ:St)(next:Nat)(hist:List St)(reads:List ARead)(K:Env->St->Prop):wpD T (⟨⟨d,.min xs,none⟩,wl,wh⟩::ds) e σ next hist reads K=bO (K:=⟨fun v σ'=>σ'=σ/\wpD T ds (Env.put e d v) σ next hist reads K⟩) (aop (.min xs) e σ):=by
 simp only[wpD,bO,AOp.acts,AOp.reads,if_true,Bool.false_eq_true,if_false]
theorem aRT(xs:List AOpd)(d:Option Nat)(wl wh:Nat)(ds:List ADOper)(e:Env)(σ:St)(next:Nat)(hist:List St)(reads:List ARead)(K:Env->St->Prop):wpD T (⟨⟨d,.max xs,none⟩,wl,wh⟩::ds) e σ next hist reads K=bO (K:=⟨fun v σ'=>σ'=σ/\wpD T ds (Env.put e d v) σ next hist reads K⟩) (aop (.max xs) e σ):=by
 simp only[wpD,bO,AOp.acts,AOp.reads,if_true,Bool.false_eq_true,if_false]
theorem YD(x:AOpd)(d:Option Nat)(wl wh:Nat)(ds:List ADOper)(e:Env)(σ:St)(next:Nat)(hist:List St)(reads:List ARead)(K:Env->St->Prop):wpD T (⟨⟨d,.srange x,none⟩,wl,wh⟩::ds) e σ next hist reads K=bO (K:=⟨fun v σ'=>wpD T ds (Env.put e d v) σ' next (hist++[σ']) reads K⟩) (aop (.srange x) e σ):=by
 simp only[wpD,bO,AOp.acts,AOp.reads,if_true,Bool.false_eq_true,if_false]
theorem aGB(x:AOpd)(d:Option Nat)(wl wh:Nat)(ds:List ADOper)(e:Env)(σ:St)(next:Nat)(hist:List St)(reads:List ARead)(K:Env->St->Prop):wpD T (⟨⟨d,.snext x,none⟩,wl,wh⟩::ds) e σ next hist reads K=bO (K:=⟨fun v σ'=>wpD T ds (Env.put e d v) σ' next (hist++[σ']) reads K⟩) (aop (.snext x) e σ):=by
 simp only[wpD,bO,AOp.acts,AOp.reads,if_true,Bool.false_eq_true,if_false]
theorem Z9(f:AOpd)(xs:List AOpd)(t:Nat)(want:Bool)(d:Option Nat)(wl wh:Nat)(ds:List ADOper)(e:Env)(σ:St)(next:Nat)(hist:List St)(reads:List ARead)(K:Env->St->Prop):wpD T (⟨⟨d,.call f xs,some (t,want)⟩,wl,wh⟩::ds) e σ next hist reads K =
  bG (A:=⟨wpD T (⟨⟨d,.call f xs,none⟩,wl,wh⟩::ds) e σ next hist reads K⟩) (B:=⟨wpD T ds (Env.put e d (.tuple [])) σ next (hist++[σ]) reads K⟩) (Env.get e t) want:=by simp only[wpD,bG]
theorem aPK(x:AOpd)(t:Nat)(want:Bool)(d:Option Nat)(wl wh:Nat)(ds:List ADOper)(e:Env)(σ:St)(next:Nat)(hist:List St)(reads:List ARead)(K:Env->St->Prop):wpD T (⟨⟨d,.mov x,some (t,want)⟩,wl,wh⟩::ds) e σ next hist reads K =
  bG (A:=⟨wpD T (⟨⟨d,.mov x,none⟩,wl,wh⟩::ds) e σ next hist reads K⟩) (B:=⟨wpD T ds (Env.put e d (.tuple [])) σ next hist reads K⟩) (Env.get e t) want:=by
 simp only[wpD,bG,AOp.allocs,AOp.acts,true_and,if_true,Bool.false_eq_true,if_false]
theorem aKB(c x y:AOpd)(t:Nat)(want:Bool)(d:Option Nat)(wl wh:Nat)(ds:List ADOper)(e:Env)(σ:St)(next:Nat)(hist:List St)(reads:List ARead)(K:Env->St->Prop):wpD T (⟨⟨d,.pick c x y,some (t,want)⟩,wl,wh⟩::ds) e σ next hist reads K =
  bG (A:=⟨wpD T (⟨⟨d,.pick c x y,none⟩,wl,wh⟩::ds) e σ next hist reads K⟩) (B:=⟨wpD T ds (Env.put e d (.tuple [])) σ next hist reads K⟩) (Env.get e t) want:=by
 simp only[wpD,bG,AOp.allocs,AOp.acts,true_and,if_true,Bool.false_eq_true,if_false]
theorem aQY(n:Nat)(x:AOpd)(t:Nat)(want:Bool)(d:Option Nat)(wl wh:Nat)(ds:List ADOper)(e:Env)(σ:St)(next:Nat)(hist:List St)(reads:List ARead)(K:Env->St->Prop):wpD T (⟨⟨d,.box n x,some (t,want)⟩,wl,wh⟩::ds) e σ next hist reads K =
  bG (A:=⟨wpD T (⟨⟨d,.box n x,none⟩,wl,wh⟩::ds) e σ next hist reads K⟩) (B:=⟨wpD T ds (Env.put e d (.tuple [])) σ next (hist++[σ]) reads K⟩) (Env.get e t) want:=by
 simp only[wpD,bG,AOp.allocs,AOp.acts,true_and,if_true,Bool.false_eq_true,if_false]
theorem aFL(z:List AV)(ps:List (Nat×Nat×AOpd))(t:Nat)(want:Bool)(d:Option Nat)(wl wh:Nat)(ds:List ADOper)(e:Env)(σ:St)(next:Nat)(hist:List St)(reads:List ARead)(K:Env->St->Prop):wpD T (⟨⟨d,.build z ps,some (t,want)⟩,wl,wh⟩::ds) e σ next hist reads K =
  bG (A:=⟨wpD T (⟨⟨d,.build z ps,none⟩,wl,wh⟩::ds) e σ next hist reads K⟩) (B:=⟨wpD T ds (Env.put e d (.tuple [])) σ next hist reads K⟩) (Env.get e t) want:=by
 simp only[wpD,bG,AOp.allocs,AOp.acts,true_and,if_true,Bool.false_eq_true,if_false]
theorem aDV(n:Nat)(xs:List AOpd)(t:Nat)(want:Bool)(d:Option Nat)(wl wh:Nat)(ds:List ADOper)(e:Env)(σ:St)(next:Nat)(hist:List St)(reads:List ARead)(K:Env->St->Prop):wpD T (⟨⟨d,.mklit n xs,some (t,want)⟩,wl,wh⟩::ds) e σ next hist reads K =
  bG (A:=⟨wpD T (⟨⟨d,.mklit n xs,none⟩,wl,wh⟩::ds) e σ next hist reads K⟩) (B:=⟨wpD T ds (Env.put e d (.tuple [])) σ next hist reads K⟩) (Env.get e t) want:=by
 simp only[wpD,bG,AOp.allocs,AOp.acts,true_and,if_true,Bool.false_eq_true,if_false]
theorem aGD(n:Nat)(xs:List AOpd)(t:Nat)(want:Bool)(d:Option Nat)(wl wh:Nat)(ds:List ADOper)(e:Env)(σ:St)(next:Nat)(hist:List St)(reads:List ARead)(K:Env->St->Prop):wpD T (⟨⟨d,.mkref n xs,some (t,want)⟩,wl,wh⟩::ds) e σ next hist reads K =
  bG (A:=⟨wpD T (⟨⟨d,.mkref n xs,none⟩,wl,wh⟩::ds) e σ next hist reads K⟩) (B:=⟨wpD T ds (Env.put e d (.tuple [])) σ next (hist++[σ]) reads K⟩) (Env.get e t) want:=by
 simp only[wpD,bG,AOp.allocs,AOp.acts,true_and,if_true,Bool.false_eq_true,if_false]
theorem aMT(sh:Option Nat)(x:AOpd)(t:Nat)(want:Bool)(d:Option Nat)(wl wh:Nat)(ds:List ADOper)(e:Env)(σ:St)(next:Nat)(hist:List St)(reads:List ARead)(K:Env->St->Prop):wpD T (⟨⟨d,.load sh x,some (t,want)⟩,wl,wh⟩::ds) e σ next hist reads K =
  bG (A:=⟨wpD T (⟨⟨d,.load sh x,none⟩,wl,wh⟩::ds) e σ next hist reads K⟩) (B:=⟨wpD T ds (Env.put e d (.tuple [])) σ next hist reads K⟩) (Env.get e t) want:=by
 simp only[wpD,bG,AOp.allocs,AOp.acts,true_and,if_true,Bool.false_eq_true,if_false]
theorem aDW(n:Nat)(x y:AOpd)(t:Nat)(want:Bool)(d:Option Nat)(wl wh:Nat)(ds:List ADOper)(e:Env)(σ:St)(next:Nat)(hist:List St)(reads:List ARead)(K:Env->St->Prop):wpD T (⟨⟨d,.store n x y,some (t,want)⟩,wl,wh⟩::ds) e σ next hist reads K =
  bG (A:=⟨wpD T (⟨⟨d,.store n x y,none⟩,wl,wh⟩::ds) e σ next hist reads K⟩) (B:=⟨wpD T ds (Env.put e d (.tuple [])) σ next (hist++[σ]) reads K⟩) (Env.get e t) want:=by
 simp only[wpD,bG,AOp.allocs,AOp.acts,true_and,if_true,Bool.false_eq_true,if_false]
theorem NW(x:AOpd)(t:Nat)(want:Bool)(d:Option Nat)(wl wh:Nat)(ds:List ADOper)(e:Env)(σ:St)(next:Nat)(hist:List St)(reads:List ARead)(K:Env->St->Prop):wpD T (⟨⟨d,.nilCheck x,some (t,want)⟩,wl,wh⟩::ds) e σ next hist reads K =
  bG (A:=⟨wpD T (⟨⟨d,.nilCheck x,none⟩,wl,wh⟩::ds) e σ next hist reads K⟩) (B:=⟨wpD T ds (Env.put e d (.tuple [])) σ next hist reads K⟩) (Env.get e t) want:=by
 simp only[wpD,bG,AOp.allocs,AOp.acts,true_and,if_true,Bool.false_eq_true,if_false]
theorem aOX(op:BinOp)(x y:AOpd)(t:Nat)(want:Bool)(d:Option Nat)(wl wh:Nat)(ds:List ADOper)(e:Env)(σ:St)(next:Nat)(hist:List St)(reads:List ARead)(K:Env->St->Prop):wpD T (⟨⟨d,.bin op x y,some (t,want)⟩,wl,wh⟩::ds) e σ next hist reads K =
  bG (A:=⟨wpD T (⟨⟨d,.bin op x y,none⟩,wl,wh⟩::ds) e σ next hist reads K⟩) (B:=⟨wpD T ds (Env.put e d (.tuple [])) σ next hist reads K⟩) (Env.get e t) want:=by
 simp only[wpD,bG,AOp.allocs,AOp.acts,true_and,if_true,Bool.false_eq_true,if_false]
theorem aSP(sh:EqTy)(n:Bool)(x y:AOpd)(t:Nat)(want:Bool)(d:Option Nat)(wl wh:Nat)(ds:List ADOper)(e:Env)(σ:St)(next:Nat)(hist:List St)(reads:List ARead)(K:Env->St->Prop):wpD T (⟨⟨d,.eql sh n x y,some (t,want)⟩,wl,wh⟩::ds) e σ next hist reads K =
  bG (A:=⟨wpD T (⟨⟨d,.eql sh n x y,none⟩,wl,wh⟩::ds) e σ next hist reads K⟩) (B:=⟨wpD T ds (Env.put e d (.tuple [])) σ next hist reads K⟩) (Env.get e t) want:=by
 simp only[wpD,bG,AOp.allocs,AOp.acts,true_and,if_true,Bool.false_eq_true,if_false]
theorem aPJ(x:AOpd)(t:Nat)(want:Bool)(d:Option Nat)(wl wh:Nat)(ds:List ADOper)(e:Env)(σ:St)(next:Nat)(hist:List St)(reads:List ARead)(K:Env->St->Prop):wpD T (⟨⟨d,.not x,some (t,want)⟩,wl,wh⟩::ds) e σ next hist reads K =
  bG (A:=⟨wpD T (⟨⟨d,.not x,none⟩,wl,wh⟩::ds) e σ next hist reads K⟩) (B:=⟨wpD T ds (Env.put e d (.tuple [])) σ next hist reads K⟩) (Env.get e t) want:=by
 simp only[wpD,bG,AOp.allocs,AOp.acts,true_and,if_true,Bool.false_eq_true,if_false]
theorem aPO(x:AOpd)(t:Nat)(want:Bool)(d:Option Nat)(wl wh:Nat)(ds:List ADOper)(e:Env)(σ:St)(next:Nat)(hist:List St)(reads:List ARead)(K:Env->St->Prop):wpD T (⟨⟨d,.neg x,some (t,want)⟩,wl,wh⟩::ds) e σ next hist reads K =
  bG (A:=⟨wpD T (⟨⟨d,.neg x,none⟩,wl,wh⟩::ds) e σ next hist reads K⟩) (B:=⟨wpD T ds (Env.put e d (.tuple [])) σ next hist reads K⟩) (Env.get e t) want:=by
 simp only[wpD,bG,AOp.allocs,AOp.acts,true_and,if_true,Bool.false_eq_true,if_false]
theorem aL3(k:IntKind)(x:AOpd)(t:Nat)(want:Bool)(d:Option Nat)(wl wh:Nat)(ds:List ADOper)(e:Env)(σ:St)(next:Nat)(hist:List St)(reads:List ARead)(K:Env->St->Prop):wpD T (⟨⟨d,.conv k x,some (t,want)⟩,wl,wh⟩::ds) e σ next hist reads K =
  bG (A:=⟨wpD T (⟨⟨d,.conv k x,none⟩,wl,wh⟩::ds) e σ next hist reads K⟩) (B:=⟨wpD T ds (Env.put e d (.tuple [])) σ next hist reads K⟩) (Env.get e t) want:=by
 simp only[wpD,bG,AOp.allocs,AOp.acts,true_and,if_true,Bool.false_eq_true,if_false]
theorem aFW(f:FuncId)(xs ys:List AOpd)(t:Nat)(want:Bool)(d:Option Nat)(wl wh:Nat)(ds:List ADOper)(e:Env)(σ:St)(next:Nat)(hist:List St)(reads:List ARead)(K:Env->St->Prop):wpD T (⟨⟨d,.mkfun f xs ys,some (t,want)⟩,wl,wh⟩::ds) e σ next hist reads K =
  bG (A:=⟨wpD T (⟨⟨d,.mkfun f xs ys,none⟩,wl,wh⟩::ds) e σ next hist reads K⟩) (B:=⟨wpD T ds (Env.put e d (.tuple [])) σ next hist reads K⟩) (Env.get e t) want:=by
 simp only[wpD,bG,AOp.allocs,AOp.acts,true_and,if_true,Bool.false_eq_true,if_false]
theorem aE8(t:Nat)(want:Bool)(d:Option Nat)(wl wh:Nat)(ds:List ADOper)(e:Env)(σ:St)(next:Nat)(hist:List St)(reads:List ARead)(K:Env->St->Prop):wpD T (⟨⟨d,.mkmap,some (t,want)⟩,wl,wh⟩::ds) e σ next hist reads K =
  bG (A:=⟨wpD T (⟨⟨d,.mkmap,none⟩,wl,wh⟩::ds) e σ next hist reads K⟩) (B:=⟨wpD T ds (Env.put e d (.tuple [])) σ next (hist++[σ]) reads K⟩) (Env.get e t) want:=by
 simp only[wpD,bG,AOp.allocs,AOp.acts,true_and,if_true,Bool.false_eq_true,if_false]
theorem R3(z:List AV)(b:Nat)(x y:AOpd)(t:Nat)(want:Bool)(d:Option Nat)(wl wh:Nat)(ds:List ADOper)(e:Env)(σ:St)(next:Nat)(hist:List St)(reads:List ARead)(K:Env->St->Prop):wpD T (⟨⟨d,.mkslice z b x y,some (t,want)⟩,wl,wh⟩::ds) e σ next hist reads K =
  bG (A:=⟨wpD T (⟨⟨d,.mkslice z b x y,none⟩,wl,wh⟩::ds) e σ next hist reads K⟩) (B:=⟨wpD T ds (Env.put e d (.tuple [])) σ next (hist++[σ]) reads K⟩) (Env.get e t) want:=by
 simp only[wpD,bG,AOp.allocs,AOp.acts,true_and,if_true,Bool.false_eq_true,if_false]
theorem UQ(n:Nat)(x:AOpd)(lo hi mx:Option AOpd)(t:Nat)(want:Bool)(d:Option Nat)(wl wh:Nat)(ds:List ADOper)(e:Env)(σ:St)(next:Nat)(hist:List St)(reads:List ARead)(K:Env->St->Prop):wpD T (⟨⟨d,.slicev n x lo hi mx,some (t,want)⟩,wl,wh⟩::ds) e σ next hist reads K =
  bG (A:=⟨wpD T (⟨⟨d,.slicev n x lo hi mx,none⟩,wl,wh⟩::ds) e σ next hist reads K⟩) (B:=⟨wpD T ds (Env.put e d (.tuple [])) σ next hist reads K⟩) (Env.get e t) want:=by
 simp only[wpD,bG,AOp.allocs,AOp.acts,true_and,if_true,Bool.false_eq_true,if_false]
theorem aBN(n s:Nat)(x:AOpd)(lo hi:Option AOpd)(t:Nat)(want:Bool)(d:Option Nat)(wl wh:Nat)(ds:List ADOper)(e:Env)(σ:St)(next:Nat)(hist:List St)(reads:List ARead)(K:Env->St->Prop):wpD T (⟨⟨d,.slicea n s x lo hi,some (t,want)⟩,wl,wh⟩::ds) e σ next hist reads K =
  bG (A:=⟨wpD T (⟨⟨d,.slicea n s x lo hi,none⟩,wl,wh⟩::ds) e σ next hist reads K⟩) (B:=⟨wpD T ds (Env.put e d (.tuple [])) σ next hist reads K⟩) (Env.get e t) want:=by
 simp only[wpD,bG,AOp.allocs,AOp.acts,true_and,if_true,Bool.false_eq_true,if_false]
theorem aGE(x:AOpd)(o:Nat)(t:Nat)(want:Bool)(d:Option Nat)(wl wh:Nat)(ds:List ADOper)(e:Env)(σ:St)(next:Nat)(hist:List St)(reads:List ARead)(K:Env->St->Prop):wpD T (⟨⟨d,.faddr x o,some (t,want)⟩,wl,wh⟩::ds) e σ next hist reads K =
  bG (A:=⟨wpD T (⟨⟨d,.faddr x o,none⟩,wl,wh⟩::ds) e σ next hist reads K⟩) (B:=⟨wpD T ds (Env.put e d (.tuple [])) σ next hist reads K⟩) (Env.get e t) want:=by
 simp only[wpD,bG,AOp.allocs,AOp.acts,true_and,if_true,Bool.false_eq_true,if_false]
theorem aDB(x:AOpd)(o:Nat)(sh:Option Nat)(t:Nat)(want:Bool)(d:Option Nat)(wl wh:Nat)(ds:List ADOper)(e:Env)(σ:St)(next:Nat)(hist:List St)(reads:List ARead)(K:Env->St->Prop):wpD T (⟨⟨d,.field x o sh,some (t,want)⟩,wl,wh⟩::ds) e σ next hist reads K =
  bG (A:=⟨wpD T (⟨⟨d,.field x o sh,none⟩,wl,wh⟩::ds) e σ next hist reads K⟩) (B:=⟨wpD T ds (Env.put e d (.tuple [])) σ next hist reads K⟩) (Env.get e t) want:=by
 simp only[wpD,bG,AOp.allocs,AOp.acts,true_and,if_true,Bool.false_eq_true,if_false]
theorem aC9(a:Option Nat)(s:Nat)(x i:AOpd)(t:Nat)(want:Bool)(d:Option Nat)(wl wh:Nat)(ds:List ADOper)(e:Env)(σ:St)(next:Nat)(hist:List St)(reads:List ARead)(K:Env->St->Prop):wpD T (⟨⟨d,.iaddr a s x i,some (t,want)⟩,wl,wh⟩::ds) e σ next hist reads K =
  bG (A:=⟨wpD T (⟨⟨d,.iaddr a s x i,none⟩,wl,wh⟩::ds) e σ next hist reads K⟩) (B:=⟨wpD T ds (Env.put e d (.tuple [])) σ next hist reads K⟩) (Env.get e t) want:=by
 simp only[wpD,bG,AOp.allocs,AOp.acts,true_and,if_true,Bool.false_eq_true,if_false]
theorem aEJ(n s:Nat)(sh:Option Nat)(x i:AOpd)(t:Nat)(want:Bool)(d:Option Nat)(wl wh:Nat)(ds:List ADOper)(e:Env)(σ:St)(next:Nat)(hist:List St)(reads:List ARead)(K:Env->St->Prop):wpD T (⟨⟨d,.index n s sh x i,some (t,want)⟩,wl,wh⟩::ds) e σ next hist reads K =
  bG (A:=⟨wpD T (⟨⟨d,.index n s sh x i,none⟩,wl,wh⟩::ds) e σ next hist reads K⟩) (B:=⟨wpD T ds (Env.put e d (.tuple [])) σ next hist reads K⟩) (Env.get e t) want:=by
 simp only[wpD,bG,AOp.allocs,AOp.acts,true_and,if_true,Bool.false_eq_true,if_false]
theorem WK(x i:AOpd)(t:Nat)(want:Bool)(d:Option Nat)(wl wh:Nat)(ds:List ADOper)(e:Env)(σ:St)(next:Nat)(hist:List St)(reads:List ARead)(K:Env->St->Prop):wpD T (⟨⟨d,.sindex x i,some (t,want)⟩,wl,wh⟩::ds) e σ next hist reads K =
  bG (A:=⟨wpD T (⟨⟨d,.sindex x i,none⟩,wl,wh⟩::ds) e σ next hist reads K⟩) (B:=⟨wpD T ds (Env.put e d (.tuple [])) σ next hist reads K⟩) (Env.get e t) want:=by
 simp only[wpD,bG,AOp.allocs,AOp.acts,true_and,if_true,Bool.false_eq_true,if_false]
theorem YP(sh:EqTy)(ok:Bool)(z:AV)(m k:AOpd)(t:Nat)(want:Bool)(d:Option Nat)(wl wh:Nat)(ds:List ADOper)(e:Env)(σ:St)(next:Nat)(hist:List St)(reads:List ARead)(K:Env->St->Prop):wpD T (⟨⟨d,.lookup sh ok z m k,some (t,want)⟩,wl,wh⟩::ds) e σ next hist reads K =
  bG (A:=⟨wpD T (⟨⟨d,.lookup sh ok z m k,none⟩,wl,wh⟩::ds) e σ next hist reads K⟩) (B:=⟨wpD T ds (Env.put e d (.tuple [])) σ next hist reads K⟩) (Env.get e t) want:=by
 simp only[wpD,bG,AOp.allocs,AOp.acts,true_and,if_true,Bool.false_eq_true,if_false]
theorem aBD(sh:EqTy)(m k v:AOpd)(t:Nat)(want:Bool)(d:Option Nat)(wl wh:Nat)(ds:List ADOper)(e:Env)(σ:St)(next:Nat)(hist:List St)(reads:List ARead)(K:Env->St->Prop):wpD T (⟨⟨d,.mapset sh m k v,some (t,want)⟩,wl,wh⟩::ds) e σ next hist reads K =
  bG (A:=⟨wpD T (⟨⟨d,.mapset sh m k v,none⟩,wl,wh⟩::ds) e σ next hist reads K⟩) (B:=⟨wpD T ds (Env.put e d (.tuple [])) σ next (hist++[σ]) reads K⟩) (Env.get e t) want:=by
 simp only[wpD,bG,AOp.allocs,AOp.acts,true_and,if_true,Bool.false_eq_true,if_false]
theorem aSN(x:AOpd)(i:Nat)(t:Nat)(want:Bool)(d:Option Nat)(wl wh:Nat)(ds:List ADOper)(e:Env)(σ:St)(next:Nat)(hist:List St)(reads:List ARead)(K:Env->St->Prop):wpD T (⟨⟨d,.ext x i,some (t,want)⟩,wl,wh⟩::ds) e σ next hist reads K =
  bG (A:=⟨wpD T (⟨⟨d,.ext x i,none⟩,wl,wh⟩::ds) e σ next hist reads K⟩) (B:=⟨wpD T ds (Env.put e d (.tuple [])) σ next hist reads K⟩) (Env.get e t) want:=by
 simp only[wpD,bG,AOp.allocs,AOp.acts,true_and,if_true,Bool.false_eq_true,if_false]
theorem aP3(k:Nat)(x:AOpd)(t:Nat)(want:Bool)(d:Option Nat)(wl wh:Nat)(ds:List ADOper)(e:Env)(σ:St)(next:Nat)(hist:List St)(reads:List ARead)(K:Env->St->Prop):wpD T (⟨⟨d,.len k x,some (t,want)⟩,wl,wh⟩::ds) e σ next hist reads K =
  bG (A:=⟨wpD T (⟨⟨d,.len k x,none⟩,wl,wh⟩::ds) e σ next hist reads K⟩) (B:=⟨wpD T ds (Env.put e d (.tuple [])) σ next hist reads K⟩) (Env.get e t) want:=by
 simp only[wpD,bG,AOp.allocs,AOp.acts,true_and,if_true,Bool.false_eq_true,if_false]
theorem XN(n b:Nat)(x y:AOpd)(t:Nat)(want:Bool)(d:Option Nat)(wl wh:Nat)(ds:List ADOper)(e:Env)(σ:St)(next:Nat)(hist:List St)(reads:List ARead)(K:Env->St->Prop):wpD T (⟨⟨d,.append n b x y,some (t,want)⟩,wl,wh⟩::ds) e σ next hist reads K =
  bG (A:=⟨wpD T (⟨⟨d,.append n b x y,none⟩,wl,wh⟩::ds) e σ next hist reads K⟩) (B:=⟨wpD T ds (Env.put e d (.tuple [])) σ next (hist++[σ]) reads K⟩) (Env.get e t) want:=by
 simp only[wpD,bG,AOp.allocs,AOp.acts,true_and,if_true,Bool.false_eq_true,if_false]
theorem aFJ(n b:Nat)(x y:AOpd)(t:Nat)(want:Bool)(d:Option Nat)(wl wh:Nat)(ds:List ADOper)(e:Env)(σ:St)(next:Nat)(hist:List St)(reads:List ARead)(K:Env->St->Prop):wpD T (⟨⟨d,.apref n b x y,some (t,want)⟩,wl,wh⟩::ds) e σ next hist reads K =
  bG (A:=⟨wpD T (⟨⟨d,.apref n b x y,none⟩,wl,wh⟩::ds) e σ next hist reads K⟩) (B:=⟨wpD T ds (Env.put e d (.tuple [])) σ next (hist++[σ]) reads K⟩) (Env.get e t) want:=by
 simp only[wpD,bG,AOp.allocs,AOp.acts,true_and,if_true,Bool.false_eq_true,if_false]
theorem aMJ(n:Nat)(x y:AOpd)(t:Nat)(want:Bool)(d:Option Nat)(wl wh:Nat)(ds:List ADOper)(e:Env)(σ:St)(next:Nat)(hist:List St)(reads:List ARead)(K:Env->St->Prop):wpD T (⟨⟨d,.copy n x y,some (t,want)⟩,wl,wh⟩::ds) e σ next hist reads K =
  bG (A:=⟨wpD T (⟨⟨d,.copy n x y,none⟩,wl,wh⟩::ds) e σ next hist reads K⟩) (B:=⟨wpD T ds (Env.put e d (.tuple [])) σ next (hist++[σ]) reads K⟩) (Env.get e t) want:=by
 simp only[wpD,bG,AOp.allocs,AOp.acts,true_and,if_true,Bool.false_eq_true,if_false]
theorem aNU(xs:List AOpd)(t:Nat)(want:Bool)(d:Option Nat)(wl wh:Nat)(ds:List ADOper)(e:Env)(σ:St)(next:Nat)(hist:List St)(reads:List ARead)(K:Env->St->Prop):wpD T (⟨⟨d,.min xs,some (t,want)⟩,wl,wh⟩::ds) e σ next hist reads K =
  bG (A:=⟨wpD T (⟨⟨d,.min xs,none⟩,wl,wh⟩::ds) e σ next hist reads K⟩) (B:=⟨wpD T ds (Env.put e d (.tuple [])) σ next hist reads K⟩) (Env.get e t) want:=by
 simp only[wpD,bG,AOp.allocs,AOp.acts,true_and,if_true,Bool.false_eq_true,if_false]
theorem aOS(xs:List AOpd)(t:Nat)(want:Bool)(d:Option Nat)(wl wh:Nat)(ds:List ADOper)(e:Env)(σ:St)(next:Nat)(hist:List St)(reads:List ARead)(K:Env->St->Prop):wpD T (⟨⟨d,.max xs,some (t,want)⟩,wl,wh⟩::ds) e σ next hist reads K =
  bG (A:=⟨wpD T (⟨⟨d,.max xs,none⟩,wl,wh⟩::ds) e σ next hist reads K⟩) (B:=⟨wpD T ds (Env.put e d (.tuple [])) σ next hist reads K⟩) (Env.get e t) want:=by
 simp only[wpD,bG,AOp.allocs,AOp.acts,true_and,if_true,Bool.false_eq_true,if_false]
theorem YU(x:AOpd)(t:Nat)(want:Bool)(d:Option Nat)(wl wh:Nat)(ds:List ADOper)(e:Env)(σ:St)(next:Nat)(hist:List St)(reads:List ARead)(K:Env->St->Prop):wpD T (⟨⟨d,.srange x,some (t,want)⟩,wl,wh⟩::ds) e σ next hist reads K =
  bG (A:=⟨wpD T (⟨⟨d,.srange x,none⟩,wl,wh⟩::ds) e σ next hist reads K⟩) (B:=⟨wpD T ds (Env.put e d (.tuple [])) σ next (hist++[σ]) reads K⟩) (Env.get e t) want:=by
 simp only[wpD,bG,AOp.allocs,AOp.acts,true_and,if_true,Bool.false_eq_true,if_false]
theorem aFR(x:AOpd)(t:Nat)(want:Bool)(d:Option Nat)(wl wh:Nat)(ds:List ADOper)(e:Env)(σ:St)(next:Nat)(hist:List St)(reads:List ARead)(K:Env->St->Prop):wpD T (⟨⟨d,.snext x,some (t,want)⟩,wl,wh⟩::ds) e σ next hist reads K =
  bG (A:=⟨wpD T (⟨⟨d,.snext x,none⟩,wl,wh⟩::ds) e σ next hist reads K⟩) (B:=⟨wpD T ds (Env.put e d (.tuple [])) σ next (hist++[σ]) reads K⟩) (Env.get e t) want:=by
 simp only[wpD,bG,AOp.allocs,AOp.acts,true_and,if_true,Bool.false_eq_true,if_false]
end Go.Am
namespace Go.Am
variable {T:FuncId->Option AFunc}
structure KeepS (σ σ':St) (lo:Nat):Prop where
 len:σ.length<=σ'.length
 low:∀ i,i<lo->i<σ.length->σ'[i]? = σ[i]?
 loops:∀ (i:Nat) (st:LS) (pe:Option AJump) (env:Env) (ps:List Nat) (a b:ACode),i<σ.length->σ'[i]? = some (.loop st pe env ps a b)->∃ st' pe',σ[i]? = some (.loop st' pe' env ps a b)
theorem KeepS.refl(σ:St)(lo:Nat):KeepS σ σ lo:=⟨Nat.le_refl _,fun _ _ _=>rfl,fun i st pe env ps a b _ h=>⟨st,pe,h⟩⟩
theorem KeepS.weak{σ σ':St}{lo l:Nat}(h:KeepS σ σ' lo)(hl:l<=lo):KeepS σ σ' l:=⟨h.len,fun i hi=>h.low i (by omega),h.loops⟩
theorem KeepS.trans{σ σ1 σ2:St}{l1 l2:Nat}(h:KeepS σ σ1 l1)(k:KeepS σ1 σ2 l2):KeepS σ σ2 (Nat.min l1 l2) where
 len:=Nat.le_trans h.len k.len
 low i hi hlt:=by
  have h1:i<l1:=Nat.lt_of_lt_of_le hi (Nat.min_le_left _ _);have h2:i<l2:=Nat.lt_of_lt_of_le hi (Nat.min_le_right _ _);rw[k.low i h2 (Nat.lt_of_lt_of_le hlt h.len),h.low i h1 hlt]
 loops i st pe env ps a b hlt e:=by
  obtain⟨st1,pe1,e1⟩:=k.loops i st pe env ps a b (Nat.lt_of_lt_of_le hlt h.len) e;exact h.loops i st1 pe1 env ps a b hlt e1
theorem KeepS.app(σ:St)(τ:St)(lo:Nat):KeepS σ (σ++τ) lo :=
 ⟨by simp,fun i _ hi=>List.getElem?_append_left hi,fun i st pe env ps a b hi e=>⟨st,pe,by rw[<-List.getElem?_append_left (l₂:=τ) hi];exact e⟩⟩
theorem KeepS.set{σ:St}{i:Nat}{x:ABlk}(hx:∀ st pe env ps a b,x≠.loop st pe env ps a b):KeepS σ (σ.set i x) i where
 len:=by simp
 low j hj _:=List.getElem?_set_ne (by omega)
 loops j st pe env ps a b hj e:=by
  by_cases h:i=j
  ·subst h;rw[List.getElem?_set_self hj] at e;cases e;exact absurd rfl (hx _ _ _ _ _ _)
  ·rw[List.getElem?_set_ne h] at e;exact⟨st,pe,e⟩
theorem KeepS.setLoop{σ:St}{i:Nat}{st st0:LS}{pe pe0:Option AJump}{env:Env}{ps:List Nat}{a b:ACode}(h0:σ[i]? = some (.loop st0 pe0 env ps a b)):KeepS σ (σ.set i (.loop st pe env ps a b)) i where
 len:=by simp
 low j hj _:=List.getElem?_set_ne (by omega)
 loops j st' pe' env' ps' a' b' hj e:=by
  by_cases h:i=j
  ·subst h;rw[List.getElem?_set_self hj] at e;cases e;exact⟨st0,pe0,h0⟩
  ·rw[List.getElem?_set_ne h] at e;exact⟨st',pe',e⟩
theorem KZ{q:AOp}{e:Env}{σ σ':St}{v:AV}(h:aop q e σ=some (v,σ')):KeepS σ σ' (zM q e):=by
 cases q<;>simp only[aop] at h
 case mov=>cases h;exact .refl _ _
 case alloc=>cases h;exact .app _ _ _
 case mkfun=>cases h;exact .refl _ _
 case mkmap=>cases h;exact .app _ _ _
 case mnext=>cases h
 case call=>cases h
 case store n a x =>
  split at h
  ·rename_i τ hτ;cases h;unfold kZ at hτ;split at hτ
   ·rename_i id off ha;split at hτ
    ·split at hτ
     ·split at hτ
      ·cases hτ;simp only[zM,ha];exact .set fun _ _ _ _ _ _ e=>by cases e
      ·cases hτ
     ·cases hτ
    ·cases hτ
   ·cases hτ
  ·cases h
 case mapset sh m k x =>
  split at h
  ·rename_i id hm;split at h
   ·cases h
   ·split at h
    ·split at h
     ·cases h;simp only[zM,hm];exact .set fun _ _ _ _ _ _ e=>by cases e
     ·cases h
    ·cases h
  ·cases h
 case copy sz x y =>
  unfold rA at h;split at h
  ·rename_i id off len sz' ys hx hy;simp only at h;split at h
   ·split at h
    ·split at h
     ·cases h;simp only[zM,hx];exact .set fun _ _ _ _ _ _ e=>by cases e
     ·cases h
    ·cases h
   ·cases h
  ·cases h
 case snext x =>
  split at h
  ·rename_i id hx;split at h
   ·split at h
    ·cases h;simp only[zM,hx];exact .set fun _ _ _ _ _ _ e=>by cases e
    ·cases h;exact .refl _ _
   ·cases h
  ·cases h
 case append sz bytes x y =>
  unfold dD at h;split at h
  ·rename_i xs full tk ys hx hy;split at h
   ·cases h;exact .refl _ _
   ·split at h
    ·split at h
     ·cases h;exact .app _ _ _
     ·rename_i hf;split at h
      ·rename_i t;split at h
       ·split at h
        ·cases h;have:full=false:=by simpa using hf
         subst this;simp only[zM,hx];exact .set fun _ _ _ _ _ _ e=>by cases e
        ·cases h
       ·cases h
      ·cases h
    ·cases h
  ·cases h
 case apref sz bytes x y =>
  unfold nB at h;split at h
  ·split at h
   ·cases h;exact .refl _ _
   ·split at h
    ·cases h;exact .app _ _ _
    ·cases h
  ·cases h
 all_goals
  repeat' split at h
  all_goals first|(cases h;done)|(cases h;first|exact .refl _ _|exact .app _ _ _)
end Go.Am
namespace Go.Am
variable {T:FuncId->Option AFunc}
mutual
theorem eqVF_ok:∀ (k:Nat) (a b:AV),eqVF k a b=true->a=b
 |0,a,b,h=>by simp[eqVF] at h
 |k+1,a,b,h=>by
  cases a<;>cases b<;>simp only[eqVF,Bool.and_eq_true,decide_eq_true_eq,beq_iff_eq,Bool.false_eq_true] at h
  case func.func f a b g c d=>rw[h.1.1,eqVsF_ok k a c h.1.2,eqVsF_ok k b d h.2]
  case int.int=>rw[h.1,h.2]
  case bool.bool=>rw[h]
  case str.str=>rw[h]
  case yield.yield=>rw[h]
  case map.map=>rw[h]
  case ptr.ptr=>rw[h.1,h.2]
  case lptr.lptr xs i o t ys j p u=>rw[eqVsF_ok k xs ys h.1.1.1,h.1.1.2,h.1.2,h.2]
  case lit.lit xs f t ys g u=>rw[eqVsF_ok k xs ys h.1.1,h.1.2,h.2]
  case ref.ref=>rw[h.1.1.1,h.1.1.2,h.1.2,h.2]
  case agg.agg xs ys=>rw[eqVsF_ok k xs ys h]
  case tuple.tuple xs ys=>rw[eqVsF_ok k xs ys h]
  all_goals rfl
theorem eqVsF_ok:∀ (k:Nat) (a b:List AV),eqVsF k a b=true->a=b
 |0,a,b,h=>by simp[eqVsF] at h
 |k+1,[],[],h=>rfl
 |k+1,[],_::_,h=>by simp[eqVsF] at h
 |k+1,_::_,[],h=>by simp[eqVsF] at h
 |k+1,a::x,b::y,h=>by
  simp only[eqVsF,Bool.and_eq_true] at h;rw[eqVF_ok k a b h.1,eqVsF_ok k x y h.2]
end
theorem E9{q:AOp}{e:Env}{σ σ':St}{v:AV}(hr:q.reads=true)(h:aop q e σ=some (v,σ')):σ'=σ:=by
 cases q<;>simp only[AOp.reads] at hr<;>first|(cases hr;done)|skip
 all_goals
  simp only[aop] at h
  repeat' split at h
  all_goals first|(cases h;done)|(cases h;rfl)
theorem KeepS.step{σ σ1 σ2:St}{l lo lo':Nat}(h:KeepS σ σ1 l)(k:lo'<=Nat.min lo l/\KeepS σ1 σ2 lo'):lo'<=lo/\KeepS σ σ2 lo':=by
 have h1:lo'<=l:=Nat.le_trans k.1 (Nat.min_le_right _ _);refine⟨Nat.le_trans k.1 (Nat.min_le_left _ _),(h.trans k.2).weak ?_⟩;exact Nat.le_min.2 ⟨h1,Nat.le_refl _⟩
end Go.Am
namespace Go.Am
variable {T:FuncId->Option AFunc}
theorem aNF(e:Env):evs e []=[]:=by simp only[evs]
theorem aL7(e:Env)(x:AOpd)(xs:List AOpd):evs e (x::xs)=x.ev e::evs e xs:=by simp only[evs]
theorem aJJ(e:Env):ovs e none=none:=by simp only[ovs]
theorem aJ1(e:Env)(x:AOpd):ovs e (some x)=some (x.ev e):=by simp only[ovs]
theorem aHQ{α β:Type}(f:α->β)(a:α):Option.map f (some a)=some (f a):=by simp
theorem aCN{α β:Type}(f:α->Option β)(a:α):(some a).bind f=f a:=by simp
theorem aJK(i o:Nat):JV (.ptr i o)=some (.ptr i o):=by simp only[JV]
theorem aM3(xs:List AV)(i o:Nat)(t:Option Nat):JV (.lptr xs i o t)=some (.lptr xs i o t):=by simp only[JV]
theorem aKS(f:FuncId)(a b:List AV):JV (.func f a b)=some (.func f a b):=by simp only[JV]
theorem aG8(o:Nat)(sh:Option Nat)(cs:List AV):GW o sh (.agg cs)=eB sh cs o:=by simp only[GW]
theorem aK9(k k':IntKind)(n:Int):Q4 k (.int k' n)=some (.int k (k.wrap n)):=by simp only[Q4]
theorem aP8(k:IntKind)(n:Int):aDN (.int k n)=some (.int k (k.wrap (0-n))):=by simp only[aDN]
theorem aGT(x y:AV):EJ (.bool true) x y=some x:=by simp only[EJ]
theorem aFY(x y:AV):EJ (.bool false) x y=some y:=by simp only[EJ]
theorem aN7(s:ByteArray):aF6 (.str s)=some s:=by simp only[aF6]
theorem PI(k:IntKind)(a b:Int):gB .i (.int k a) (.int k b)=some (a==b):=by simp[gB]
theorem aOY(a b:Bool):gB .b (.bool a) (.bool b)=some (a==b):=by simp[gB]
theorem aPN(a b:ByteArray):gB .s (.str a) (.str b)=some (a.toList==b.toList):=by simp[gB]
def aDD:Option Bool->Option Bool->Option Bool
 |some p,some q=>some (p&&q)
 |_,_=>none
theorem HM(p q:Bool):aDD (some p) (some q)=some (p&&q):=by simp only[aDD]
theorem OI:bJ [] [] []=some true:=by simp[bJ]
theorem HD(k:SK)(ks:List SK)(a b:AV)(x y:List AV):bJ (k::ks) (a::x) (b::y)=aDD (gB k a b) (bJ ks x y):=by
 simp only[bJ,aDD];cases gB k a b<;>cases bJ ks x y<;>rfl
theorem aQ2(k:SK)(x y:AV):D0 (.one k) false x y=(gB k x y).map .bool:=by
 simp only[D0,iS];cases gB k x y<;>simp
theorem aOD(k:SK)(x y:AV):D0 (.one k) true x y=(gB k x y).map fun b=>.bool !b:=by
 simp only[D0,iS];cases gB k x y<;>simp
theorem aPH(ks:List SK)(x y:List AV):D0 (.agg ks) false (.agg x) (.agg y)=(bJ ks x y).map .bool:=by
 simp only[D0,iS];cases bJ ks x y<;>simp
theorem aNM(ks:List SK)(x y:List AV):D0 (.agg ks) true (.agg x) (.agg y)=(bJ ks x y).map fun b=>.bool !b:=by
 simp only[D0,iS];cases bJ ks x y<;>simp
theorem aOF(k:IntKind)(a b:Int):cQ .add (.int k a) (.int k b)=some (.int k (k.wrap (a+b))):=by simp[cQ,fH]
theorem aOI(k:IntKind)(a b:Int):cQ .sub (.int k a) (.int k b)=some (.int k (k.wrap (a-b))):=by simp[cQ,fH]
theorem aRM(k:IntKind)(a b:Int):cQ .mul (.int k a) (.int k b)=some (.int k (k.wrap (a*b))):=by simp[cQ,fH]
theorem aIR(k:IntKind)(a b:Int)(h:b≠0):cQ .rem (.int k a) (.int k b)=some (.int k (a.tmod b)):=by simp[cQ,fH,h]
theorem aR8(k:IntKind)(a b:Int):cQ .lss (.int k a) (.int k b)=some (.bool (decide (a<b))):=by simp[cQ,fH]
theorem aNR(k:IntKind)(a b:Int):cQ .leq (.int k a) (.int k b)=some (.bool (decide (a<=b))):=by simp[cQ,fH]
theorem aR1(k:IntKind)(a b:Int):cQ .gtr (.int k a) (.int k b)=some (.bool (decide (b<a))):=by simp[cQ,fH]
theorem aPY(k:IntKind)(a b:Int):cQ .geq (.int k a) (.int k b)=some (.bool (decide (b<=a))):=by simp[cQ,fH]
theorem bZ{x:Int}(h:-9223372036854775808<=x/\x<=9223372036854775807):IntKind.i64.wrap x=x:=by
 simp only[IntKind.wrap,IntKind.signed,IntKind.bits];first
  |(rw[Int.bmod_eq_of_le]<;>omega)
  |(simp;omega)
theorem aSA(σ:St)(xs:List AV)(f:Bool)(t:Option Nat):i5 1 σ (.lit xs f t)=some xs.length:=by simp only[i5]
theorem aNG(σ:St)(s:ByteArray):i5 0 σ (.str s)=some s.size:=by simp only[i5]
theorem aJ8(σ:St)(id off len sz:Nat):i5 1 σ (.ref id off len sz)=some len:=by simp only[i5]
theorem aQI(sh:Option Nat)(σ:St)(id off:Nat):jT sh σ (.ptr id off)=(aO σ id).bind fun cs=>eB sh cs off:=by
 simp only[jT];cases aO σ id<;>simp
theorem aL5(sh:Option Nat)(σ:St)(xs:List AV)(i off:Nat)(t:Option Nat):jT sh σ (.lptr xs i off t)=(xs[i]?).bind fun x=>eB sh x.cells off:=by
 simp only[jT];cases xs[i]?<;>simp
theorem Q9(b:List AV)(τ:St):aO (.cells b::τ) 0=some b:=by simp[aO]
theorem Q3(b:ABlk)(τ:St)(k:Nat):aO (b::τ) (k+1)=aO τ k:=by simp[aO]
theorem n8(σ τ:St)(k:Nat):aO (σ++τ) (σ.length+k)=aO τ k:=by simp only[aO,tO]
theorem AR(σ τ:St):aO (σ++τ) σ.length=aO τ 0:=n8 σ τ 0
theorem aN1(cs:List AV)(off:Nat):eB none cs off=cs[off]?:=by simp[eB]
theorem aO8(n:Nat)(cs:List AV)(off:Nat):eB (some n) cs off=if off+n<=cs.length then some (.agg ((cs.drop off).take n)) else none:=by simp[eB]
theorem aGS(n:Nat)(σ:St)(id off:Nat)(v:AV):kZ n σ (.ptr id off) v=(kU n v).bind fun us=>(aO σ id).bind fun cs=>(eP cs off us).map fun cs'=>σ.set id (.cells cs'):=by
 simp only[kZ,kU];split
 ·simp only[Option.bind_some];cases aO σ id with
  |none=>simp
  |some cs=>simp only[Option.bind_some];cases eP cs off v.cells<;>simp
 ·simp
theorem aON(cs us:List AV)(off:Nat):eP cs off us=if off+us.length<=cs.length then some (cs.take off++us++cs.drop (off+us.length)) else none:=by simp only[eP]
def bQ(n:Nat)(v:AV):Bool:=v.cells.length==n&&v.cells.all (·.cell)
theorem aD1(n:Nat)(v:AV):kU n v=if bQ n v=true then some v.cells else none:=by unfold kU bQ;rfl
theorem aBP(k:IntKind)(n:Int):bQ 1 (.int k n)=true:=by simp[bQ,AV.cells,AV.cell]
theorem aMX(b:Bool):bQ 1 (.bool b)=true:=by simp[bQ,AV.cells,AV.cell]
theorem aQA(b:ByteArray):bQ 1 (.str b)=true:=by simp[bQ,AV.cells,AV.cell]
theorem aIO(xs:List AV)(f:Bool)(t:Option Nat):bQ 1 (.lit xs f t)=true:=by simp[bQ,AV.cells,AV.cell]
theorem aP9(a b c d:Nat):bQ 1 (.ref a b c d)=true:=by simp[bQ,AV.cells,AV.cell]
theorem aQC(a b:Nat):bQ 1 (.ptr a b)=true:=by simp[bQ,AV.cells,AV.cell]
theorem aI3(f:FuncId)(a b:List AV):bQ 1 (.func f a b)=true:=by simp[bQ,AV.cells,AV.cell]
theorem aOL(i:Nat):bQ 1 (.map i)=true:=by simp[bQ,AV.cells,AV.cell]
theorem aCE:bQ 1 .nilPtr=true:=by simp[bQ,AV.cells,AV.cell]
theorem TB:bQ 1 .nilFunc=true:=by simp[bQ,AV.cells,AV.cell]
def aY:List AV->Bool
 |[]=>true
 |v::vs=>v.cell&&aY vs
theorem aHR(n:Nat)(cs:List AV):bQ n (.agg cs)=(cs.length==n&&aY cs):=by
 simp only[bQ,AV.cells]
 congr 1
 induction cs with
 |nil=>rfl
 |cons c cs ih=>simp only[List.all_cons,aY,ih]
theorem C_0:aY []=true:=by simp only[aY]
theorem aMN(k:IntKind)(n:Int)(cs:List AV):aY (.int k n::cs)=aY cs:=by simp[aY,AV.cell]
theorem aFG(b:Bool)(cs:List AV):aY (.bool b::cs)=aY cs:=by simp[aY,AV.cell]
theorem aMH(b:ByteArray)(cs:List AV):aY (.str b::cs)=aY cs:=by simp[aY,AV.cell]
theorem aJN(xs:List AV)(f:Bool)(t:Option Nat)(cs:List AV):aY (.lit xs f t::cs)=aY cs:=by simp[aY,AV.cell]
theorem aML(a b c d:Nat)(cs:List AV):aY (.ref a b c d::cs)=aY cs:=by simp[aY,AV.cell]
theorem aKG(a b:Nat)(cs:List AV):aY (.ptr a b::cs)=aY cs:=by simp[aY,AV.cell]
theorem aEA(f:FuncId)(a b:List AV)(cs:List AV):aY (.func f a b::cs)=aY cs:=by simp[aY,AV.cell]
theorem aLY(i:Nat)(cs:List AV):aY (.map i::cs)=aY cs:=by simp[aY,AV.cell]
theorem SG(cs:List AV):aY (.nilPtr::cs)=aY cs:=by simp[aY,AV.cell]
theorem MD(cs:List AV):aY (.nilFunc::cs)=aY cs:=by simp[aY,AV.cell]
theorem aJS{α:Type}(enc:α->AV)(l:List α)(h:∀ x,(enc x).cell=true):aY (l.map enc)=true:=by
 induction l with
 |nil=>rfl
 |cons x l ih=>simp[aY,h,ih]
theorem aOV(k:IntKind)(n:Int):(AV.int k n).cells=[.int k n]:=by simp[AV.cells]
theorem aKI(b:Bool):(AV.bool b).cells=[.bool b]:=by simp[AV.cells]
theorem aO9(b:ByteArray):(AV.str b).cells=[.str b]:=by simp[AV.cells]
theorem aSE(xs:List AV)(f:Bool)(t:Option Nat):(AV.lit xs f t).cells=[.lit xs f t]:=by simp[AV.cells]
theorem aN2(a b c d:Nat):(AV.ref a b c d).cells=[.ref a b c d]:=by simp[AV.cells]
theorem aOW(a b:Nat):(AV.ptr a b).cells=[.ptr a b]:=by simp[AV.cells]
theorem aLD(f:FuncId)(a b:List AV):(AV.func f a b).cells=[.func f a b]:=by simp[AV.cells]
theorem aRB(i:Nat):(AV.map i).cells=[.map i]:=by simp[AV.cells]
theorem aRY(cs:List AV):(AV.agg cs).cells=cs:=by simp[AV.cells]
theorem ZV:AV.nilPtr.cells=[.nilPtr]:=by simp[AV.cells]
theorem RV:AV.nilFunc.cells=[.nilFunc]:=by simp[AV.cells]
theorem aQQ(e:Env)(cs:List AV):cG e cs []=some cs:=by simp only[cG]
theorem aQ4(e:Env)(cs:List AV)(off n:Nat)(x:AOpd)(rest:List (Nat×Nat×AOpd)):
  cG e cs ((off,n,x)::rest)=((kU n (x.ev e)).bind fun us=>eP cs off us).bind fun cs=>cG e cs rest:=aOO e cs off n x rest
theorem X9(n:Nat):aH n []=true:=by simp[aH]
theorem NI(n:Nat)(x:AV)(xs:List AV):aH n (x::xs)=(bQ n x&&aH n xs):=by simp[aH,bQ]
theorem vJ{α:Type}(n:Nat)(enc:α->AV)(l:List α)(h:∀ x,bQ n (enc x)=true):aH n (l.map enc)=true:=by
 induction l with
 |nil=>exact X9 n
 |cons x l ih=>rw[List.map_cons,NI,h,ih];rfl
theorem aNX(n:Nat)(xs:List AV):yY n xs=if aH n xs=true then some (.lit xs true none) else none:=by simp only[yY]
def D6(sz:Nat)(xs:List AV)(j:Int)(t:Option Nat):Option AV:=(xs[j.toNat]?).bind fun y=>if 0<=j/\y.cells.length=sz then some (.lptr xs j.toNat 0 t) else none
theorem aPU(sz:Nat)(xs:List AV)(f:Bool)(t:Option Nat)(k:IntKind)(j:Int):pO none sz (.lit xs f t) (.int k j)=D6 sz xs j t:=by
 simp only[pO,eZ,D6];cases xs[j.toNat]?<;>simp
theorem aQ3(n sz id off:Nat)(k:IntKind)(j:Int):pO (some n) sz (.ptr id off) (.int k j)=if 0<=j/\j<n then some (.ptr id (off+j.toNat*sz)) else none:=by simp only[pO,eZ]
theorem aJD(n sz q off:Nat)(xs:List AV)(t:Option Nat)(k:IntKind)(j:Int):pO (some n) sz (.lptr xs q off t) (.int k j)=if 0<=j/\j<n then some (.lptr xs q (off+j.toNat*sz) t) else none:=by simp only[pO,eZ]
theorem aN6(sz id off len sz':Nat)(k:IntKind)(j:Int):pO none sz (.ref id off len sz') (.int k j)=if 0<=j/\j<len/\sz'=sz then some (.ptr id (off+j.toNat*sz)) else none:=by simp only[pO,eZ]
def JT(sz b:Nat)(xs ys:List AV):Prop:=aH sz xs=true/\aH sz ys=true/\(xs.length+ys.length)*b<=room/\xs.length+ys.length<=room
theorem IM{sz b:Nat}{σ:St}{xs ys:List AV}{tk t:Option Nat}{f:Bool}(h:JT sz b xs ys)(h0:ys.length≠0):
  dD sz b σ (.lit xs true tk) (.lit ys f t)=some (.lit (xs++ys) false (some σ.length),σ++[.tok sz (xs.length+ys.length) true]):=by
 obtain⟨h1,h2,h3,h4⟩:=h;simp[dD,kS,sC,h0,h1,h2,h3,h4]
theorem GB{sz b:Nat}{σ:St}{xs ys:List AV}{t:Nat}{tk:Option Nat}{f ex:Bool}(h:JT sz b xs ys)(h0:ys.length≠0)(ht:σ[t]? = some (.tok sz xs.length ex)):
  dD sz b σ (.lit xs false (some t)) (.lit ys f tk)=some (.lit (xs++ys) false (some t),σ.set t (.tok sz (xs.length+ys.length) true)):=by
 obtain⟨h1,h2,h3,h4⟩:=h;simp[dD,kS,sC,h0,h1,h2,h3,h4,ht]
theorem aE2{sz b:Nat}{σ:St}{xs:List AV}{tk t:Option Nat}{f f':Bool}:dD sz b σ (.lit xs f' tk) (.lit [] f t)=some (.lit xs f' tk,σ):=by
 simp[dD,kS]
def bW(σ:St)(m d:Nat)(v:AV):Option AV:=(snap σ m d v).map clr
def cB(σ:St)(m d:Nat)(vs:List AV):Option (List AV):=(snaps σ m d vs).map clrs
theorem aO1(σ:St)(m d:Nat)(k:IntKind)(n:Int):bW σ m d (.int k n)=some (.int k n):=by simp[bW,snap,clr]
theorem aKL(σ:St)(m d:Nat)(b:Bool):bW σ m d (.bool b)=some (.bool b):=by simp[bW,snap,clr]
theorem aQF(σ:St)(m d:Nat)(b:ByteArray):bW σ m d (.str b)=some (.str b):=by simp[bW,snap,clr]
theorem Z5(σ:St)(m d:Nat):bW σ m d .nilPtr=some .nilPtr:=by simp[bW,snap,clr]
theorem UF(σ:St)(m d:Nat):bW σ m d .nilFunc=some .nilFunc:=by simp[bW,snap,clr]
theorem aPL(σ:St)(m d id off:Nat):bW σ m d (.ptr id off)=if id<m then some (.ptr id off) else none:=by
 simp only[bW,snap];split<;>simp[clr]
theorem aRU(σ:St)(m d id:Nat):bW σ m d (.map id)=if id<m then some (.map id) else none:=by
 simp only[bW,snap];split<;>simp[clr]
theorem VO(σ:St)(m d:Nat):cB σ m d []=some []:=by simp[cB,snaps,clrs]
theorem MH(σ:St)(m d:Nat)(v:AV)(vs:List AV):cB σ m d (v::vs)=(bW σ m d v).bind fun a=>(cB σ m d vs).map (a::·):=by
 simp only[cB,bW,snaps];cases snap σ m d v<;>cases snaps σ m d vs<;>simp[clrs]
theorem aGQ(σ:St)(m d:Nat)(vs:List AV):bW σ m d (.tuple vs)=(cB σ m d vs).map .tuple:=by
 simp only[cB,bW,snap];cases snaps σ m d vs<;>simp[clr]
theorem aR3(σ:St)(m d:Nat)(vs:List AV):bW σ m d (.agg vs)=(cB σ m d vs).map .agg:=by
 simp only[cB,bW,snap];cases snaps σ m d vs<;>simp[clr]
theorem OS(σ:St)(m d:Nat)(vs:List AV)(f:Bool):bW σ m d (.lit vs f none)=(cB σ m d vs).map fun ys=>.lit ys false none:=by
 simp only[cB,bW,snap];cases snaps σ m d vs<;>simp[clr]
theorem V2(σ:St)(m d t:Nat)(vs:List AV)(f:Bool):bW σ m d (.lit vs f (some t))=(cB σ m d vs).map fun ys=>if t<m then .lit ys f (some t) else .lit ys false none:=by
 simp only[cB,bW,snap];cases snaps σ m d vs<;>by_cases h:t<m<;>simp[clr,h,Option.filter]
theorem aKN(σ:St)(m d:Nat)(f:FuncId)(a b:List AV):bW σ m d (.func f a b)=(cB σ m d a).bind fun x=>(cB σ m d b).map fun y=>.func f x y:=by
 simp only[cB,bW,snap];cases snaps σ m d a<;>cases snaps σ m d b<;>simp[clr]
theorem aRJ(σ:St)(m d id off len sz:Nat):bW σ m (d+1) (.ref id off len sz) =
  if id<m then some (.ref id off len sz) else (kS σ (.ref id off len sz)).bind fun xs=>if (decide (0<sz)&&aH sz xs)=true then (cB σ m d xs).map fun ys=>.lit ys false none else none:=by
 simp only[bW,snap];split
 ·simp[clr]
 ·cases kS σ (.ref id off len sz) with
  |none=>simp
  |some xs =>
   simp only[Option.bind_some];split
   ·simp only[cB];cases snaps σ m d xs<;>simp[clr]
   ·simp
def jU(v:AV):Prop:=okV 0 v/\clr v=v
def kY(vs:List AV):Prop:=okVs 0 vs/\clrs vs=vs
mutual
theorem snap_ok0 (σ:St) (m d:Nat):∀ (v:AV),okV 0 v->snap σ m d v=some v
 |.func f first cap,h=>by simp only[okV] at h;simp only[snap,snaps_ok0 σ m d first h.1,snaps_ok0 σ m d cap h.2]
 |.yield _,h|.ptr _ _,h|.ref _ _ _ _,h|.map _,h=>by simp[okV] at h
 |.lptr xs i o tk,h=>by
  simp only[okV] at h;cases tk with
  |none=>simp[snap,snaps_ok0 σ m d xs h.2]
  |some t=>exact absurd (h.1 t rfl) (by omega)
 |.lit xs f tk,h=>by
  simp only[okV] at h;cases tk with
  |none=>simp[snap,snaps_ok0 σ m d xs h.2]
  |some t=>exact absurd (h.1 t rfl) (by omega)
 |.agg cs,h=>by simp only[okV] at h;simp[snap,snaps_ok0 σ m d cs h]
 |.tuple cs,h=>by simp only[okV] at h;simp[snap,snaps_ok0 σ m d cs h]
 |.undef,_|.int _ _,_|.bool _,_|.str _,_|.nilFunc,_|.nilPtr,_|.nilMap,_=>by simp[snap]
theorem snaps_ok0 (σ:St) (m d:Nat):∀ (vs:List AV),okVs 0 vs->snaps σ m d vs=some vs
 |[],_=>by simp[snaps]
 |v::vs,h=>by simp only[okVs] at h;simp[snaps,snap_ok0 σ m d v h.1,snaps_ok0 σ m d vs h.2]
end
theorem aL0{v:AV}(h:jU v)(σ:St)(m d:Nat):bW σ m d v=some v:=by simp[bW,snap_ok0 σ m d v h.1,h.2]
theorem iG{vs:List AV}(h:kY vs)(σ:St)(m d:Nat):cB σ m d vs=some vs:=by simp[cB,snaps_ok0 σ m d vs h.1,h.2]
theorem aR(k:IntKind)(n:Int):jU (.int k n):=⟨trivial,rfl⟩
theorem uL(b:Bool):jU (.bool b):=⟨trivial,rfl⟩
theorem xG(b:ByteArray):jU (.str b):=⟨trivial,rfl⟩
theorem cL:kY []:=⟨trivial,rfl⟩
theorem aD{v:AV}{vs:List AV}(h:jU v)(hs:kY vs):kY (v::vs):=⟨⟨h.1,hs.1⟩,by simp[clrs,h.2,hs.2]⟩
theorem gE{vs:List AV}(h:kY vs):jU (.agg vs):=⟨h.1,by simp[clr,h.2]⟩
theorem N9{vs:List AV}(h:kY vs):jU (.tuple vs):=⟨h.1,by simp[clr,h.2]⟩
theorem IZ{vs:List AV}(h:kY vs):jU (.lit vs false none):=⟨⟨(fun t e=>by cases e),h.1⟩,by simp[clr,h.2]⟩
theorem cV{α:Type}{enc:α->AV}(h:∀ x,jU (enc x))(l:List α):kY (l.map enc):=by
 induction l with
 |nil=>exact cL
 |cons x l ih=>exact aD (h x) ih
theorem dP{α:Type}{enc:α->AV}(h:∀ x,jU (enc x))(l:List α):jU (.lit (l.map enc) false none):=IZ (cV h l)
def NU(o:Option AV)(σ:St)(v:AV):Prop:=∃ v0,o=some v0/\bW σ 0 20 v0=some v
@[congr] theorem aLP{o o':Option AV}{σ σ':St}{v:AV}(h:o=o')(h2:σ=σ'):NU o σ v=NU o' σ' v:=by rw[h,h2]
theorem aLH(v0:AV)(σ:St)(v:AV):NU (some v0) σ v=(bW σ 0 20 v0=some v):=by simp[NU]
def LZ(rs:List ARes)(v:AV):KJ:=fun j e σ=>(j=none\/j=some .ret)/\NU (eY rs e σ) σ v
theorem aJO(rs:List ARes)(v:AV)(e:Env)(σ:St):LZ rs v none e σ=NU (eY rs e σ) σ v:=by simp[LZ]
theorem aPV(rs:List ARes)(v:AV)(e:Env)(σ:St):LZ rs v (some .ret) e σ=NU (eY rs e σ) σ v:=by simp[LZ]
theorem aV{f:FuncId}{args:List AV}{v:AV}{af:AFunc}(hf:T f=some af)(hn:args.length<=af.ntmps)(hk:kY args)(h:wp T af.body (eI 0 args) [] (LZ af.results v)):cY T f args v:=by
 intro σ;refine .frame hk.1 (.inl rfl) (R:=fun o=>o.v=v/\o.σ=[]) (.call hf hn (fA h fun o ho=>ho) fun o ho=>?_) fun o ho=>⟨ho.2,ho.1,rfl⟩
 obtain⟨h1,v0,h2,h3⟩:=ho;refine⟨h1,v0,h2,?_⟩;unfold bW at h3;cases hs:snap o.σ 0 20 v0 with
 |none=>rw[hs] at h3;cases h3
 |some v1 =>
  rw[hs] at h3;simp at h3;exact .inr ⟨20,v1,v,hs,.inr h3.symm,fun i hi=>absurd hi (by simp),by simp,rfl,by simp⟩
theorem PT{f:FuncId}{args args0:List AV}{v:AV}(h:cY T f args0 v)(ha:clrs args=args0)(hk:okVs 0 args)(σ:St):Run T (.call f args σ) fun o=>o.v=v/\o.σ=σ :=
 .frame hk (.inr ha.symm) (h []) fun o ho=>⟨ho.2,ho.1,rfl⟩
theorem LO{f:FuncId}{first cap args args0:List AV}{v:AV}{σ:St}{K:AV->St->Prop}(h:cY T f args0 v)(ha:clrs (first++args++cap)=args0)(hk:okVs 0 (first++args++cap))(k:K v σ):cK (K:=⟨K⟩) T (.func f first cap) args σ :=
 .callf (.mono (PT h ha hk σ) fun o ho=>by rw[ho.1,ho.2];exact k)
theorem JZ{f:FuncId}{first cap args args0:List AV}{v:AV}{σ:St}{K:AV->St->Prop}(h:cY T f args0 v)(ha:clrs (first++args++cap)=args0)(hk:okVs 0 (first++args++cap))(k:K v σ):cD (K:=⟨K⟩) T (.func f first cap) args σ :=
 ⟨v,σ,.callf (PT h ha hk σ),k⟩
theorem aC{f:FuncId}{args args0:List AV}{v:AV}{σ:St}{K:AV->St->Prop}(h:cY T f args0 v)(ha:args=args0)(hk:kY args0)(k:K v σ):cK (K:=⟨K⟩) T (.func f [] []) args σ:=by
 subst ha;exact LO h (by simpa using hk.2) (by simpa using hk.1) k
theorem aJ{f:FuncId}{args args0:List AV}{v:AV}{σ:St}{K:AV->St->Prop}(h:cY T f args0 v)(ha:args=args0)(hk:kY args0)(k:K v σ):cD (K:=⟨K⟩) T (.func f [] []) args σ:=by
 subst ha;exact JZ h (by simpa using hk.2) (by simpa using hk.1) k
def InK(rs:List ARes)(K:AV->St->Prop):KJ:=fun j e σ=>(j=none\/j=some .ret)/\∃ v,eY rs e σ=some v/\K v σ
def InR(o:Option AV)(σ:St)(K:AV->St->Prop):Prop:=∃ v,o=some v/\K v σ
@[congr] theorem aNK{o o':Option AV}{σ σ':St}{K:AV->St->Prop}(h:o=o')(h2:σ=σ'):InR o σ K=InR o' σ' K:=by rw[h,h2]
theorem aJV(v:AV)(σ:St)(K:AV->St->Prop):InR (some v) σ K=K v σ:=by simp[InR]
theorem aLO(rs:List ARes)(K:AV->St->Prop)(e:Env)(σ:St):InK rs K none e σ=InR (eY rs e σ) σ K:=by simp[InK,InR]
theorem aN3(rs:List ARes)(K:AV->St->Prop)(e:Env)(σ:St):InK rs K (some .ret) e σ=InR (eY rs e σ) σ K:=by simp[InK,InR]
theorem qJ{f:FuncId}{first cap args:List AV}{af:AFunc}{σ:St}{K:AV->St->Prop}(hf:T f=some af)(hn:(first++args++cap).length<=af.ntmps)(h:wp T af.body (eI 0 (first++args++cap)) σ (InK af.results K)):
  cK (K:=⟨K⟩) T (.func f first cap) args σ :=
 .callf (.call hf hn (fA h fun o ho=>ho) fun o ho=>⟨ho.1,ho.2.choose,ho.2.choose_spec.1,.inl ho.2.choose_spec.2⟩)
def EqE(σ:St)(m:Nat)(e:Env):Env->Prop
 |[]=>True
 |(t,v)::e'=>bW σ m 20 (Env.get e t)=some v/\EqE σ m e e'
theorem aSW(σ:St)(m:Nat)(e:Env):EqE σ m e []=True:=by simp only[EqE]
theorem aU0(σ:St)(m:Nat)(e:Env)(t:Nat)(v:AV)(e':Env):EqE σ m e ((t,v)::e')=(bW σ m 20 (Env.get e t)=some v/\EqE σ m e e'):=by simp only[EqE]
theorem JJ{σ:St}{m:Nat}{e:Env}:∀ {e':Env},EqE σ m e e'->RA σ m e e'
 |[],_=>trivial
 |(t,v)::e',h=>by
  refine⟨.inr ?_,JJ h.2⟩;have h1:=h.1;unfold bW at h1;cases hs:snap σ m 20 (Env.get e t) with
  |none=>rw[hs] at h1;cases h1
  |some v1=>rw[hs] at h1;simp at h1;exact⟨20,v1,hs,.inr h1.symm⟩
def EqS(m:Nat):St->St->St->Prop
 |_,_,[]=>True
 |s::ss,b::bs,c::cs=>(c=b/\(b=s\/aL m b))/\EqS m ss bs cs
 |[],b::bs,c::cs=>(c=b/\aL m b)/\EqS m [] bs cs
 |_,[],_::_=>False
theorem aUD(m:Nat)(a b:St):EqS m a b []=True:=by cases a<;>cases b<;>simp only[EqS]
theorem aUT(m:Nat)(s b c:ABlk)(ss bs cs:St):EqS m (s::ss) (b::bs) (c::cs)=((c=b/\(b=s\/aL m b))/\EqS m ss bs cs):=by simp only[EqS]
theorem aUR(m:Nat)(b c:ABlk)(bs cs:St):EqS m [] (b::bs) (c::cs)=((c=b/\aL m b)/\EqS m [] bs cs):=by simp only[EqS]
theorem BK{m:Nat}:∀ {σ σ' σ'':St},EqS m σ σ' σ''->∀ i c,σ''[i]? = some c->σ'[i]? = some c/\((i<σ.length/\σ'[i]? = σ[i]?)\/aL m c)
 |_,_,[],_,i,c,h=>by simp at h
 |s::ss,b::bs,x::cs,h,i,c,hc=>by
  obtain⟨⟨h1,h2⟩,h3⟩:=h;cases i with
  |zero =>
   simp at hc;subst hc;subst h1;refine⟨rfl,?_⟩;rcases h2 with h2|h2
   ·left;simp[h2]
   ·right;exact h2
  |succ i =>
   obtain⟨q1,q2⟩:=BK h3 i c (by simpa using hc);refine⟨by simpa using q1,?_⟩;rcases q2 with⟨q2,q3⟩|q2
   ·left;exact⟨by simp;omega,by simpa using q3⟩
   ·right;exact q2
 |[],b::bs,x::cs,h,i,c,hc=>by
  obtain⟨⟨h1,h2⟩,h3⟩:=h;cases i with
  |zero =>
   simp at hc;subst hc;subst h1;exact⟨rfl,.inr h2⟩
  |succ i =>
   obtain⟨q1,q2⟩:=BK h3 i c (by simpa using hc);refine⟨by simpa using q1,?_⟩;rcases q2 with⟨q2,q3⟩|q2
   ·simp at q2
   ·right;exact q2
def aB(σ:St)(e':Env)(σ':St)(e'':Env)(σ'':St):Prop:=σ.length<=σ''.length/\σ''.length<=σ'.length/\EqE σ' σ''.length e' e''/\EqS σ''.length σ σ' σ''
@[congr] theorem aIG{σ σ1:St}{e' e1:Env}{σ' σ1':St}{e'':Env}{σ'':St}(h1:σ=σ1)(h2:e'=e1)(h3:σ'=σ1'):aB σ e' σ' e'' σ''=aB σ1 e1 σ1' e'' σ'':=by rw[h1,h2,h3]
theorem Y0{σ:St}{e':Env}{σ':St}{e'':Env}{σ'':St}(h:aB σ e' σ' e'' σ''):vG σ e' σ' e'' σ'':=by
 obtain⟨h1,h2,h3,h4⟩:=h;refine⟨h1,h2,JJ h3,fun i hi=>?_⟩;obtain⟨c,hc⟩:∃ c,σ''[i]? = some c:=⟨_,List.getElem?_eq_getElem hi⟩;obtain⟨q1,q2⟩:=BK h4 i c hc;refine⟨c,hc,?_⟩;rcases q2 with⟨q2,q3⟩|q2
 ·left;exact⟨q2,.inl q3,q1⟩
 ·right;left;exact⟨q1,q2⟩
def E7{S:Type}(P:S->Prop)(μ:S->Nat)(IE:S->Env)(IS:S->St)(s:S)(K:KJ):KJ:=fun j e σ =>
 match j with
 |none=>∃ s',P s'/\μ s'<μ s/\aB (IS s) e σ (IE s') (IS s')
 |some j=>K (some j) e σ
theorem WD{S:Type}(P:S->Prop)(μ:S->Nat)(IE:S->Env)(IS:S->St)(s:S)(K:KJ)(e:Env)(σ:St):E7 P μ IE IS s K none e σ = ∃ s',P s'/\μ s'<μ s/\aB (IS s) e σ (IE s') (IS s'):=by simp only[E7]
theorem aH6{S:Type}(P:S->Prop)(μ:S->Nat)(IE:S->Env)(IS:S->St)(s:S)(K:KJ)(j:AJump)(e:Env)(σ:St):E7 P μ IE IS s K (some j) e σ=K (some j) e σ:=by simp only[E7]
def EqW(e:Env):Env->Prop
 |[]=>True
 |(t,v)::e'=>(Env.get e t=v\/clr (Env.get e t)=v)/\EqW e e'
theorem aTG(e:Env):EqW e []=True:=by simp only[EqW]
theorem aT2(e:Env)(t:Nat)(v:AV)(e':Env):EqW e ((t,v)::e')=((Env.get e t=v\/clr (Env.get e t)=v)/\EqW e e'):=by simp only[EqW]
theorem KL{e:Env}:∀ {e':Env},EqW e e'->∀ t,Env.get e' t = .undef\/Env.get e' t=Env.get e t\/Env.get e' t=clr (Env.get e t)
 |[],_,t=>.inl rfl
 |(k,v)::e',h,t=>by
  by_cases hk:k=t
  ·subst hk;right;rcases h.1 with h|h
   ·left;simp[Env.get,h]
   ·right;simp[Env.get,h]
  ·simpa[Env.get,hk] using KL h.2 t
theorem aNW{S:Type}(P:S->Prop)(μ:S->Nat)(IE:S->Env)(IS:S->St){b:ACode}{K:KJ}(step:∀ s,P s->wp T b (IE s) (IS s) (E7 P μ IE IS s K)):∀ n s,μ s=n->P s->SH T (.loop b) (IE s) (IS s) K:=by
 intro n
 induction n using Nat.strongRecOn with
 |_ n ih =>
  intro s hs hp;have h1:Run T (.code b (IE s) (IS s)) fun o=>(o.j=none/\∃ s',P s'/\μ s'<μ s/\o.env=IE s'/\o.σ=IS s')\/(o.j≠none/\K o.j o.env o.σ):=by
   refine .trim2 (fA (step s hp) fun o ho=>ho) fun o ho=>?_
   cases hj:o.j with
   |none =>
    rw[hj,WD] at ho;obtain⟨s',h1,h2,h3⟩:=ho;exact .inr ⟨_,_,Y0 h3,.inl ⟨rfl,s',h1,h2,rfl,rfl⟩⟩
   |some j =>
    rw[hj,aH6] at ho;exact .inl (.inr ⟨by simp,ho⟩)
  refine .loop h1 (fun o ho hj=>?_) fun o ho hj=>?_
  ·rcases ho with⟨_,s',q1,q2,q3,q4⟩|⟨q1,_⟩
   ·rw[q3,q4];exact ih _ (by omega) s' rfl q1
   ·exact absurd hj q1
  ·rcases ho with⟨q,_⟩|⟨_,q⟩
   ·exact absurd q hj
   ·exact q
theorem cI{S:Type}(s0:S)(P:S->Prop)(μ:S->Nat)(IE:S->Env)(IS:S->St){b:ACode}{e:Env}{σ:St}{K:KJ}(hP:P s0)(hσ:σ=IS s0)(hE:EqW e (IE s0))(step:∀ s,P s->wp T b (IE s) (IS s) (E7 P μ IE IS s K)):rK (K:=⟨K⟩) T (.loop b) e σ:=by
 subst hσ;exact .weak (KL hE) (aNW P μ IE IS step _ s0 rfl hP)
theorem vM{c:ACode}{e:Env}{σ:St}{K:KJ}(t sz:Nat)(xs:List AV)(ht:Env.get e t = .lit xs true none)(h:rK (K:=⟨K⟩) T c ((t,.lit xs false (some σ.length))::e) (σ++[.tok sz xs.length false])):rK (K:=⟨K⟩) T c e σ :=
 .ghost t sz xs ht h
end Go.Am
namespace Go.Am
variable {T:FuncId->Option AFunc}
def AN(e:Env)(σ:St):ARes->Option AV
 |.tmp t=>some (Env.get e t)
 |.cell t sh=>jT sh σ (Env.get e t)
def pH(e:Env)(σ:St):List ARes->Option (List AV)
 |[]=>some []
 |r::rs=>(AN e σ r).bind fun v=>(pH e σ rs).map (v::·)
theorem wT(e:Env)(σ:St):∀ rs,iW e σ rs=pH e σ rs
 |[]=>rfl
 |.tmp t::rs=>by simp[iW,pH,AN,wT e σ rs]
 |.cell t sh::rs=>by
  simp only[iW,pH,AN,wT e σ rs];cases jT sh σ (Env.get e t)<;>cases pH e σ rs<;>simp
theorem aM8(e:Env)(σ:St):eY [] e σ=some (.tuple []):=by simp[eY,iW]
theorem aJX(r:ARes)(e:Env)(σ:St):eY [r] e σ=AN e σ r:=by
 simp only[eY,wT,pH];cases AN e σ r<;>simp
theorem aI5(r s:ARes)(rs:List ARes)(e:Env)(σ:St):eY (r::s::rs) e σ=(pH e σ (r::s::rs)).map .tuple:=by
 simp only[eY,wT,pH];cases AN e σ r<;>cases AN e σ s<;>cases pH e σ rs<;>simp
theorem aP2(e:Env)(σ:St):pH e σ []=some []:=by simp only[pH]
theorem aOT(r:ARes)(rs:List ARes)(e:Env)(σ:St):pH e σ (r::rs)=(AN e σ r).bind fun v=>(pH e σ rs).map (v::·):=by simp only[pH]
theorem aVN(t:Nat)(e:Env)(σ:St):AN e σ (.tmp t)=some (Env.get e t):=by simp only[AN]
theorem aU1(t:Nat)(sh:Option Nat)(e:Env)(σ:St):AN e σ (.cell t sh)=jT sh σ (Env.get e t):=by simp only[AN]
theorem aWI(id:Nat)(K:KJ)(e:Env)(σ:St):k6 id K none e σ=K none e σ:=by simp only[k6]
theorem aS8(id:Nat)(K:KJ)(e:Env)(σ:St):k6 id K (some .ret) e σ=K (some .ret) e σ:=by simp only[k6]
theorem aSF(id:Nat)(K:KJ)(e:Env)(σ:St):k6 id K (some (.exit id)) e σ=K none e σ:=by simp[k6]
theorem aQ7(id i:Nat)(K:KJ)(e:Env)(σ:St)(h:i≠id):k6 id K (some (.exit i)) e σ=K (some (.exit i)) e σ:=by simp[k6,h]
theorem aLT{α:Type}{sz:Nat}{enc:α->AV}{l:List α}{k:Nat}{t:Option Nat}(h:k<l.length)(hs:∀ x,(enc x).cells.length=sz):D6 sz (l.map enc) (k:Int) t=some (.lptr (l.map enc) k 0 t):=by
 simp[D6,List.getElem?_map,h,hs]
theorem aKU{α:Type}{enc:α->AV}{l:List α}{k:Nat}(h:k<l.length):(l.map enc)[k]? = some (enc l[k]):=by simp[List.getElem?_map,h]
theorem ZX{α:Type}{sz:Nat}{enc:α->AV}{l:List α}{i:Int}{t:Option Nat}(h0:0<=i)(h:i.toNat<l.length)(hs:∀ x,(enc x).cells.length=sz):D6 sz (l.map enc) i t=some (.lptr (l.map enc) i.toNat 0 t):=by
 simp[D6,List.getElem?_map,h,hs,h0]
theorem rd0{ds:List ADOper}{e:Env}{σ:St}{K:KJ}(hz:dC ds=[])(h:wpD T ds e σ σ.length [σ] [] fun e σ=>K none e σ):rK (K:=⟨K⟩) T (.dreg ds) e σ:=by
 refine O7 ?_;rw[hz,List.append_nil];exact h
theorem xC{ds:List ADOper}{e:Env}{σ:St}{K:KJ}(zs:St)(hz:dC ds=zs)(h:wpD T ds e (σ++zs) σ.length [σ++zs] [] fun e σ=>K none e σ):rK (K:=⟨K⟩) T (.dreg ds) e σ:=by
 subst hz;exact O7 h
theorem bR{k n:Nat}(h:k<n)(hn:n<9223372036854775808):IntKind.i64.wrap ((k:Int)+1)=((k+1:Nat):Int):=by rw[bZ ⟨by omega,by omega⟩];omega
def ints(l:List Int):AV:=.lit (l.map (.int .i64)) false none
theorem iN(l:List Int):jU (ints l):=dP (aR .i64) l
theorem CE(σ:St)(m d:Nat)(k:IntKind)(l:List Int):cB σ m d (l.map (.int k))=some (l.map (.int k)):=iG (cV (aR k) l) σ m d
theorem aK2(σ:St)(m d:Nat)(l:List ByteArray):cB σ m d (l.map .str)=some (l.map .str):=iG (cV xG l) σ m d
theorem aIH(σ:St)(m d:Nat):∀ xs ys:List AV,cB σ m d (xs++ys)=(cB σ m d xs).bind fun a=>(cB σ m d ys).map (a++·)
 |[],ys=>by rw[VO];simp
 |x::xs,ys=>by
  rw[List.cons_append,MH,MH,aIH σ m d xs ys];cases bW σ m d x<;>simp;cases cB σ m d xs<;>simp;cases cB σ m d ys<;>simp
def iD(l:List (List Int)):AV:=.lit (l.map ints) false none
theorem MZ(l:List (List Int)):jU (iD l):=dP iN l
theorem aJG(σ:St)(m d:Nat)(l:List Int):bW σ m d (ints l)=some (ints l):=aL0 (iN l) σ m d
theorem aKK(σ:St)(m d:Nat)(l:List (List Int)):cB σ m d (l.map ints)=some (l.map ints):=iG (cV iN l) σ m d
theorem aKJ(k:IntKind)(a b:Int):AI [.int k a,.int k b]=some (.int k (min a b)):=by
 simp only[AI,uI,if_true,Option.some.injEq,AV.int.injEq,true_and];split<;>omega
theorem yN(k:IntKind)(a b:Int):AA [.int k a,.int k b]=some (.int k (max a b)):=by
 simp only[AA,uB,if_true,Option.some.injEq,AV.int.injEq,true_and];split<;>omega
def iT(s:ByteArray)(k:Nat):Int:=(((s[k]?).getD 0).toNat:Int)
theorem TS(s:ByteArray)(k:Nat):0<=iT s k/\iT s k<256:=by
 have:=((s[k]?).getD 0).toNat_lt;unfold iT;omega
theorem aK5{s:ByteArray}{k:Nat}(h:k<s.size):A3 (.str s) (.int .i64 (k:Int))=some (.int .u8 (iT s k)):=by
 simp[A3,eZ,iT,h]
structure Span where
 lo:Int
 hi:Int
 deriving DecidableEq
def eR(s:Span):AV:=.agg [.int .i64 s.lo,.int .i64 s.hi]
theorem aN(s:Span):eR s = .agg [.int .i64 s.lo,.int .i64 s.hi]:=by simp only[eR]
theorem uD(s:Span):jU (eR s):=gE (aD (aR _ _) (aD (aR _ _) cL))
def aEK(l:List ByteArray):AV:=.lit (l.map .str) false none
theorem T4(l:List ByteArray):jU (aEK l):=dP xG l
end Go.Am
namespace Go.Am
variable {T:FuncId->Option AFunc}
def fZ(T:FuncId->Option AFunc)(f:AV)(args:List AV)(σ:St)(v:AV):Prop:=Run T (.callv f args σ) fun o=>o.v=v/\o.σ=σ
def DM(o:Option AV)(σ0 σ:St)(v:AV):Prop:=∃ v0 τ,o=some v0/\σ=σ0++τ/\bW σ σ0.length 20 v0=some v
@[congr] theorem aH5{o o':Option AV}{σ0 σ σ':St}{v:AV}(h:o=o')(h2:σ=σ'):DM o σ0 σ v=DM o' σ0 σ' v:=by rw[h,h2]
def K5(rs:List ARes)(σ0:St)(v:AV):KJ:=fun j e σ=>(j=none\/j=some .ret)/\DM (eY rs e σ) σ0 σ v
theorem aKP(rs:List ARes)(σ0:St)(v:AV)(e:Env)(σ:St):K5 rs σ0 v none e σ=DM (eY rs e σ) σ0 σ v:=by simp[K5]
theorem aQ6(rs:List ARes)(σ0:St)(v:AV)(e:Env)(σ:St):K5 rs σ0 v (some .ret) e σ=DM (eY rs e σ) σ0 σ v:=by simp[K5]
theorem cS{v0:AV}{σ0 σ:St}{v:AV}(τ:St)(h1:σ=σ0++τ)(h2:bW σ σ0.length 20 v0=some v):DM (some v0) σ0 σ v:=⟨v0,τ,rfl,h1,h2⟩
theorem dH{f:FuncId}{first cap args:List AV}{σ:St}{af:AFunc}{v:AV}(hf:T f=some af)(hn:(first++args++cap).length<=af.ntmps)(h:wp T af.body (eI 0 (first++args++cap)) σ (K5 af.results σ v)):fZ T (.func f first cap) args σ v:=by
 refine .callf (.call hf hn (fA h fun o ho=>ho) fun o ho=>?_);obtain⟨h1,v0,τ,h2,h3,h4⟩:=ho;refine⟨h1,v0,h2,?_⟩;unfold bW at h4;cases hs:snap o.σ σ.length 20 v0 with
 |none=>rw[hs] at h4;cases h4
 |some v1 =>
  rw[hs] at h4;simp at h4;exact .inr ⟨20,v1,v,hs,.inr h4.symm,fun i hi=>.inl (by rw[h3];exact List.getElem?_append_left hi),by rw[h3];simp,rfl,by rw[h3];simp⟩
theorem bI{f:AV}{args:List AV}{v:AV}{σ:St}{K:AV->St->Prop}(h:fZ T f args σ v)(k:K v σ):cK (K:=⟨K⟩) T f args σ:=.mono h fun o ho=>by rw[ho.1,ho.2];exact k
theorem C9{f:AV}{args:List AV}{v:AV}{σ:St}{K:AV->St->Prop}(h:fZ T f args σ v)(k:K v σ):cD (K:=⟨K⟩) T f args σ:=⟨v,σ,h,k⟩
def n4(σ:St)(v:AV):Prop:=∀ τ,bW (σ++τ) σ.length 20 v=some v
theorem n4.nil{σ:St}{v:AV}(h:n4 σ v):bW σ σ.length 20 v=some v:=by simpa using h []
theorem aDE(m:Nat):∀ (σ τ:St),EqS m σ (σ++τ) σ=True
 |[],τ=>by cases τ<;>simp[EqS]
 |b::σ,τ=>by simp[EqS,aDE m σ τ]
theorem aH9(m:Nat)(σ:St):EqS m σ σ σ=True:=by simpa using aDE m σ []
theorem aLG(σ τ υ:St):σ++τ++υ=σ++(τ++υ):=List.append_assoc _ _ _
theorem VV{s:ByteArray}{k:Nat}(h:k<s.size):yW [.siter s k] (.ptr 0 0)=some (.tuple [.bool true,.int .i64 k,.int .i32 (Utf8.decode s k).1],[.siter s (k+(Utf8.decode s k).2)]):=by
 simp[yW,h]
theorem aCJ{s:ByteArray}{k:Nat}(h:¬k<s.size):yW [.siter s k] (.ptr 0 0)=some (.tuple [.bool false],[.siter s k]):=by
 simp[yW,h]
theorem wI{s:ByteArray}{k:Nat}(h:k<s.size)(hb:iT s k<128):Utf8.decode s k=((iT s k).toNat,1):=by
 have e:iT s k=((s[k]'h).toNat:Int):=by simp[iT,h]
 rw[decode_ascii s k h (by omega),e];simp
theorem IL{s:ByteArray}{k:Nat}(h:k<s.size)(hb:128<=iT s k):128<=(Utf8.decode s k).1:=by
 have e:iT s k=((s[k]'h).toNat:Int):=by simp[iT,h]
 exact (decode_high s k h (by omega)).1
theorem aM5{α:Type}{sz:Nat}{enc:α->AV}{l:List α}{i:Nat}{σ:St}{t:Option Nat}(hi:i<=l.length)(hs:∀ x,(enc x).cells.length=sz):AS sz σ (.lit (l.map enc) false t) none (some (.int .i64 (i:Int))) none=some (.lit ((l.take i).map enc) false t):=by
 have hc:A9 sz (l.map enc) 0 (i:Int)=true:=by
  unfold A9;by_cases h0:i=0
  ·subst h0;simp
  ·cases l with
   |nil=>simp at hi;omega
   |cons x l=>simp[hs]
 simp only[AS,i5,pT,Option.map_none,eZ,nG];rw[if_pos ⟨by omega,by omega,by simp;omega,hc⟩];simp[List.map_take]
theorem bH{f:FuncId}{args args0:List AV}{v:AV}{σ:St}{K:AV->St->Prop}(h:cY T f args0 v)(ha:clrs args=args0)(hk:okVs 0 args)(k:K v σ):cK (K:=⟨K⟩) T (.func f [] []) args σ :=
 LO h (by simpa using ha) (by simpa using hk) k
theorem fX{f:FuncId}{args args0:List AV}{v:AV}{σ:St}{K:AV->St->Prop}(h:cY T f args0 v)(ha:clrs args=args0)(hk:okVs 0 args)(k:K v σ):cD (K:=⟨K⟩) T (.func f [] []) args σ :=
 JZ h (by simpa using ha) (by simpa using hk) k
end Go.Am
namespace Go.Am
def QV:=zz @aN7 (zz @mW (zz @aEN (zz @aLG (zz @aK5 (zz @aKJ (zz @yN (zz @aNZ (zz @aI2 (zz @aAE (zz @PL (zz @aSG (zz @aPQ (zz @aJM (zz @aGG (zz @Z1 (zz @W0 (zz @VR (zz @TZ (zz @LU (zz @aNF (zz @aL7 (zz @aJJ (zz @aJ1 (zz @aKF (zz @aHQ (zz @aCN (zz @aJK (zz @aM3 (zz @aKS (zz @aG8 (zz @aK9 (zz @aP8 (zz @aGT (zz @aFY (zz @PI (zz @aOY (zz @aPN (zz @HM (zz @OI (zz @HD (zz @aQ2 (zz @aOD (zz @aPH (zz @aNM (zz @aOF (zz @aOI (zz @aRM (zz @aR8 (zz @aNR (zz @aR1 (zz @aPY (zz @aSA (zz @aNG (zz @aJ8 (zz @XJ (zz @Z4 (zz @aL6 (zz @aJE (zz @aQI (zz @aL5 (zz @Q9 (zz @Q3 (zz @n8 (zz @AR (zz @aN1 (zz @aO8 (zz @aGS (zz @aON (zz @aD1 (zz @aBP (zz @aMX (zz @aQA (zz @aIO (zz @aP9 (zz @aQC (zz @aI3 (zz @aOL (zz @aCE (zz @TB (zz @aHR (zz @C_0 (zz @aMN (zz @aFG (zz @aMH (zz @aJN (zz @aML (zz @aKG (zz @aEA (zz @aLY (zz @SG (zz @MD (zz @aOV (zz @aKI (zz @aO9 (zz @aSE (zz @aN2 (zz @aOW (zz @aLD (zz @aRB (zz @aRY (zz @ZV (zz @RV (zz @aQQ (zz @aQ4 (zz @X9 (zz @NI (zz @aNX (zz @aPU (zz @aQ3 (zz @aJD (zz @aN6 (zz @aM8 (zz @aJX (zz @aI5 (zz @aP2 (zz @aOT (zz @aVN (zz @aU1 (zz @aLH (zz @aJV (zz @aSB (zz @aM4 (zz @aFD (zz @aSM (zz @aGU (zz @aFI (zz @aE7 (zz @aNI (zz @aG7 (zz @M3 (zz @aNO (zz @aRR (zz @aQG (zz @aO3 (zz @aKD (zz @aGX (zz @aET (zz @SB (zz @YZ (zz @ZQ (zz @aDH (zz @aFB (zz @aG4 (zz @aC8 (zz @WS (zz @aCS (zz @UP (zz @aSL (zz @aRS (zz @aCL (zz @aHB (zz @aMY (zz @aO2 (zz @aSD (zz @UW (@aF4))))))))))))))))))))))))))))))))))))))))))))))))))))))))))))))))))))))))))))))))))))))))))))))))))))))))))))))))))))))))))))))))))))))))))))))))))))))))))))
def QP:=zz @aKP (zz @aQ6 (zz @aQD (zz @aOK (zz @aM7 (zz @aJ9 (zz @aEX (zz @aNE (zz @aEW (zz @aF8 (zz @aRV (zz @aWI (zz @aS8 (zz @aSF (zz @aQ7 (zz @aLT (zz @aKU (zz @aJL (zz @aGO (zz @aK3 (zz @aLL (zz @aF9 (zz @aRF (zz @aJO (zz @aPV (zz @aLO (zz @aN3 (zz @WD (zz @aH6 (zz @aQ1 (zz @aKY (zz @aD2 (zz @aPP (zz @aFU (zz @aFN (zz @aD6 (zz @aKC (zz @aFK (zz @MI (zz @aRX (zz @aOJ (zz @aPZ (zz @aOH (zz @aJW (zz @aDJ (zz @aFP (zz @SY (zz @aA2 (zz @ZE (zz @aDY (zz @aEZ (zz @aEB (zz @aGV (zz @aAF (zz @YB (zz @VH (zz @aQU (zz @aSS (zz @XM (zz @aGN (zz @aMS (zz @aP7 (zz @aOC (zz @aCZ (@aER))))))))))))))))))))))))))))))))))))))))))))))))))))))))))))))))
def QD:=zz @aNT (zz @aLC (zz @aEF (zz @Z9 (zz @aQN (zz @aJ2 (zz @aQT (zz @aDX (zz @aEQ (zz @aG0 (zz @aI1 (zz @aDR (zz @M4 (zz @aQJ (zz @aNV (zz @aR0 (zz @aP5 (zz @aJA (zz @aFF (zz @aD8 (zz @UH (zz @aCB (zz @ZL (zz @aGP (zz @aDC (zz @aDZ (zz @aFV (zz @aAZ (zz @aAJ (zz @ZS (zz @aSK (zz @aRI (zz @U9 (zz @aGA (zz @aJQ (zz @aRL (zz @aRT (zz @YD (zz @aGB (zz @aPK (zz @aKB (zz @aQY (zz @aFL (zz @aDV (zz @aGD (zz @aMT (zz @aDW (zz @NW (zz @aOX (zz @aSP (zz @aPJ (zz @aPO (zz @aL3 (zz @aFW (zz @aE8 (zz @R3 (zz @UQ (zz @aBN (zz @aGE (zz @aDB (zz @aC9 (zz @aEJ (zz @WK (zz @YP (zz @aBD (zz @aSN (zz @aP3 (zz @XN (zz @aFJ (zz @aMJ (zz @aNU (zz @aOS (zz @YU (@aFR)))))))))))))))))))))))))))))))))))))))))))))))))))))))))))))))))))))))))
def QS:=zz @aKK (zz @aJG (zz @aIH (zz @CE (zz @aK2 (zz @aO1 (zz @aKL (zz @aQF (zz @Z5 (zz @UF (zz @aPL (zz @aRU (zz @VO (zz @MH (zz @aGQ (zz @aR3 (zz @OS (zz @V2 (zz @aKN (zz @aHQ (@aCN))))))))))))))))))))
def QR:=zz @UN (zz @aA7 (zz @aG2 (@aDT)))
def QT:=zz @aDE (zz @aH9 (zz @aSW (zz @aU0 (zz @aUD (zz @aUT (zz @aUR (zz @aTG (zz @aT2 (@aAE)))))))))
variable {T:FuncId->Option AFunc}
mutual
theorem okV_up {m:Nat}:∀ v,okV 0 v->okV m v
 |.func _ first cap,h=>⟨okVs_up first h.1,okVs_up cap h.2⟩
 |.lptr xs _ _ tk,h=>⟨fun t e=>absurd (h.1 t e) (by omega),okVs_up xs h.2⟩
 |.lit xs _ tk,h=>⟨fun t e=>absurd (h.1 t e) (by omega),okVs_up xs h.2⟩
 |.agg cs,h=>okVs_up cs h
 |.tuple vs,h=>okVs_up vs h
 |.yield _,h|.ptr _ _,h|.ref _ _ _ _,h|.map _,h=>absurd h (by simp[okV])
 |.undef,_|.int _ _,_|.bool _,_|.str _,_|.nilFunc,_|.nilPtr,_|.nilMap,_=>trivial
theorem okVs_up {m:Nat}:∀ vs,okVs 0 vs->okVs m vs
 |[],_=>trivial
 |v::vs,h=>⟨okV_up v h.1,okVs_up vs h.2⟩
end
theorem dQ{σ:St}{m d id off len sz:Nat}(h:id<m):bW σ m d (.ref id off len sz)=some (.ref id off len sz):=by
 cases d<;>simp[bW,snap,h,clr]
theorem KM{m:Nat}:∀ {xs ys:List AV},okVs m xs->okVs m ys->okVs m (xs++ys)
 |[],_,_,h=>h
 |x::xs,ys,h,h2=>⟨h.1,KM h.2 h2⟩
theorem aA5{f:FuncId}{args:List AV}{v:AV}{af:AFunc}(hf:T f=some af)(hn:args.length<=af.ntmps)(hk:kY args)(h:Run T (.code af.body (eI 0 args) []) fun o=>LZ af.results v o.j o.env o.σ):cY T f args v:=by
 intro σ;refine .frame hk.1 (.inl rfl) (R:=fun o=>o.v=v/\o.σ=[]) (.call hf hn h fun o ho=>?_) fun o ho=>⟨ho.2,ho.1,rfl⟩
 obtain⟨h1,v0,h2,h3⟩:=ho;refine⟨h1,v0,h2,?_⟩;unfold bW at h3;cases hs:snap o.σ 0 20 v0 with
 |none=>rw[hs] at h3;cases h3
 |some v1 =>
  rw[hs] at h3;simp at h3;exact .inr ⟨20,v1,v,hs,.inr h3.symm,fun i hi=>absurd hi (by simp),by simp,rfl,by simp⟩
theorem YQ{a:ACode}{e:Env}{σ:St}{K:KJ}(h:wp T a e σ K):Run T (.code a e σ) fun o=>K o.j o.env o.σ:=fA h fun o ho=>ho
end Go.Am
namespace Go.Am
theorem UM(l:List Int):ints l = .lit (l.map (.int .i64)) false none:=by simp only[ints]
theorem aB3(l:List ByteArray):aEK l = .lit (l.map .str) false none:=by simp only[aEK]
def QC:=zz @and_self (zz @and_true (zz @true_and (zz @true_or (zz @or_true (zz @UM (zz @aB3 (zz @decide_true (zz @decide_false (zz @Nat.lt_irrefl (zz @Nat.le_refl (zz @List.length_cons.{0} (zz @List.length_nil.{0} (zz @List.cons_append.{0} (zz @List.nil_append.{0} (zz @List.append_nil.{0} (zz @List.getElem?_cons_zero.{0} (zz @List.getElem?_cons_succ.{0} (zz @List.take_zero.{0} (zz @List.drop_zero.{0} (zz @List.take_succ_cons.{0} (zz @List.drop_succ_cons.{0} (zz @List.take_nil.{0} (zz @List.drop_nil.{0} (zz @List.set_cons_zero.{0} (zz @List.set_cons_succ.{0} (zz @List.length_map.{0,0} (zz @Bool.and_true (zz @Bool.true_and (zz @Bool.and_self (zz @Bool.not_true (zz @Bool.not_false (zz @beq_self_eq_true.{0} (zz @Nat.zero_add (zz @implies_true.{0} (zz @implies_true.{1} (zz @forall_const.{0} (zz @forall_const.{1} (zz @ne_eq.{1} (zz @not_false_eq_true (@not_true_eq_false))))))))))))))))))))))))))))))))))))))))
def QA:=zz QP QD
def QB:=zz QR (zz QV (zz QS QC))
def QE:=zz QT (zz QS (zz @aAE (zz @List.length_append.{0} (zz @Nat.le_add_right QC))))
class Dat (v:AV):Prop where
 h:jU v
class Dats (vs:List AV):Prop where
 h:kY vs
theorem dd{vs:List AV}[k:Dats vs]:kY vs:=k.h
instance:Dats []:=⟨cL⟩
instance {v:AV} {vs:List AV} [a:Dat v] [b:Dats vs]:Dats (v::vs):=⟨aD a.h b.h⟩
instance (k:IntKind) (n:Int):Dat (.int k n):=⟨aR k n⟩
instance (b:Bool):Dat (.bool b):=⟨uL b⟩
instance (s:ByteArray):Dat (.str s):=⟨xG s⟩
instance (l:List Int):Dat (ints l):=⟨iN l⟩
instance (l:List (List Int)):Dat (iD l):=⟨MZ l⟩
instance (l:List ByteArray):Dat (aEK l):=⟨T4 l⟩
instance (s:Span):Dat (eR s):=⟨uD s⟩
instance {cs:List AV} [a:Dats cs]:Dat (.agg cs):=⟨gE a.h⟩
instance {cs:List AV} [a:Dats cs]:Dat (.tuple cs):=⟨N9 a.h⟩
instance {cs:List AV} [a:Dats cs]:Dat (.lit cs false none):=⟨IZ a.h⟩
instance (k:IntKind) (l:List Int):Dats (l.map (.int k)):=⟨cV (aR k) l⟩
end Go.Am
namespace Go.Am.Room
def inR(n lo hi:Int):Bool:=decide (lo<=n)&&decide (n<=hi)
theorem mX(n lo hi:Int):cY T 20 [.int .i64 n,.int .i64 lo,.int .i64 hi] (.bool (inR n lo hi)):=by
 refine aV (af:=a20) rfl (by simp[a20]) dd ?_;try simp only[↓QA,QB,seval,a20]
 refine aE (fun h=>?_) fun h=>?_
 all_goals
  try simp only[↓QA,QB,seval,h]
  simp[inR,h]
def oT(s:Span)(lo hi:Int):Int:=if !inR s.lo lo hi||!inR s.hi lo hi then 7 else if s.hi<s.lo then 2 else 0
theorem aDK(s:Span)(lo hi:Int):cY T 29 [eR s,.int .i64 lo,.int .i64 hi] (.int .i64 (oT s lo hi)):=by
 refine aV (af:=a29) rfl (by simp[a29]) dd ?_;try simp only[↓QA,QB,seval,a29,aN]
 refine aC (mX _ _ _) rfl dd ?_;try simp only[↓QA,QB,seval]
 cases h1:inR s.lo lo hi
 ·try simp only[↓QA,QB,seval]
  simp[oT,h1]
 ·try simp only[↓QA,QB,seval]
  refine aC (mX _ _ _) rfl dd ?_;try simp only[↓QA,QB,seval]
  cases h2:inR s.hi lo hi
  ·try simp only[↓QA,QB,seval]
   simp[oT,h1,h2]
  ·try simp only[↓QA,QB,seval]
   refine aE (fun h=>?_) fun h=>?_
   all_goals
    try simp only[↓QA,QB,seval,h]
    simp[oT,h1,h2];simpa using h
def mT(s:Span)(n:Int):Span:=⟨min s.lo n,max s.hi n⟩
theorem WH(l:List Int)(n:Int)(hl:l.length<9223372036854775808):cY T 64 [ints l,.int .i64 n] (.bool (l.contains n)):=by
 refine aV (af:=a64) rfl (by simp[a64]) dd ?_;try simp only[↓QA,QB,seval,a64]
 refine cI (S:=Nat) 0 (·<=l.length) (fun k=>l.length-k) (fun k=>[(0,ints l),(1,.int .i64 n),(5,.bool ((l.take k).contains n)),(6,.int .i64 k)]) (fun _=>[]) (Nat.zero_le _) rfl ?_ fun k hk=>?_
 ·try simp only[aB,QE,seval]
  try simp
 ·try simp only[↓QA,QB,seval,aIV]
  refine aE (fun h=>?_) fun h=>?_
  ·have hk1:k<l.length:=by simpa using h
   try simp only[↓QA,QB,seval]
   refine aE (fun h2=>?_) fun h2=>?_
   all_goals
    try simp only[↓QA,QB,seval,h2,hk1]
    refine⟨k+1,by omega,by omega,?_⟩;try simp only[aB,QE,seval,bR hk1 hl]
    simp only[List.take_succ_eq_append_getElem hk1,List.contains_append,h2];simp;try (rw[Bool.eq_iff_iff];simp;exact eq_comm)
  ·have:k=l.length:=by simp at h;omega
   try simp only[↓QA,QB,seval]
   simp[this]
def less:List Int->List Int->Bool
 |_,[]=>false
 |[],_::_=>true
 |a::az,b::bs=>if a=b then less az bs else decide (a<b)
theorem RG{a b:List Int}{k:Nat}(ha:k<a.length)(hb:k<b.length)(h:a[k]=b[k]):less (a.drop (k+1)) (b.drop (k+1))=less (a.drop k) (b.drop k):=by
 rw[List.drop_eq_getElem_cons ha,List.drop_eq_getElem_cons hb];simp[less,h]
theorem P7(a b:List Int)(ha:a.length<9223372036854775808)(hb:b.length<9223372036854775808):cY T 170 [ints a,ints b] (.bool (less a b)):=by
 refine aV (af:=Z3) rfl (by simp[Z3]) dd ?_
 (repeat (first|simp only[↓QA,QB,seval,Z3]|refine rd0 rfl ?_))
 refine cI (S:=Nat) 0 (fun k=>k<=a.length/\k<=b.length/\less (a.drop k) (b.drop k)=less a b) (fun k=>a.length-k) (fun k=>[(0,ints a),(1,ints b),(5,.int .i64 k)]) (fun _=>[]) ⟨Nat.zero_le _,Nat.zero_le _,rfl⟩ rfl ?_ fun k hk=>?_
 ·try simp only[aB,QE,seval]
  try simp
 ·obtain⟨hka,hkb,hl⟩:=hk
  (repeat (first|simp only[↓QA,QB,seval,XA]|refine rd0 rfl ?_))
  by_cases h1:k<a.length
  ·have g1:decide ((k:Int)<a.length)=true:=by simpa using h1
   by_cases h2:k<b.length
   ·have g2:decide ((k:Int)<b.length)=true:=by simpa using h2
    (repeat (first|simp only[↓QA,QB,seval,g1,g2,h1,h2]|refine rd0 rfl ?_))
    refine aE (fun h3=>?_) fun h3=>?_
    ·have h3':a[k]=b[k]:=by simpa using h3
     (repeat (first|simp only[↓QA,QB,seval,h3]|refine rd0 rfl ?_))
     refine⟨k+1,⟨by omega,by omega,(RG h1 h2 h3').trans hl⟩,by omega,?_⟩;try simp only[aB,QE,seval,bR h1 ha]
    ·have h3':a[k]≠b[k]:=by simpa using h3
     have e1:((k:Int)==b.length)=false:=by simp;omega
     have e2:((k:Int)==a.length)=false:=by simp;omega
     (repeat (first|simp only[↓QA,QB,seval,h3,e1,e2,h1,h2]|refine rd0 rfl ?_))
     rw[<-hl,List.drop_eq_getElem_cons h1,List.drop_eq_getElem_cons h2];simp[less,h3']
   ·have hkb':k=b.length:=by omega
    have g2:decide ((k:Int)<b.length)=false:=by simp;omega
    have e1:((k:Int)==b.length)=true:=by simp;omega
    (repeat (first|simp only[↓QA,QB,seval,g1,g2,e1]|refine rd0 rfl ?_))
    rw[<-hl,hkb',List.drop_length];cases List.drop b.length a<;>simp[less]
  ·have g1:decide ((k:Int)<a.length)=false:=by simp;omega
   have e2:((k:Int)==a.length)=true:=by simp;omega
   have hka':k=a.length:=by omega
   (repeat (first|simp only[↓QA,QB,seval,g1]|refine rd0 rfl ?_))
   refine aE (fun h3=>?_) fun h3=>?_
   ·have h3':k=b.length:=by simp at h3;omega
    (repeat (first|simp only[↓QA,QB,seval]|refine rd0 rfl ?_))
    rw[<-hl,h3',List.drop_length];cases List.drop b.length a<;>simp[less]
   ·have h3':k<b.length:=by simp at h3;omega
    (repeat (first|simp only[↓QA,QB,seval,h3,e2]|refine rd0 rfl ?_))
    rw[<-hl,hka',List.drop_length,List.drop_eq_getElem_cons (by omega)];simp[less]
theorem qK:∀ a,less a a=false
 |[]=>rfl
 |a::az=>by simp[less,qK az]
theorem CI:∀ a b,less a b=false->less b a=false->a=b
 |[],[],_,_=>rfl
 |[],b::bs,h,_=>by simp[less] at h
 |a::az,[],_,h=>by simp[less] at h
 |a::az,b::bs,h1,h2=>by
  by_cases hab:a=b
  ·subst hab;simp[less] at h1 h2;rw[CI az bs h1 h2]
  ·simp[less,hab,Ne.symm hab] at h1 h2;omega
theorem eK(a b:List Int)(ha:a.length<9223372036854775808)(hb:b.length<9223372036854775808):cY T 44 [ints a,ints b] (.bool (decide (a=b))):=by
 refine aV (af:=a44) rfl (by simp[a44]) dd ?_;try simp only[↓QA,QB,seval,a44]
 refine aE (fun h=>?_) fun h=>?_
 ·try simp only[↓QA,QB,seval,h]
  refine aC (P7 a b ha hb) rfl dd ?_;try simp only[↓QA,QB,seval,h]
  cases h1:less a b
  ·try simp only[↓QA,QB,seval,h]
   refine aC (P7 b a hb ha) rfl dd ?_;try simp only[↓QA,QB,seval,h]
   cases h2:less b a
   ·rw[CI a b h1 h2];simp
   ·have:a≠b:=by rintro rfl;rw[qK] at h2;cases h2
    simp[this]
  ·have:a≠b:=by rintro rfl;rw[qK] at h1;cases h1
   try simp only[↓QA,QB,seval,h]
   simp[this]
 ·have:a≠b:=by rintro rfl;simp at h
  try simp only[↓QA,QB,seval,h]
  simp[this]
def dY(a b:List Int):Bool:=if a.length=b.length then less a b else decide (a.length<b.length)
theorem aG1(a b:ByteArray):(a.toList==b.toList)=decide (a=b):=by
 rw[Bool.eq_iff_iff];simp;constructor
 ·intro h;rw[Go.Lib.toList_data,Go.Lib.toList_data] at h;exact ByteArray.ext (Array.toList_inj.1 h)
 ·rintro rfl;rfl
def zJ(s:ByteArray):List ByteArray->Nat
 |[]=>0
 |x::xs=>if x=s then 0 else zJ s xs+1
def HF(i:Nat)(b:Int):Bool:=inR b 97 122||(decide (0<i)&&(b==46||inR b 48 57))
def mV(s:ByteArray):Nat->Bool
 |0=>true
 |k+1=>mV s k&&HF k (iT s k)
def yA(s:ByteArray):Bool:=inR s.size 1 16&&mV s s.size
def fresh(s:ByteArray)(before:List ByteArray):Int:=if yA s=false then 6 else if zJ s before=before.length then 0 else 5
def aM(a:Int):Nat->List Int
 |0=>[]
 |n+1=>a::aM (a+1) n
theorem jF:∀ n a,(aM a n).length=n
 |0,_=>rfl
 |n+1,a=>by simp[aM,jF n]
theorem bC:∀ n a x,x∈aM a n↔a<=x/\x<a+n
 |0,a,x=>by simp[aM]
 |n+1,a,x=>by simp[aM,bC n];omega
def dJ(i:Nat)(c:List Int):Int:=if 0<i then (c[i-1]?).getD 0+1 else 0
def PU(below i:Nat)(c:List Int):List (List Int):=(aM (dJ i c) ((below:Int)-dJ i c).toNat).map fun n=>c++[n]
def dB(below:Nat):Nat->List (List Int)
 |0=>[[]]
 |i+1=>(dB below i).flatMap (PU below i)
theorem m9(below:Nat):∀ i c,c∈dB below i->c.length=i/\∀ x∈c,0<=x/\x<below
 |0,c,h=>by simp[dB] at h;subst h;simp
 |i+1,c,h=>by
  simp only[dB,List.mem_flatMap] at h;obtain⟨d,h1,h2⟩:=h;obtain⟨q1,q2⟩:=m9 below i d h1;simp only[PU,List.mem_map,bC] at h2;obtain⟨n,h3,rfl⟩:=h2;refine⟨by simp[q1],fun x hx=>?_⟩;rcases List.mem_append.1 hx with hx|hx
  ·exact q2 x hx
  ·simp at hx;subst hx;have:0<=dJ i d:=by
    unfold dJ;split
    ·rename_i hi;have hlt:i-1<d.length:=by omega
     have:=q2 d[i-1] (List.getElem_mem hlt);simp[hlt];omega
    ·omega
   omega
theorem AU{α β:Type}(f:α->List β)(b:Nat):∀ l:List α,(∀ x∈l,(f x).length<=b)->(l.flatMap f).length<=l.length*b
 |[],_=>by simp
 |x::l,h=>by
  have h1:=h x (by simp);have h2:=AU f b l fun y hy=>h y (List.mem_cons_of_mem _ hy)
  simp only[List.flatMap_cons,List.length_append,List.length_cons,Nat.add_mul];omega
theorem DT(l:List (List Int)):aH 1 (l.map ints)=true:=vJ 1 ints l fun x=>aIO _ _ _
theorem kX(l:List Int):aH 1 (l.map (.int .i64))=true:=vJ 1 _ l fun x=>aBP _ _
theorem v9:∀ {a b c:List Int},less a b=true->less b c=true->less a c=true
 |a,b,[],h1,h2=>by cases b<;>simp[less] at h2
 |a,[],c::cs,h1,h2=>by cases a<;>simp[less] at h1
 |[],b::bs,c::cs,h1,h2=>by simp[less]
 |a::az,b::bs,c::cs,h1,h2=>by
  simp only[less] at *;by_cases hab:a=b
  ·subst hab;by_cases hac:a=c
   ·subst hac;simp only[if_true] at *;exact v9 h1 h2
   ·simp only[hac,if_false,if_true] at *;exact h2
  ·by_cases hbc:b=c
   ·subst hbc;simp only[hab,if_false,if_true,decide_eq_true_eq] at *;exact h1
   ·simp only[hab,hbc,if_false,decide_eq_true_eq] at *;rw[if_neg (by omega)];simp;omega
theorem uA(a:List Int):dY a a=false:=by simp[dY,qK]
theorem sQ{a b c:List Int}(h1:dY a b=true)(h2:dY b c=true):dY a c=true:=by
 simp only[dY] at *;by_cases e1:a.length=b.length<;>by_cases e2:b.length=c.length
 ·simp only[e1,e2,if_true] at *;exact v9 h1 h2
 ·simp only[e1,e2,if_true,if_false,decide_eq_true_eq] at *;exact h2
 ·rw[if_neg e1] at h1;rw[if_neg (by omega)];simp at h1 ⊢;omega
 ·simp only[e1,e2,if_false,decide_eq_true_eq] at *;rw[if_neg (by omega)];simp;omega
theorem yV{a b:List Int}(h1:dY a b=false)(h2:dY b a=false):a=b:=by
 simp only[dY] at *;by_cases e1:a.length=b.length
 ·simp only[e1,if_true] at *;exact CI a b h1 h2
 ·rw[if_neg e1] at h1;rw[if_neg (Ne.symm e1)] at h2;simp at h1 h2;omega
theorem HV{a b c:List Int}(h1:dY b a=false)(h2:dY c b=false):dY c a=false:=by
 rw[Bool.eq_false_iff];intro h;by_cases hab:dY a b=true
 ·rw[sQ h hab] at h2;cases h2
 ·have:=yV (by simpa using hab) h1;subst this;rw[h] at h2;cases h2
def lst(n s:Nat):List Int:=(aM 0 n).filter fun i=>decide (s/2^i.toNat%2=1)
theorem aLN:∀ n:Fin 7,∀ s:Fin 64,s.val<2^n.val->lst n s∈dB n (lst n s).length:=by decide +kernel
theorem V9:∀ n m:Fin 7,∀ c∈dB n m,∃ s:Fin 64,s.val<2^n.val/\lst n s=c:=by decide +kernel
theorem B5:∀ n m:Fin 7,(dB n m).Pairwise fun a b=>less a b=true:=by decide +kernel
theorem K3:∀ n:Fin 7,(dB n n).length=1:=by decide +kernel
theorem wV(n s:Nat):(lst n s).length<=n:=by
 have:=List.length_filter_le (fun i:Int=>decide (s/2^i.toNat%2=1)) (aM 0 n);rw[jF] at this;exact this
def eF(f:List Int->Bool)(n:Nat):Nat->Nat->Option (List Int)
 |0,_=>none
 |k+1,m=>match (dB n m).find? f with
  |some l=>some l
  |none=>eF f n k (m+1)
theorem F7:∀ n:Fin 7,∀ c∈dB n n,∀ j:Fin 7,j.val<n.val->c.contains ((j.val:Nat):Int)=true:=by decide +kernel
def pA(f:List Int->Bool)(o:Option (List Int))(l:List Int):Option (List Int):=match o with
 |none=>if f l=true then some l else none
 |some b=>if dY b l=true then some b else if f l=true then some l else some b
def nF(f:List Int->Bool)(n:Nat):Nat->Nat->Option (List Int)->Option (List Int)
 |0,_,o=>o
 |k+1,s,o=>nF f n k (s+1) (pA f o (lst n s))
theorem xI(f:List Int->Bool)(n:Nat):∀ k s o,(∀ w,o=some w->f w=true/\∃ t,t<s/\w=lst n t/\∀ t',t'<s->f (lst n t')=true->dY (lst n t') w=false)->(o=none->∀ t,t<s->f (lst n t)=false) ->
  (∀ w,nF f n k s o=some w->f w=true/\∃ t,t<s+k/\w=lst n t/\∀ t',t'<s+k->f (lst n t')=true->dY (lst n t') w=false)/\(nF f n k s o=none->∀ t,t<s+k->f (lst n t)=false)
 |0,s,o,h1,h2=>⟨h1,h2⟩
 |k+1,s,o,h1,h2=>by
  have ih:=xI f n k (s+1) (pA f o (lst n s));rw[show s+1+k=s+(k+1) by omega] at ih;simp only[nF];have last:∀ (w:List Int) t',t'<s+1->(∀ t'',t''<s->f (lst n t'')=true->dY (lst n t'') w=false)->(f (lst n s)=true->dY (lst n s) w=false)->f (lst n t')=true->dY (lst n t') w=false:=by
   intro w t' ht h3 h4 hs;by_cases he:t'=s
   ·subst he;exact h4 hs
   ·exact h3 t' (by omega) hs
  refine ih (fun w hw=>?_) fun hn t ht=>?_
  ·cases o with
   |none =>
    simp only[pA] at hw;split at hw
    ·rename_i hs;simp only[Option.some.injEq] at hw;subst hw;refine⟨hs,s,by omega,rfl,fun t' ht hst=>last _ t' ht (fun t'' h4 h5=>by rw[h2 rfl t'' h4] at h5;cases h5) (fun _=>uA _) hst⟩
    ·cases hw
   |some b =>
    obtain⟨q1,t,q2,q3,q4⟩:=h1 b rfl;simp only[pA] at hw;split at hw
    ·rename_i hf;simp only[Option.some.injEq] at hw;subst hw;refine⟨q1,t,by omega,q3,fun t' ht hst=>last _ t' ht q4 (fun _=>?_) hst⟩;rw[Bool.eq_false_iff];intro h5;have:=sQ hf h5;rw[uA] at this;cases this
    ·rename_i hf;split at hw
     ·rename_i hs;simp only[Option.some.injEq] at hw;subst hw;refine⟨hs,s,by omega,rfl,fun t' ht hst=>last _ t' ht (fun t'' h4 h5=>?_) (fun _=>uA _) hst⟩;exact HV (by simpa using hf) (q4 t'' h4 h5)
     ·rename_i hs;simp only[Option.some.injEq] at hw;subst hw;exact⟨q1,t,by omega,q3,fun t' ht hst=>last _ t' ht q4 (fun h5=>absurd h5 hs) hst⟩
  ·cases o with
   |none =>
    simp only[pA] at hn;split at hn
    ·cases hn
    ·rename_i hs;by_cases he:t=s
     ·subst he;simpa using hs
     ·exact h2 rfl t (by omega)
   |some b =>
    simp only[pA] at hn;split at hn
    ·cases hn
    ·split at hn<;>cases hn
theorem v7:∀ {n i:Nat} {c:List Int},c∈dB n i->i<=n:=by
 intro n i;cases i with
 |zero=>intros;omega
 |succ i =>
  intro c hc;simp only[dB,List.mem_flatMap,PU,List.mem_map,bC] at hc;obtain⟨d,hd,x,hx,rfl⟩:=hc;have key:∀ j (d:List Int),d∈dB n j->(j:Int)<=dJ j d:=by
   intro j
   induction j with
   |zero=>intro d _;simp[dJ]
   |succ j ih =>
    intro d hd;simp only[dB,List.mem_flatMap,PU,List.mem_map,bC] at hd;obtain⟨d',hd',y,hy,rfl⟩:=hd;have h5:=ih d' hd';have h6:=(m9 n j d' hd').1;simp only[dJ,Nat.succ_pos,if_true,Nat.add_sub_cancel];rw[List.getElem?_append_right (by omega),h6,Nat.sub_self];simp only[List.getElem?_cons_zero,Option.getD_some];omega
  have:=key i d hd;omega
theorem n9(f:List Int->Bool)(n:Nat)(hN:n<=6):∀ k m,(∀ m',m'<m->∀ c∈dB n m',f c=false) ->
  (∀ l,eF f n k m=some l->l∈dB n l.length/\f l=true/\∀ m',∀ c∈dB n m',f c=true->dY c l=false)/\(eF f n k m=none->∀ m',m'<m+k->∀ c∈dB n m',f c=false)
 |0,m,hlow=>⟨fun l h=>by simp[eF] at h,fun _ m' h c hc=>hlow m' (by omega) c hc⟩
 |k+1,m,hlow=>by
  simp only[eF];cases hf:(dB n m).find? f with
  |none =>
   simp only;have ih:=n9 f n hN k (m+1) fun m' hm' c hc=>by
    by_cases he:m'=m
    ·subst he;rw[List.find?_eq_none] at hf;simpa using hf c hc
    ·exact hlow m' (by omega) c hc
   exact⟨ih.1,fun h m' hm'=>ih.2 h m' (by omega)⟩
  |some l =>
   simp only;refine⟨fun l' h=>?_,fun h=>by cases h⟩;cases h;have hmem:=List.mem_of_find?_eq_some hf;have hs:=List.find?_some hf;have hlen:=(m9 _ _ _ hmem).1;rw[hlen];refine⟨hmem,hs,fun m' c hc hsc=>?_⟩;have hcl:=(m9 _ _ _ hc).1;by_cases h1:m'<m
   ·rw[hlow m' h1 c hc] at hsc;cases hsc
   ·by_cases he:m'=m
    ·subst he;rw[Bool.eq_false_iff];intro hlt;simp only[dY,hcl,hlen,if_true] at hlt;obtain⟨pre,post,e1,e2⟩:=(List.find?_eq_some_iff_append.1 hf).2;have hmn:=v7 hmem;have hpw:=B5 ⟨n,by omega⟩ ⟨m',by omega⟩;simp only at hpw;rw[e1] at hc hpw;rcases List.mem_append.1 hc with hc|hc
     ·have:=e2 c hc;rw[hsc] at this;cases this
     ·rcases List.mem_cons.1 hc with rfl|hc
      ·rw[qK] at hlt;cases hlt
      ·have:=(List.pairwise_append.1 hpw).2.1;have:=(List.pairwise_cons.1 this).1 c hc;have h3:=v9 hlt this;rw[qK] at h3;cases h3
    ·simp only[dY];rw[if_neg (by omega)];simp;omega
theorem aMO(f:List Int->Bool)(n:Nat)(hN:n<=6):nF f n (2^n) 0 none=eF f n (n+1) 0:=by
 have hp:2^n<=2^6:=Nat.pow_le_pow_right (by omega) hN;obtain⟨w1,w2⟩:=n9 f n hN (n+1) 0 (fun m' h=>by omega);obtain⟨s1,s2⟩:=xI f n (2^n) 0 none (fun w h=>by cases h) (fun _ t h=>by omega);rw[Nat.zero_add] at s1 s2;cases hf:nF f n (2^n) 0 none with
 |none =>
  cases hg:eF f n (n+1) 0 with
  |none=>rfl
  |some l =>
   obtain⟨a,b,c⟩:=w1 l hg;have hle:=v7 a;obtain⟨t,ht,hlt⟩:=V9 ⟨n,by omega⟩ ⟨l.length,by omega⟩ l a;have:=s2 hf t.val ht;rw[show lst n t.val=l from hlt,b] at this;cases this
 |some w =>
  obtain⟨q1,t',q2,q3,q4⟩:=s1 w hf;have hin:=aLN ⟨n,by omega⟩ ⟨t',by omega⟩ q2;simp only at hin;rw[<-q3] at hin;have hle:w.length<=n:=by rw[q3];exact wV _ _
  cases hg:eF f n (n+1) 0 with
  |none =>
   have:=w2 hg w.length (by omega) w hin;rw[q1] at this;cases this
  |some l =>
   obtain⟨a,b,c⟩:=w1 l hg;have hll:=v7 a;obtain⟨t,ht,hlt⟩:=V9 ⟨n,by omega⟩ ⟨l.length,by omega⟩ l a;have a1:=q4 t.val ht (by rw[show lst n t.val=l from hlt];exact b);rw[show lst n t.val=l from hlt] at a1;have a2:=c w.length w hin q1;rw[yV a1 a2]
open Go
variable {P:Program}
def qC(P:Program)(t:TypeId)(ts:List TypeId):Prop:=∃ fs,P.underlying t=some (.struct fs)/\fs.toList.map Field.type=ts
theorem CD{n:Nat}{t:TypeId}{ts:List TypeId}{cs:List AV}(hu:qC P t ts)(h:Typ P (n+1) t cs):mkV P t cs = .agg cs/\FK P n ts cs:=by
 obtain⟨fs,h1,h2⟩:=hu;have:=M9 h1 h;rw[h2] at this;exact⟨OU h1,this⟩
theorem aLQ{t:TypeId}{a:AV}{d:TypeDesc}(hu:P.underlying t=some d)(hd:∀ fs,d≠.struct fs:=by intro fs h;cases h)(hd2:∀ k e,d≠.array k e:=by intro k e h;cases h):mkV P t [a]=a:=aDQ (by rw[hu];intro fs e;cases e;exact hd _ rfl) (by rw[hu];intro k e h;cases h;exact hd2 _ _ rfl)
theorem PA{n:Nat}{i t:TypeId}{cs:List AV}(hi:P.underlying i=some (.int .i64))(hs:qC P t [i,i])(h:Typ P (n+2) t cs):∃ s:Span,cs=[.int .i64 s.lo,.int .i64 s.hi]:=by
 obtain⟨_,a,b,rfl,h1,c,d,rfl,h2,rfl⟩:=CD hs h;obtain⟨x,rfl,_⟩:=lZ hi h1;obtain⟨y,rfl,_⟩:=lZ hi h2;exact⟨⟨x,y⟩,rfl⟩
theorem aMV{n:Nat}{t:TypeId}{cs:List AV}(hi:P.underlying t=some (.int .i64))(h:Typ P (n+1) t cs):∃ x:Int,mkV P t cs = .int .i64 x/\True:=by
 obtain⟨x,rfl,_⟩:=lZ hi h;exact⟨x,aLQ hi,trivial⟩
theorem aPM{n:Nat}{t i:TypeId}{cs:List AV}(hi:P.underlying i=some (.int .u8))(hs:P.underlying t=some (.array 2 i))(h:Typ P (n+2) t cs):∃ x y:Int,mkV P t cs = .agg [.int .u8 x,.int .u8 y]/\(0<=x/\x<256)/\(0<=y/\y<256):=by
 have e:=RP (cs:=cs) hs;obtain⟨a,b,rfl,h1,c,d,rfl,h2,rfl⟩:=RI hs h;obtain⟨x,rfl,hx⟩:=lZ hi h1;obtain⟨y,rfl,hy⟩:=lZ hi h2;exact⟨x,y,e,aIP hx,aIP hy⟩
end Go.Am.Room
namespace Go.Am.Room
def aK{α:Type}(f:Nat->α->Int):List α->Nat->Option (Nat×Int)
 |[],_=>none
 |x::xs,i=>if f i x=0 then aK f xs (i+1) else some (i,f i x)
theorem dU{α:Type}{f:Nat->α->Int}{l:List α}{k:Nat}(h:k<l.length):aK f (l.drop k) k=if f k l[k]=0 then aK f (l.drop (k+1)) (k+1) else some (k,f k l[k]):=by
 rw[List.drop_eq_getElem_cons h];rfl
theorem eO{α:Type}{f:Nat->α->Int}{l:List α}{k:Nat}(h:k=l.length):aK f (l.drop k) k=none:=by
 rw[h,List.drop_length];rfl
def eE:List Int->Span
 |[]=>⟨0,0⟩
 |x::xs=>xs.foldl mT ⟨x,x⟩
def fG(yes all:Nat):Int:=if yes=all then 1 else if yes=0 then 2 else 0
theorem aZ{n lo hi:Int}:inR n lo hi=true↔lo<=n/\n<=hi:=by simp[inR]
theorem y0{s:Span}{lo hi:Int}(h:oT s lo hi=0):lo<=s.lo/\s.lo<=s.hi/\s.hi<=hi:=by
 unfold oT at h;split at h
 ·omega
 ·rename_i h1;split at h
  ·omega
  ·simp[inR] at h1;omega
theorem Q8{s:Span}{lo hi:Int}(h:lo<=s.lo/\s.lo<=s.hi/\s.hi<=hi):oT s lo hi=0:=by
 unfold oT;rw[aZ.2 ⟨h.1,by omega⟩,aZ.2 ⟨by omega,h.2.2⟩];simp;omega
theorem gD{α:Type}{f:Nat->α->Int}:∀ {l:List α} {i:Nat},aK f l i=none->∀ k (h:k<l.length),f (i+k) l[k]=0
 |[],_,_,k,h=>by simp at h
 |x::xs,i,h,k,hk=>by
  simp only[aK] at h;split at h
  ·rename_i h0;cases k with
   |zero=>exact h0
   |succ k =>
    have:=gD h k (by simpa using hk);simpa[Nat.add_assoc,Nat.add_comm 1 k] using this
  ·cases h
theorem i9{α:Type}{f:Nat->α->Int}:∀ {l:List α} {i:Nat},(∀ x∈l,∀ k,f k x=0)->aK f l i=none
 |[],_,_=>rfl
 |x::xs,i,h=>by
  simp only[aK];rw[if_pos (h x (by simp) i)];exact i9 fun y hy=>h y (by simp[hy])
theorem eG{α:Type}{f:Nat->α->Int}:∀ {l:List α} {i j:Nat} {e:Int},aK f l i=some (j,e)->e≠0
 |[],_,_,_,h=>by cases h
 |x::xs,i,j,e,h=>by
  simp only[aK] at h;split at h
  ·exact eG h
  ·rename_i hn;simp at h;rw[<-h.2];exact hn
theorem wX{α:Type}{f:Nat->α->Int}:∀ {l:List α} {i:Nat},(∀ k (h:k<l.length),f (i+k) l[k]=0)->aK f l i=none
 |[],_,_=>rfl
 |x::xs,i,h=>by
  simp only[aK];rw[if_pos (show f i x=0 from h 0 (by simp))];exact wX fun k hk=>by have:=h (k+1) (by simpa using hk);simpa[Nat.add_assoc,Nat.add_comm 1 k] using this
theorem jR:∀ (n:Nat) (a:Int),aM a (n+1)=aM a n++[a+n]
 |0,a=>by simp[aM]
 |n+1,a=>by
  rw[aM,jR n (a+1)];simp only[aM,List.cons_append]
  congr 3
  omega
theorem EC{n:Nat}{bl l:List Int}(h:∀ x:Int,0<=x->x<n->(x∈bl↔x∈l)):(aM 0 n).filter (fun h=>bl.contains h)=(aM 0 n).filter (fun h=>l.contains h):=by
 refine List.filter_congr fun x hx=>?_
 have:=(bC _ _ _).1 hx;have:=h x (by omega) (by omega);rw[Bool.eq_iff_iff];simpa using this
end Go.Am.Room
set_option maxRecDepth 4000
namespace Go.Am.Room.Tu
def iC{α:Type}(p:α->Bool):List α->Nat->Int
 |[],_=>-1
 |x::xs,k=>if p x then k else iC p xs (k+1)
theorem nK{α:Type}(p:α->Bool):∀ (l:List α) (k:Nat),decide (0<=iC p l k)=l.any p
 |[],k=>by simp[iC]
 |x::xs,k=>by
  cases h:p x
  ·simp[iC,h,nK p xs (k+1)]
  ·simp[iC,h]
theorem zG(σ:St)(f:AV)(l:List Int)(p:Int->Bool)(hl:l.length<9223372036854775808)(hk:n4 σ f)(h:∀ x∈l,fZ T f [.int .i64 x] σ (.bool (p x))):fZ T (.func 257 [] []) [ints l,f] σ (.int .i64 (iC p l 0)):=by
 refine dH (af:=H6) rfl (by simp[H6]) ?_;have hk0:=hk.nil;try simp only[↓QA,QB,seval,H6]
 refine cI (S:=Nat) 0 (fun k=>k<=l.length/\iC p (l.drop k) k=iC p l 0) (fun k=>l.length-k) (fun k=>[(0,ints l),(1,f),(7,.int .i64 l.length),(8,.int .i64 k)]) (fun _=>σ) ⟨Nat.zero_le _,by simp⟩ rfl ?_ fun k hk1=>?_
 ·try simp only[aB,QE,seval]
  try simp
 ·obtain⟨hkl,hi⟩:=hk1;try simp only[↓QA,QB,seval,ON]
  refine aE (fun hd=>?_) fun hd=>?_
  ·have hlt:k<l.length:=by simpa using hd
   rw[List.drop_eq_getElem_cons hlt] at hi;simp only[iC] at hi;have hw:=bR hlt hl;try simp only[↓QA,QB,seval,hlt]
   refine bI (h l[k] (List.getElem_mem hlt)) ?_;try simp only[↓QA,QB,seval]
   cases hp:p l[k]
   ·try simp only[↓QA,QB,seval,hw]
    refine⟨k+1,⟨by omega,by rw[<-hi,hp];rfl⟩,by omega,?_⟩;try simp only[aB,QE,seval,hw,hk0,Nat.le_refl]
   ·try simp only[↓QA,QB,seval]
    refine cS [] (by first|rfl|simp) ?_;rw[<-hi,hp];try simp only[QS,QC,seval]
  ·have hlt:k=l.length:=by simp at hd;omega
   try simp only[↓QA,QB,seval]
   refine cS [] (by first|rfl|simp) ?_;rw[<-hi,hlt,List.drop_length];try simp only[QS,QC,seval,iC]
theorem m6(σ:St)(f:AV)(l:List Int)(p:Int->Bool)(hl:l.length<9223372036854775808)(hk:n4 σ f)(h:∀ x∈l,fZ T f [.int .i64 x] σ (.bool (p x))):fZ T (.func 356 [] []) [ints l,f] σ (.bool (l.any p)):=by
 refine dH (af:=LM) rfl (by simp[LM]) ?_;try simp only[↓QA,QB,seval,LM]
 refine bI (zG σ f l p hl hk h) ?_;try simp only[↓QA,QB,seval]
 refine cS [] (by first|rfl|simp) ?_;rw[<-nK p l 0];try simp only[QS,QC,seval]
def gV(lo hi n:Int):Bool:=decide (n<lo)||decide (hi<n)
def j9(lo hi:Int)(ns:List Int):Bool:=ns.any (gV lo hi)
theorem G6(lo hi n:Int):fZ T (.func 405 [] [.ptr 0 0,.ptr 1 0]) [.int .i64 n] [.cells [.int .i64 lo],.cells [.int .i64 hi]] (.bool (gV lo hi n)):=by
 refine dH (af:=XL) rfl (by simp[XL]) ?_;try simp only[↓QA,QB,seval,XL]
 refine aE (fun h=>?_) fun h=>?_
 all_goals
  try simp only[↓QA,QB,seval,h]
  refine cS [] (by first|rfl|simp) ?_;try simp only[QS,QC,seval,gV,h]
  try simp
theorem jE(lo hi:Int)(ns:List Int)(hl:ns.length<9223372036854775808):cY T 287 [.int .i64 lo,.int .i64 hi,ints ns] (.bool (j9 lo hi ns)):=by
 refine aV (af:=aAN) rfl (by simp[aAN]) dd ?_;try simp only[↓QA,QB,seval,aAN]
 refine bI (m6 _ _ ns (gV lo hi) hl (fun τ=>?_) fun x _=>G6 lo hi x) ?_
 ·try simp only[QS,QC,seval]
 ·try simp only[↓QA,QB,seval,j9]
theorem AL(lo hi n:Int):j9 lo hi [n] = !inR n lo hi:=by
 rw[Bool.eq_iff_iff];simp[j9,gV,inR]
theorem aUP(lo hi n m:Int):j9 lo hi [n,m]=(!inR n lo hi||!inR m lo hi):=by
 rw[Bool.eq_iff_iff];simp[j9,gV,inR]
def aQ{α:Type}(dJ most:Int)(of:Nat->α->Int)(l:List α):Int×Int:=if inR l.length dJ most=false then (0,3) else match aK of l 0 with|some (i,e)=>(i,e)|none=>(0,0)
def fT(x:Int×Int):AV:=.tuple [.int .i64 x.1,.int .i64 x.2]
def enc3(x:Int×Int×Int):AV:=.tuple [.int .i64 x.1,.int .i64 x.2.1,.int .i64 x.2.2]
end Go.Am.Room.Tu
namespace Go.Am.Room
def w7(sz:Nat)(σ:St)(xs:List AV):AV×St:=if xs.length=0 then (.lit [] true none,σ) else (.lit xs false (some σ.length),σ++[.tok sz xs.length true])
theorem QM{sz b:Nat}{σ:St}{xs:List AV}{f:Bool}{tk:Option Nat}(h:JT sz b [] xs):dD sz b σ (.lit [] true none) (.lit xs f tk)=some ((w7 sz σ xs).1,(w7 sz σ xs).2):=by
 by_cases h0:xs.length=0
 ·have:xs=[]:=List.length_eq_zero_iff.1 h0;subst this;rw[aE2];simp[w7]
 ·rw[IM h h0];simp[w7,h0]
theorem E2{sz b:Nat}{σ:St}{xs ys:List AV}{f:Bool}{tk:Option Nat}(h:JT sz b xs ys)(hy:ys.length≠0):dD sz b (w7 sz σ xs).2 (w7 sz σ xs).1 (.lit ys f tk)=some (.lit (xs++ys) false (some σ.length),σ++[.tok sz (xs.length+ys.length) true]):=by
 by_cases h0:xs.length=0
 ·have:xs=[]:=List.length_eq_zero_iff.1 h0;subst this;simp only[w7,List.length_nil,if_true];rw[IM h hy];simp
 ·simp only[w7,h0,if_false];rw[GB (ex:=true) h hy (by simp)];simp
theorem qM{σ:St}{sz b:Nat}{xs ys:List AV}{ex f:Bool}{t:Nat}{tk:Option Nat}(h:JT sz b xs ys)(h0:ys.length≠0)(n:Nat)(hn:n=xs.length)(ht:σ[t]? = some (.tok sz n ex)):
  dD sz b σ (.lit xs false (some t)) (.lit ys f tk)=some (.lit (xs++ys) false (some t),σ.set t (.tok sz (n+ys.length) true)):=by
 subst hn;exact GB h h0 ht
theorem HR{xs l:List AV}{f:Bool}{t:Option Nat}(h:aH 1 xs=true):aH 1 (xs++[.lit l f t])=true:=by
 unfold aH at *;rw[List.all_append,h];rfl
theorem dR(m:Nat):∀ (σ a b c:St),EqS m (σ++a) (σ++b) (σ++c)=EqS m a b c
 |[],a,b,c=>rfl
 |x::σ,a,b,c=>by simp only[List.cons_append,EqS,dR m σ a b c,true_or,true_and,and_self]
theorem aVI(a:Nat)(h:a<9223372036854775808):Go.Am.bits .and .i64 (a:Int) 1=((a%2:Nat):Int):=by
 have e1:(BitVec.ofInt 64 (a:Int) &&& BitVec.ofInt 64 1).toNat=a%2:=by
  rw[BitVec.toNat_and];have h1:(BitVec.ofInt 64 (a:Int)).toNat=a:=by
   rw[BitVec.toNat_ofInt];omega
  have h2:(BitVec.ofInt 64 1).toNat=1:=by decide
  rw[h1,h2,Nat.and_one_is_mod]
 show IntKind.i64.wrap (((BitVec.ofInt 64 (a:Int) &&& BitVec.ofInt 64 1).toNat:Nat):Int)=_
 rw[e1];exact bZ ⟨by omega,by omega⟩
theorem BE(a:Nat)(h:a<9223372036854775808):cQ .and (.int .i64 (a:Int)) (.int .i64 1)=some (.int .i64 ((a%2:Nat):Int)):=by
 simp[cQ,fH,aVI a h]
theorem IR(a i:Nat)(h:i<=60):cQ .shr (.int .i64 (a:Int)) (.int .i64 (i:Int))=some (.int .i64 ((a/2^i:Nat):Int)):=by
 have hm:Nat.min i 64=i:=Nat.min_eq_left (by omega);have h0:¬(i:Int)<0:=by omega
 simp only[cQ,h0,if_false,IntKind.bits,Int.toNat_natCast,hm,Option.some.injEq,AV.int.injEq,true_and];rw[Int.fdiv_eq_ediv_of_nonneg _ (Int.pow_nonneg (by omega))];norm_cast
theorem rR(m:Nat)(σ b c:St):EqS m σ (σ++b) (σ++c)=EqS m [] b c:=by have:=dR m σ [] b c;rwa [List.append_nil] at this
def sJ(T:FuncId->Option AFunc)(f:AV)(args:List AV)(σ:St)(v:AV)(σ':St):Prop:=Run T (.callv f args σ) fun o=>o.v=v/\o.σ=σ'
theorem eH{f:AV}{args:List AV}{v:AV}{σ σ':St}{K:AV->St->Prop}(h:sJ T f args σ v σ')(k:K v σ'):cK (K:=⟨K⟩) T f args σ:=.mono h fun o ho=>by rw[ho.1,ho.2];exact k
theorem kR{f:AV}{args:List AV}{v:AV}{σ σ':St}{K:AV->St->Prop}(h:sJ T f args σ v σ')(k:K v σ'):cD (K:=⟨K⟩) T f args σ:=⟨v,σ',h,k⟩
theorem NT(n:Nat):(List.replicate n [AV.int .i64 0]).flatten=List.replicate n (.int .i64 0):=by
 induction n with
 |zero=>rfl
 |succ n ih=>simp[List.replicate_succ,ih]
theorem MO(l:List Int):(l.map (AV.int .i64)).flatMap AV.cells=l.map (.int .i64):=by
 induction l with
 |nil=>rfl
 |cons x l ih=>simp only[List.map_cons,List.flatMap_cons,ih,AV.cells];rfl
theorem BC(z v:AV):PF true z (some (some v))=some (.tuple [v,.bool true]):=rfl
theorem A4(z:AV):PF true z (some none)=some (.tuple [z,.bool false]):=rfl
theorem OX(k:Nat)(x:ABlk)(hx:aL k x):∀ (A a b c:St) (i:Nat),EqS k (A++a) (A.set i x++b) (A.set i x++c)=EqS k a b c
 |[],a,b,c,i=>by simp
 |y::A,a,b,c,0=>by
  simp only[List.set_cons_zero,List.cons_append,EqS,dR,hx,or_true,true_and,and_self]
 |y::A,a,b,c,i+1=>by
  have:=OX k x hx A a b c i;simp only[List.set_cons_succ,List.cons_append,EqS,this,true_or,true_and,and_self]
theorem l0(i:Nat):bQ 1 (.yield i)=true:=by simp[bQ,AV.cells,AV.cell]
theorem lX(i:Nat):(AV.yield i).cells=[.yield i]:=by simp[AV.cells]
theorem C7{f:AOpd}{g:FuncId}{first cap:List AV}{ps:List Nat}{a b:ACode}{e:Env}{σ:St}{K:KJ}{R:Out->Prop}(hf:f.ev e = .func g first cap)(h:Run T (.call g (first++[.yield σ.length]++cap) (σ++[.loop .ready none e ps a b])) R)(h1:∀ o,R o->∃ st pend env' ps' a' b',o.σ[σ.length]? = some (.loop st pend env' ps' a' b')/\st≠.busy/\K pend e (o.σ.set σ.length .dead)):rK (K:=⟨K⟩) T (.rangeFunc f ps a b) e σ:=.rangeFunc hf h h1
theorem zW{σ:St}{l:List Int}{a:Int}{ex:Bool}{t:Nat}(hn:l.length<100)(ht:σ[t]? = some (.tok 1 l.length ex)):dD 1 8 σ (.lit (l.map (.int .i64)) false (some t)) (.lit [.int .i64 a] true none)=some (.lit ((l++[a]).map (.int .i64)) false (some t),σ.set t (.tok 1 (l.length+1) true)):=by
 rw[GB (ex:=ex) ⟨vJ 1 _ l (fun x=>aBP _ _),by simp[aH,AV.cells,AV.cell],by simp[room];omega,by simp[room];omega⟩ (by simp) (by simpa using ht)];simp
theorem II{vs:List AV}(h:kY vs)(m:Nat):okVs m vs:=okVs_up _ h.1
theorem GA{v:AV}(h:jU v)(m:Nat):okV m v:=(II (aD h cL) m).1
end Go.Am.Room
namespace Go.Am.Room
structure MemAt {M:Type} (S:M->St) (obj:List AV) (es:M->List (AV×AV)) (p m N:Nat):Prop where
 len:∀ M,(S M).length=N
 at0:∀ M,aO (S M) p=some obj
 map0:∀ M,(S M)[m]? = some (.map (es M))
 mset:∀ M M',(S M).set m (.map (es M'))=S M'
 ok:∀ M k,aL k (.map (es M))
 pl:p<N
 ml:m<N
namespace MemAt
variable {M:Type} {S:M->St} {obj:List AV} {es:M->List (AV×AV)} {p m N:Nat}
theorem base(h:MemAt S obj es p m N)(A:M)(τ:St)(k:Nat):aO (S A++τ) (N+k)=aO τ k:=by rw[<-h.len A];exact n8 _ _ _
theorem base0(h:MemAt S obj es p m N)(A:M)(τ:St):aO (S A++τ) N=aO τ 0:=h.base A τ 0
theorem bset(h:MemAt S obj es p m N)(A:M)(τ:St)(k:Nat)(x:ABlk):(S A++τ).set (N+k) x=S A++τ.set k x:=by rw[<-h.len A];exact mW _ _ _ _
theorem bset0(h:MemAt S obj es p m N)(A:M)(τ:St)(x:ABlk):(S A++τ).set N x=S A++τ.set 0 x:=h.bset A τ 0 x
theorem at1(h:MemAt S obj es p m N)(A:M)(τ:St):aO (S A++τ) p=some (obj):=by
 have:=h.at0 A;have hl:=h.pl;rw[<-h.len A] at hl;simp only[aO] at this ⊢;rw[List.getElem?_append_left hl];exact this
theorem map1(h:MemAt S obj es p m N)(A:M)(τ:St):(S A++τ)[m]? = some (.map (es A)):=by
 have hl:=h.ml;rw[<-h.len A] at hl;rw[List.getElem?_append_left hl];exact h.map0 A
theorem mset1(h:MemAt S obj es p m N)(A B:M)(τ:St):(S A++τ).set m (.map (es B))=S B++τ:=by
 have hl:=h.ml;rw[<-h.len A] at hl;rw[List.set_append_left _ _ hl,h.mset]
theorem keep(h:MemAt S obj es p m N)(A B:M)(i:Nat)(hi:i≠m):(S B)[i]? = (S A)[i]?:=by
 rw[<-h.mset A B,List.getElem?_set_ne (fun e=>hi e.symm)]
theorem kept(h:MemAt S obj es p m N){A B:M}{σ τ:St}(hσ:σ=S B++τ):∀ i,i<(S A).length->dA (S A) σ (S A).length i:=by
 intro i hi;rw[hσ];have hl:i<(S B).length:=by rw[h.len] at hi ⊢;exact hi
 by_cases him:i=m
 ·subst him;refine .inr (.inl ⟨.map (es B),?_,h.ok B _⟩);rw[List.getElem?_append_left hl,h.map0]
 ·refine .inl ?_;rw[List.getElem?_append_left hl,h.keep A B i him]
theorem app(h:MemAt S obj es p m N)(τ:St):MemAt (fun A=>S A++τ) obj es p m (N+τ.length) :=
 ⟨fun A=>by rw[List.length_append,h.len],fun A=>h.at1 A τ,fun A=>h.map1 A τ,fun A B=>h.mset1 A B τ,h.ok,by have:=h.pl;omega,by have:=h.ml;omega⟩
theorem eqS(h:MemAt S obj es p m N)(k:Nat)(A B:M)(x y z:St):EqS k (S A++x) (S B++y) (S B++z)=EqS k x y z:=by
 rw[<-h.mset A B];exact OX k _ (h.ok B k) _ _ _ _ _
end MemAt
theorem nJ{M:Type}{S:M->St}{obj:List AV}{es:M->List (AV×AV)}{p m N:Nat}(hR:MemAt S obj es p m N){f:FuncId}{first cap args:List AV}{af:AFunc}{v:AV}{A B:M}(hf:T f=some af)(hn:(first++args++cap).length<=af.ntmps)(h:wp T af.body (eI 0 (first++args++cap)) (S A) (fun j e σ1=>(j=none\/j=some .ret)/\∃ v0 τ,eY af.results e σ1=some v0/\σ1=S B++τ/\bW σ1 N 20 v0=some v)):sJ T (.func f first cap) args (S A) v (S B):=by
 refine .callf (.call hf hn (fA h fun o ho=>ho) fun o ho=>?_);obtain⟨hj,v0,τ,hres,hσ,h4⟩:=ho;refine⟨hj,v0,hres,?_⟩;unfold bW at h4;cases hs:snap o.σ N 20 v0 with
 |none=>rw[hs] at h4;cases h4
 |some v1 =>
  rw[hs] at h4;simp at h4;refine .inr ⟨20,v1,v,by rw[hR.len];exact hs,.inr h4.symm,hR.kept hσ,?_,rfl,?_⟩
  ·rw[hσ,List.length_append,hR.len,hR.len];omega
  ·rw[hσ,hR.len,<-hR.len B,List.take_left]
def bF{A X:Type}(f:A->X->X×Bool):List A->X->X×Bool
 |[],x=>(x,true)
 |a::az,x=>if (f a x).2=true then bF f az (f a x).1 else ((f a x).1,false)
theorem uG{A X:Type}(f:A->X->X×Bool):∀ (az bs:List A) (x:X),bF f (az++bs) x=if (bF f az x).2=true then bF f bs (bF f az x).1 else ((bF f az x).1,false)
 |[],bs,x=>by simp[bF]
 |a::az,bs,x=>by
  simp only[List.cons_append,bF];split
  ·exact uG f az bs _
  ·simp
structure Fam {X:Type} (Z ZD:X->St) (obj:List AV) (p q N:Nat):Prop where
 len:∀ x,(Z x).length=N
 lenD:∀ x,(ZD x).length=N
 at0:∀ x,aO (Z x) p=some obj
 atq0:∀ x,aO (Z x) q=some [.ptr p 0]
 keep:∀ x y k i,N<=k->i<N->dA (Z x) (Z y) k i
 keepD:∀ x y k i,N<=k->i<N->dA (Z x) (ZD y) k i
 pl:p<N
 ql:q<N
namespace Fam
variable {X:Type} {Z ZD:X->St} {obj:List AV} {p q N:Nat}
theorem base(h:Fam Z ZD obj p q N)(x:X)(τ:St)(k:Nat):aO (Z x++τ) (N+k)=aO τ k:=by rw[<-h.len x];exact n8 _ _ _
theorem base0(h:Fam Z ZD obj p q N)(x:X)(τ:St):aO (Z x++τ) N=aO τ 0:=h.base x τ 0
theorem bset(h:Fam Z ZD obj p q N)(x:X)(τ:St)(k:Nat)(y:ABlk):(Z x++τ).set (N+k) y=Z x++τ.set k y:=by rw[<-h.len x];exact mW _ _ _ _
theorem bset0(h:Fam Z ZD obj p q N)(x:X)(τ:St)(y:ABlk):(Z x++τ).set N y=Z x++τ.set 0 y:=h.bset x τ 0 y
theorem at1(h:Fam Z ZD obj p q N)(x:X)(τ:St):aO (Z x++τ) p=some obj:=by
 have:=h.at0 x;have hl:=h.pl;rw[<-h.len x] at hl;simp only[aO] at this ⊢;rw[List.getElem?_append_left hl];exact this
theorem atq1(h:Fam Z ZD obj p q N)(x:X)(τ:St):aO (Z x++τ) q=some [.ptr p 0]:=by
 have:=h.atq0 x;have hl:=h.ql;rw[<-h.len x] at hl;simp only[aO] at this ⊢;rw[List.getElem?_append_left hl];exact this
theorem leaveW(h:Fam Z ZD obj p q N){x:X}{W υ τ' σ':St}(hW:W.length=N)(hk:∀ k i,N<=k->i<N->dA (Z x) W k i){v:Bool}{Q:Out->Prop}(hσ:σ'=W++(υ++τ'))(hQ:Q ⟨none,[],W++υ,.bool v⟩):KY (Z x++υ) σ' (.bool v) Q:=by
 refine .inr ⟨20,.bool v,.bool v,by simp[snap],.inl rfl,fun i hi=>?_,?_,?_⟩
 ·rw[hσ];rw[List.length_append,h.len] at hi ⊢;by_cases hn:i<N
  ·have:=hk (N+υ.length) i (by omega) hn;have e1:(Z x++υ)[i]? = (Z x)[i]?:=List.getElem?_append_left (by rw[h.len];exact hn);have e2:(W++(υ++τ'))[i]? = W[i]?:=List.getElem?_append_left (by rw[hW];exact hn);simp only[dA,e1,e2] at this ⊢;exact this
  ·refine .inl ?_;have e1:(W++(υ++τ'))[i]? = (υ++τ')[i-N]?:=by rw[List.getElem?_append_right (by omega),hW]
   have e2:(Z x++υ)[i]? = υ[i-N]?:=by rw[List.getElem?_append_right (by rw[h.len];omega),h.len]
   rw[e1,e2,List.getElem?_append_left (by omega)]
 ·rw[hσ];simp only[List.length_append,h.len,hW];omega
 ·have e1:σ'.take (Z x++υ).length=W++υ:=by
   have q1:(Z x++υ).length=(W++υ).length:=by simp only[List.length_append,h.len,hW]
   rw[hσ,q1,<-List.append_assoc];exact List.take_left
  rw[e1];exact hQ
def out(Z ZD:X->St)(r:X×Bool):St:=if r.2=true then Z r.1 else ZD r.1
theorem leave(h:Fam Z ZD obj p q N){x:X}{r:X×Bool}{υ τ' σ':St}{Q:Out->Prop}(hσ:σ'=out Z ZD r++(υ++τ'))(hQ:Q ⟨none,[],out Z ZD r++υ,.bool r.2⟩):KY (Z x++υ) σ' (.bool r.2) Q:=by
 unfold out at hσ hQ;split at hσ
 ·rename_i hr;rw[if_pos hr] at hQ;exact h.leaveW (h.len _) (fun k i hk hi=>h.keep _ _ k i hk hi) hσ hQ
 ·rename_i hr;rw[if_neg hr] at hQ;exact h.leaveW (h.lenD _) (fun k i hk hi=>h.keepD _ _ k i hk hi) hσ hQ
end Fam
theorem ER{A X:Type}(f:A->X->X×Bool)(a:A)(x:X):bF f [a] x=f a x:=by
 simp only[bF];obtain⟨y,bb⟩:=f a x;cases bb<;>simp
structure Fam1 {X:Type} {M:Type} (Z ZD:X->M->St) (obj:List AV) (es:M->List (AV×AV)) (p m q N:Nat):Prop where
 ship:∀ x,MemAt (Z x) obj es p m N
 lenD:∀ x A,(ZD x A).length=N
 atq0:∀ x A,aO (Z x A) q=some [.ptr p 0]
 keep:∀ x A y B k i,N<=k->i<N->dA (Z x A) (Z y B) k i
 keepD:∀ x A y B k i,N<=k->i<N->dA (Z x A) (ZD y B) k i
 ql:q<N
 pl:p<N
namespace Fam1
variable {X:Type} {M:Type} {Z ZD:X->M->St} {obj:List AV} {es:M->List (AV×AV)} {p m q N:Nat}
theorem atq1(h:Fam1 Z ZD obj es p m q N)(x:X)(A:M)(τ:St):aO (Z x A++τ) q=some [.ptr p 0]:=by
 have:=h.atq0 x A;have hl:=h.ql;rw[<-(h.ship x).len A] at hl;simp only[aO] at this ⊢;rw[List.getElem?_append_left hl];exact this
def out(Z ZD:X->M->St)(r:X×Bool)(A:M):St:=if r.2=true then Z r.1 A else ZD r.1 A
end Fam1
def xK{X A M:Type}(Z ZD:X->M->St)(id:Nat)(args:A->Bool->Option Nat->List AV)(P:A->Prop)(f:A->X->X×Bool):Prop :=
 ∀ t,P t->∀ (fl:Bool) (tk:Option Nat) x B τ,Run T (.callv (.yield id) (args t fl tk) (Z x B++τ)) fun o=>o.v = .bool (f t x).2/\∃ τ',o.σ=Fam1.out Z ZD (f t x) B++(τ++τ')
theorem aF7{X:Type}{M:Type}{S:M->St}{obj:List AV}{es:M->List (AV×AV)}{p m N:Nat}(hS:MemAt S obj es p m N)(U UD:X->St)(n:Nat)(hU:∀ x,(U x).length=n)(hUD:∀ x,(UD x).length=n)(ok:∀ x y,y∈U x->∀ k,N<=k->aL k y)(okD:∀ x y,y∈UD x->∀ k,N<=k->aL k y)(env:Env)(ps:List Nat)(a bb:ACode)(st st':LS)(pe pe':Option AJump):
  Fam1 (fun x A=>S A++(U x++[.cells [.ptr p 0],.loop st pe env ps a bb])) (fun x A=>S A++(UD x++[.cells [.ptr p 0],.loop st' pe' env ps a bb])) obj es p m (N+n) (N+n+2):=by
 have hpl:=hS.pl;have low:∀ (A B:M) (C D:St) (k i:Nat),i<N->dA (S A++C) (S B++D) k i:=by
  intro A B C D k i hi;have e1:(S A++C)[i]? = (S A)[i]?:=List.getElem?_append_left (by rw[hS.len];exact hi);have e2:(S B++D)[i]? = (S B)[i]?:=List.getElem?_append_left (by rw[hS.len];exact hi);simp only[dA,e1,e2];by_cases him:i=m
  ·subst him;exact .inr (.inl ⟨_,hS.map0 B,hS.ok B k⟩)
  ·exact .inl (hS.keep A B i him)
 have high:∀ (A B:M) (C D:St) (l1 l2:ABlk) (k i:Nat),C.length=n->D.length=n->(∀ y∈D,aL k y)->N<=i->i<N+n+2->(l1=l2\/∃ st pe st' pe' env ps a b,l1 = .loop st pe env ps a b/\l2 = .loop st' pe' env ps a b) ->
   dA (S A++(C++[.cells [.ptr p 0],l1])) (S B++(D++[.cells [.ptr p 0],l2])) k i:=by
  intro A B C D l1 l2 k i hA hB hk h1 h2 hl;have e1:(S A++(C++[.cells [.ptr p 0],l1]))[i]? = (C++[.cells [.ptr p 0],l1])[i-N]?:=by rw[List.getElem?_append_right (by rw[hS.len];exact h1),hS.len]
  have e2:(S B++(D++[.cells [.ptr p 0],l2]))[i]? = (D++[.cells [.ptr p 0],l2])[i-N]?:=by rw[List.getElem?_append_right (by rw[hS.len];exact h1),hS.len]
  simp only[dA,e1,e2];obtain⟨j,hj⟩:∃ j,i-N=j:=⟨_,rfl⟩;rw[hj];by_cases hjn:j<n
  ·right;left;have hb:j<D.length:=by omega
   refine⟨D[j],?_,hk _ (List.getElem_mem hb)⟩;rw[List.getElem?_append_left hb,List.getElem?_eq_getElem hb]
  ·have:j=n\/j=n+1:=by omega
   rcases this with rfl|rfl
   ·left;rw[List.getElem?_append_right (by omega),List.getElem?_append_right (by omega),hA,hB];simp
   ·rw[List.getElem?_append_right (by omega),List.getElem?_append_right (by omega),hA,hB];simp only[Nat.add_sub_cancel_left,List.getElem?_cons_succ,List.getElem?_cons_zero];rcases hl with rfl|⟨_,_,_,_,_,_,_,_,rfl,rfl⟩
    ·exact .inl rfl
    ·exact .inr (.inr ⟨_,_,_,_,_,_,_,_,rfl,rfl⟩)
 refine⟨fun x=>?_,fun x A=>?_,fun x A=>?_,fun x A y B k i hk hi=>?_,fun x A y B k i hk hi=>?_,by omega,by omega⟩
 ·have:=hS.app (U x++[.cells [.ptr p 0],.loop st pe env ps a bb]);rw[List.length_append,hU] at this;exact this
 ·simp[hS.len,hUD];omega
 ·have e:N+n=(S A).length+n:=by rw[hS.len]
  rw[e,n8];have:n=(U x).length:=by rw[hU]
  rw[this];exact AR _ _
 ·by_cases h:i<N
  ·exact low _ _ _ _ _ _ h
  ·exact high _ _ _ _ _ _ _ _ (hU x) (hU y) (fun z hz=>ok y z hz k (by omega)) (by omega) hi (.inl rfl)
 ·by_cases h:i<N
  ·exact low _ _ _ _ _ _ h
  ·exact high _ _ _ _ _ _ _ _ (hU x) (hUD y) (fun z hz=>okD y z hz k (by omega)) (by omega) hi (.inr ⟨_,_,_,_,_,_,_,_,rfl,rfl⟩)
theorem aCR{X A M:Type}{S:M->St}{obj:List AV}{es:M->List (AV×AV)}{p m N:Nat}(hS:MemAt S obj es p m N)(U UD:X->St)(n:Nat)(hU:∀ x,(U x).length=n)(hUD:∀ x,(UD x).length=n)(J:AJump)(e:Env)(k:Nat)(ps:List Nat)(a bb:ACode)(g:FuncId)(ek:Env.get e k = .func g [] [.ptr (N+n) 0])(r:X×Bool)(B':M)(x:X)(B:M)(hrun:Run T (.call g [.yield (N+n+1),.ptr (N+n) 0] (S B++(U x++[.cells [.ptr p 0],.loop .ready none e ps a bb]))) fun o=>∃ τ',o.σ=Fam1.out (fun x A=>S A++(U x++[.cells [.ptr p 0],.loop .ready none e ps a bb])) (fun x A=>S A++(UD x++[.cells [.ptr p 0],.loop .done (some J) e ps a bb])) r B'++τ')(K:KJ)(hT:∀ τ,r.2=true->K none e (S B'++(U r.1++(.cells [.ptr p 0]::.dead::τ))))(hD:∀ τ,r.2=false->K (some J) e (S B'++(UD r.1++(.cells [.ptr p 0]::.dead::τ)))):
  rK (K:=⟨K⟩) T (.rangeFunc (.t k) ps a bb) e (S B++(U x++[.cells [.ptr p 0]])):=by
 have hlen:(S B++(U x++[ABlk.cells [.ptr p 0]])).length=N+n+1:=by simp[hS.len,hU];omega
 have hout:∀ (A W:St) (lp:ABlk) (τ':St),A.length=N->W.length=n->(A++(W++[ABlk.cells [.ptr p 0],lp])++τ')[N+n+1]? = some lp/\(A++(W++[ABlk.cells [.ptr p 0],lp])++τ').set (N+n+1) .dead=A++(W++(.cells [.ptr p 0]::.dead::τ')):=by
  intro A W lp τ' hA hW;have h1:N+n+1=(A++W).length+1:=by simp[hA,hW]
  have h2:A++(W++[ABlk.cells [.ptr p 0],lp])++τ'=(A++W)++(.cells [.ptr p 0]::lp::τ'):=by simp
  rw[h1,h2];constructor
  ·rw[tO];rfl
  ·rw[mW];simp
 refine C7 (by rw[PL,ek]) (by
  rw[hlen,List.append_assoc (S B),List.append_assoc (U x)]
  exact hrun) fun o ho=>?_
 obtain⟨τ',hσ⟩:=ho;rw[hlen,hσ];cases hr2:r.2
 ·have hD':=hD τ' hr2;obtain⟨g1,g2⟩:=hout (S B') (UD r.1) (.loop .done (some J) e ps a bb) τ' (hS.len _) (hUD _);simp only[Fam1.out,hr2,Bool.false_eq_true,if_false];rw[g1,g2];exact⟨_,_,_,_,_,_,rfl,by simp,hD'⟩
 ·have hT':=hT τ' hr2;obtain⟨g1,g2⟩:=hout (S B') (U r.1) (.loop .ready none e ps a bb) τ' (hS.len _) (hU _);simp only[Fam1.out,hr2,if_true];rw[g1,g2];exact⟨_,_,_,_,_,_,rfl,by simp,hT'⟩
theorem yX{X A M:Type}{S:M->St}{obj:List AV}{es:M->List (AV×AV)}{p m N:Nat}(hS:MemAt S obj es p m N)(U UD:X->St)(n:Nat)(hU:∀ x,(U x).length=n)(hUD:∀ x,(UD x).length=n)(J:AJump)(e:Env)(ps:List Nat)(args:A->Bool->Option Nat->List AV)(hps:∀ t fl tk,ps.length=(args t fl tk).length)(a bb:ACode){P:A->Prop}{f:A->X->X×Bool}(h:∀ t,P t->∀ (fl:Bool) (tk:Option Nat) x B τ,wp T a (iQ e ps (args t fl tk)) (S B++(U x++(.cells [.ptr p 0]::.loop .ready none e ps a bb::τ))) (fun j e' σ'=>j=none/\σ'=S B++(U x++(.cells [.ptr p 0]::.loop .ready none e ps a bb::τ)) /\
   wp T bb e' (S B++(U x++(.cells [.ptr p 0]::.loop .busy none e ps a bb::τ))) (fun j e'' σ''=>((f t x).2=true/\j=none/\∃ τ',σ''=S B++(U (f t x).1++(.cells [.ptr p 0]::.loop .busy none e ps a bb::(τ++τ')))) \/
    ((f t x).2=false/\j=some J/\∃ τ',σ''=S B++(UD (f t x).1++(.cells [.ptr p 0]::.loop .busy none e ps a bb::(τ++τ'))))))):
  xK (fun x B=>S B++(U x++[.cells [.ptr p 0],.loop .ready none e ps a bb])) (fun x B=>S B++(UD x++[.cells [.ptr p 0],.loop .done (some J) e ps a bb])) (N+n+1) args P f:=by
 intro t ht fl tk x B τ;have hget:∀ (A W:St) (lp:ABlk) (υ:St),A.length=N->W.length=n->(A++(W++(ABlk.cells [.ptr p 0]::lp::υ)))[N+n+1]? = some lp:=by
  intro A W lp υ hA hW;have h1:N+n+1=(A++W).length+1:=by simp[hA,hW]
  rw[h1,<-List.append_assoc,tO];rfl
 have hset:∀ (A W:St) (lp l2:ABlk) (υ:St),A.length=N->W.length=n->(A++(W++(ABlk.cells [.ptr p 0]::lp::υ))).set (N+n+1) l2=A++(W++(ABlk.cells [.ptr p 0]::l2::υ)):=by
  intro A W lp l2 υ hA hW;have h1:N+n+1=(A++W).length+1:=by simp[hA,hW]
  rw[h1,<-List.append_assoc,mW];simp
 obtain⟨r,hr⟩:∃ r,f t x=r:=⟨_,rfl⟩;have h:=h t ht fl tk x B τ;rw[hr] at h ⊢;have hst:(fun x B=>S B++(U x++[ABlk.cells [.ptr p 0],.loop .ready none e ps a bb])) x B++τ=S B++(U x++(.cells [.ptr p 0]::.loop .ready none e ps a bb::τ)):=by simp
 rw[hst];refine .round (env:=e) (ps:=ps) (a:=a) (b:=bb)
  (R:=fun o=>o.j=none/\o.σ=S B++(U x++(.cells [.ptr p 0]::.loop .ready none e ps a bb::τ))/\wp T bb o.env (S B++(U x++(.cells [.ptr p 0]::.loop .busy none e ps a bb::τ))) (fun j e'' σ''=>(r.2=true/\j=none/\∃ τ',σ''=S B++(U r.1++(.cells [.ptr p 0]::.loop .busy none e ps a bb::(τ++τ')))) \/
    (r.2=false/\j=some J/\∃ τ',σ''=S B++(UD r.1++(.cells [.ptr p 0]::.loop .busy none e ps a bb::(τ++τ'))))))
  (S:=fun o=>(r.2=true/\o.j=none/\∃ τ',o.σ=S B++(U r.1++(.cells [.ptr p 0]::.loop .busy none e ps a bb::(τ++τ'))))\/(r.2=false/\o.j=some J/\∃ τ',o.σ=S B++(UD r.1++(.cells [.ptr p 0]::.loop .busy none e ps a bb::(τ++τ'))))) (hget _ _ _ _ (hS.len _) (hU _)) (by rw[hps t fl tk]) (fA h fun o ho=>ho) ?_ ?_ ?_
 ·rintro o ⟨hj,hσ,_⟩;exact⟨hj,by rw[hσ];exact hget _ _ _ _ (hS.len _) (hU _)⟩
 ·rintro o ⟨_,hσ,hw⟩;rw[hσ,hset _ _ _ _ _ (hS.len _) (hU _)];exact fA hw fun o ho=>ho
 ·rintro o (⟨hr2,hj,τ',hσ⟩|⟨hr2,hj,τ',hσ⟩)
  ·rw[hσ,hj,hget _ _ _ _ (hS.len _) (hU _),hset _ _ _ _ _ (hS.len _) (hU _)];refine⟨rfl,by rw[hr2];rfl,τ',?_⟩;simp[Fam1.out,hr2]
  ·rw[hσ,hj,hget _ _ _ _ (hS.len _) (hUD _),hset _ _ _ _ _ (hS.len _) (hUD _)];refine⟨rfl,by rw[hr2];rfl,τ',?_⟩;simp[Fam1.out,hr2]
theorem wL{A X:Type}{f:A->X->X×Bool}(h:∀ a x,(f a x).2=true):∀ (l:List A) (x:X),bF f l x=(l.foldl (fun x a=>(f a x).1) x,true)
 |[],x=>rfl
 |a::az,x=>by simp only[bF,h,if_true,List.foldl_cons];exact wL h az _
end Go.Am.Room
namespace Go.Am.Room
def kM(f:Nat->Int)(i:Nat)(v:Int):Nat->Int:=fun j=>if j=i then v else f j
def eU(n:Nat)(f:Nat->Int):List AV:=(List.range n).map fun i=>.int .i64 (f i)
theorem jD(n:Nat)(f:Nat->Int):(eU n f).length=n:=by simp[eU]
theorem i8(n:Nat)(f:Nat->Int){i:Nat}(h:i<n):(eU n f)[i]? = some (.int .i64 (f i)):=by simp[eU,h]
theorem lM{n:Nat}{f g:Nat->Int}(h:∀ i,i<n->f i=g i):eU n f=eU n g:=by
 refine List.map_congr_left fun i hi=>?_
 rw[h i (by simpa using hi)]
theorem qL(n:Nat)(f:Nat->Int)(v:Int){i:Nat}(h:i<n):(eU n f).take i++[AV.int .i64 v]++(eU n f).drop (i+1)=eU n (kM f i v):=by
 have h1:(eU n f).take i++[AV.int .i64 v]++(eU n f).drop (i+1)=(eU n f).set i (.int .i64 v):=by
  rw[List.set_eq_take_append_cons_drop,if_pos (by rw[jD];exact h)];simp
 rw[h1];refine List.ext_getElem? fun j=>?_
 by_cases hj:j<n
 ·rw[i8 n _ hj,List.getElem?_set];by_cases e:i=j
  ·subst e;simp[jD,hj,kM]
  ·rw[if_neg e,i8 n _ hj];simp[kM,show ¬j=i from fun q=>e q.symm]
 ·rw[List.getElem?_eq_none (by rw[List.length_set,jD];omega),List.getElem?_eq_none (by rw[jD];omega)]
theorem j3(n:Nat)(f:Nat->Int):kY (eU n f):=cV (enc:=fun i:Nat=>AV.int .i64 (f i)) (fun i=>aR _ _) (List.range n)
instance (n:Nat) (f:Nat->Int):Dats (eU n f):=⟨j3 n f⟩
theorem iH(n:Nat)(f:Nat->Int)(m:Nat):okVs m (eU n f):=II (j3 n f) m
theorem HB(n:Nat)(f:Nat->Int)(σ:St)(m d:Nat):cB σ m d (eU n f)=some (eU n f):=iG (j3 n f) σ m d
theorem E8(n:Nat)(f:Nat->Int):aY (eU n f)=true:=aJS _ _ fun i=>by simp[AV.cell]
theorem FI(n:Nat)(f:Nat->Int):(eU n f).take n=eU n f:=List.take_of_length_le (by rw[jD];exact Nat.le_refl n)
theorem yP(n:Nat)(f:Nat->Int):(eU n f).drop n=[]:=List.drop_eq_nil_of_le (by rw[jD];exact Nat.le_refl n)
theorem EI(n:Nat):eU n (fun _=>0)=List.replicate n (.int .i64 0):=by simp[eU,List.map_const']
theorem K9(f g:Nat->Int):∀ l:List Nat,bJ (List.replicate l.length .i) (l.map fun i=>.int .i64 (f i)) (l.map fun i=>.int .i64 (g i))=some (l.all fun i=>f i==g i)
 |[]=>rfl
 |x::l=>by
  simp only[List.length_cons,List.replicate_succ,List.map_cons,HD,PI,K9 f g l,HM,List.all_cons]
theorem aFE(n:Nat)(f g:Nat->Int):bJ (List.replicate n .i) (eU n f) (eU n g)=some ((List.range n).all fun i=>f i==g i):=by
 have:=K9 f g (List.range n)
 rwa [List.length_range] at this
theorem PM(n sz:Nat)(sh:Option Nat)(cs:List AV)(k:IntKind)(j:Int):GF n sz sh (.agg cs) (.int k j)=if 0<=j/\j<n then eB sh cs (j.toNat*sz) else none:=by simp only[GF,eZ]
section
variable {K:Type} [DecidableEq K]
def bN(M:List K)(w:K):List K:=if w∈M then M else M++[w]
structure KeyIs (sh:EqTy) (enc val:K->AV):Prop where
 eq:∀ w x,iS sh (enc w) (enc x)=some (decide (w=x))
 dk:∀ w,jU (enc w)
 dv:∀ w,jU (val w)
variable {sh:EqTy} {enc val:K->AV}
def qW(enc val:K->AV)(M:List K):List (AV×AV):=M.map fun w=>(enc w,val w)
theorem PE(h:KeyIs sh enc val)(w:K):∀ M:List K,findKey sh (enc w) (qW enc val M)=some (if w∈M then some (val w) else none)
 |[]=>by simp[qW,findKey]
 |x::M=>by
  have ih:=PE h w M;simp only[qW,List.map_cons,findKey,h.eq] at ih ⊢;by_cases e:w=x
  ·subst e;simp
  ·simp only[e,decide_false,ih,List.mem_cons,false_or]
theorem W8(h:KeyIs sh enc val)(w:K):∀ M:List K,w∉M->oR sh (enc w) (val w) (qW enc val M)=some (qW enc val (M++[w]))
 |[],_=>by simp[qW,oR]
 |x::M,hn=>by
  have ih:=W8 h w M (fun q=>hn (List.mem_cons_of_mem _ q));have hx:w≠x:=fun e=>hn (by rw[e];simp)
  simp only[qW,List.map_cons,oR,h.eq,List.cons_append] at ih ⊢;simp only[hx,decide_false,ih,Option.map_some]
theorem Y4(h:KeyIs sh enc val)(M:List K)(k:Nat):aL k (.map (qW enc val M)):=by
 simp only[aL,qW];intro q hq;obtain⟨w,hw,rfl⟩:=List.mem_map.1 hq;exact⟨GA (h.dk w) k,GA (h.dv w) k⟩
variable {S:List K->St} {obj:List AV} {p m N:Nat}
theorem QY(hk:KeyIs sh enc val)(h:MemAt S obj (qW enc val) p m N)(M:List K)(τ:St)(w:K):vF sh (S M++τ) (.map m) (enc w)=some (if w∈M then some (val w) else none):=by
 simp only[vF,h.map1,PE hk,hk.eq];simp
theorem XC(hk:KeyIs sh enc val)(h:MemAt S obj (qW enc val) p m N)(M:List K)(τ:St)(w:K)(hw:w∉M):A0 sh (S M++τ) (.map m) (enc w) (val w)=some (S (M++[w])++τ):=by
 simp only[A0,hk.eq,h.map1,W8 hk w M hw,Option.map_some,h.mset1];simp
end
end Go.Am.Room
namespace Go.Am.Room.Tu
structure Lot where
 hold:Int
 frm:Int
 green:Span
structure Seen where
 lot:Int
 hour:Int
 turned:Bool
structure Car where
 heat:List Int
 gas:Int
 holds:List Span
 lots:List Lot
 seen:List Seen
def encLot(x:Lot):AV:=.agg [.int .i64 x.hold,.int .i64 x.frm,.int .i64 x.green.lo,.int .i64 x.green.hi]
theorem eD(x:Lot):encLot x = .agg [.int .i64 x.hold,.int .i64 x.frm,.int .i64 x.green.lo,.int .i64 x.green.hi]:=by simp only[encLot]
theorem sU(x:Lot):jU (encLot x):=gE (aD (aR _ _) (aD (aR _ _) (aD (aR _ _) (aD (aR _ _) cL))))
instance (x:Lot):Dat (encLot x):=⟨sU x⟩
def encSeen(x:Seen):AV:=.agg [.int .i64 x.lot,.int .i64 x.hour,.bool x.turned]
theorem encSeen_eq(x:Seen):encSeen x = .agg [.int .i64 x.lot,.int .i64 x.hour,.bool x.turned]:=by simp only[encSeen]
theorem qO(x:Seen):jU (encSeen x):=gE (aD (aR _ _) (aD (aR _ _) (aD (uL _) cL)))
instance (x:Seen):Dat (encSeen x):=⟨qO x⟩
instance (l:List Lot):Dats (l.map encLot):=⟨cV sU l⟩
instance (l:List Seen):Dats (l.map encSeen):=⟨cV qO l⟩
theorem eM(σ:St)(m d:Nat)(l:List Lot):cB σ m d (l.map encLot)=some (l.map encLot):=iG (cV sU l) σ m d
theorem dM(σ:St)(m d:Nat)(l:List Seen):cB σ m d (l.map encSeen)=some (l.map encSeen):=iG (cV qO l) σ m d
theorem dK(σ:St)(m d:Nat)(l:List Span):cB σ m d (l.map eR)=some (l.map eR):=iG (cV uD l) σ m d
def carCells(c:Car):List AV:=[.lit (c.heat.map (.int .i64)) false none,.int .i64 c.gas,.lit (c.holds.map eR) false none,.lit (c.lots.map encLot) false none,.lit (c.seen.map encSeen) false none]
theorem fB(c:Car):carCells c=[.lit (c.heat.map (.int .i64)) false none,.int .i64 c.gas,.lit (c.holds.map eR) false none,.lit (c.lots.map encLot) false none,.lit (c.seen.map encSeen) false none]:=by simp only[carCells]
def encCar(c:Car):AV:=.agg (carCells c)
theorem encCar_eq(c:Car):encCar c = .agg (carCells c):=by simp only[encCar]
theorem data_car(c:Car):jU (encCar c):=gE (aD (iN _) (aD (aR _ _) (aD (dP uD _) (aD (dP sU _) (aD (dP qO _) cL)))))
instance (c:Car):Dat (encCar c):=⟨data_car c⟩
structure Fits (c:Car):Prop where
 heat:c.heat.length<9223372036854775808
 holds:c.holds.length<9223372036854775808
 lots:c.lots.length<9223372036854775808
 seen:c.seen.length<9223372036854775808
def wide(s:Span)(most:Int):Int:=if oT s 0 most=0 then (if 3<s.hi-s.lo then 2 else 0) else oT s 0 most
def gZ(c:Car)(i:Nat):Int:=match c.lots[i]? with|some l=>l.frm|none=>0
def nR(_:Nat)(n:Int):Int:=if inR n 0 3 then 0 else 7
def qG(_:Nat)(s:Span):Int:=wide s 6
def jH(c:Car)(_:Nat)(l:Lot):Int:=if inR l.hold 0 ((c.holds.length:Int)-1)=false then 4 else if inR l.frm 0 c.heat.length=false then 7 else wide l.green 40
def m5(c:Car)(_:Nat)(s:Seen):Int:=if inR s.lot 0 ((c.lots.length:Int)-1)=false then 4 else if inR s.hour (gZ c s.lot.toNat) c.heat.length then 0 else 7
def j8(c:Car):Int×Int×Int:=if 4<c.seen.length then (5,0,3) else match aK (m5 c) c.seen 0 with|some (i,e)=>(5,i,e)|none=>(0,0,0)
def fU(c:Car):Int×Int×Int:=if 4<c.lots.length then (4,0,3) else match aK (jH c) c.lots 0 with|some (i,e)=>(4,i,e)|none=>j8 c
def fQ(c:Car):Int×Int×Int:=if inR c.holds.length 1 3=false then (3,0,3) else match aK qG c.holds 0 with|some (i,e)=>(3,i,e)|none=>fU c
def fV(c:Car):Int×Int×Int:=if inR c.gas 0 3=false then (2,0,7) else fQ c
def check(c:Car):Int×Int×Int:=if 8<c.heat.length then (1,0,3) else match aK nR c.heat 0 with|some (i,e)=>(1,i,e)|none=>fV c
def tE(c:Car)(h:Nat):Int:=(c.heat[h]?).getD 0
def inHold(c:Car)(hd:Int)(i:Nat):Bool:=match c.lots[i]? with|some l=>decide (l.hold=hd)|none=>false
def lotHold(c:Car)(i:Nat):Int:=match c.lots[i]? with|some l=>l.hold|none=>0
def kP(c:Car)(ls:Nat->Bool)(h:Nat)(left:Nat->Int)(i:Nat):Bool:=ls i&&decide (i<c.lots.length)&&decide (gZ c i<=h)&&decide (left i<=0)
def w5(c:Car)(ls:Nat->Bool)(h:Nat)(left:Nat->Int):Int:=if (List.range c.lots.length).any (kP c ls h left) then c.gas else 0
def cC(c:Car)(ls:Nat->Bool)(w:Int)(g:Nat->Int):Nat->Nat->Int
 |0=>g
 |n+1=>fun i=>if gZ c i<=n/\0<cC c ls w g n i then cC c ls w g n i-(tE c n+w+w5 c ls n (cC c ls w g n)) else cC c ls w g n i
def gA(c:Car)(ls:Nat->Bool)(w:Int)(g:Nat->Int)(h i:Nat):Bool:=kP c ls h (cC c ls w g h) i
def never(c:Car):Int:=c.heat.length+1
def bE(c:Car)(ls:Nat->Bool)(w:Int)(g:Nat->Int)(i:Nat):Nat->Int
 |0=>never c
 |n+1=>if gA c ls w g n i=true then min (bE c ls w g i n) n else bE c ls w g i n
def V8(c:Car)(ls:Nat->Bool)(w:Int)(g:Nat->Int)(i:Nat):Int:=bE c ls w g i (c.heat.length+1)
def gF(g:List Int)(i:Nat):Int:=(g[i]?).getD 0
structure Way where
 warm:Int
 greens:List Int
def iU(w:Way):AV:=.agg [.int .i64 w.warm,ints w.greens]
theorem lI(w:Way):iU w = .agg [.int .i64 w.warm,ints w.greens]:=by simp only[iU]
theorem wY(w:Way):jU (iU w):=gE (aD (aR _ _) (aD (iN _) cL))
instance (w:Way):Dat (iU w):=⟨wY w⟩
instance (l:List Way):Dats (l.map iU):=⟨cV wY l⟩
theorem qX(σ:St)(m d:Nat)(l:List Way):cB σ m d (l.map iU)=some (l.map iU):=iG (cV wY l) σ m d
def pZ(l:List Way):AV:=.lit (l.map iU) false none
theorem tZ(l:List Way):pZ l = .lit (l.map iU) false none:=by simp only[pZ]
theorem UJ(l:List Way):jU (pZ l):=dP wY l
instance (l:List Way):Dat (pZ l):=⟨UJ l⟩
def jN(c:Car)(hd:Int)(i:Nat):List Int:=match c.lots[i]? with|some l=>aM l.green.lo (if l.hold=hd then (l.green.hi+1-l.green.lo).toNat else 1)|none=>[]
def cP(c:Car)(hd:Int):Nat->List (List Int)
 |0=>[[]]
 |n+1=>(cP c hd n).flatMap fun p=>(jN c hd n).map fun x=>p++[x]
def jV(c:Car)(hd:Int):List (List Int):=cP c hd c.lots.length
def pC(c:Car)(hd:Nat):List Int:=match c.holds[hd]? with|some s=>aM s.lo (s.hi+1-s.lo).toNat|none=>[]
def fD(c:Car)(hd:Nat):List Way:=(pC c hd).flatMap fun w=>(jV c hd).map fun g=>⟨w,g⟩
def lookOk(c:Car)(hd:Int)(t:Nat->Int)(x:Seen):Bool:=!inHold c hd x.lot.toNat||(decide (t x.lot.toNat<=x.hour)==x.turned)
def tQ(c:Car)(hd:Int)(t:Nat->Int):Bool:=c.seen.all (lookOk c hd t)
def eQ(c:Car)(hd:Int)(w:Way):Nat->Int:=V8 c (inHold c hd) w.warm (gF w.greens)
def dS(c:Car)(hd:Nat):List Way:=(fD c hd).filter fun w=>tQ c hd (eQ c hd w)
def someB(c:Car):Bool:=(List.range c.holds.length).all fun h=>!(dS c h).isEmpty
def errAsk(c:Car)(n:Int):Int:=if (check c).2.2=0 then (if inR n 0 ((c.lots.length:Int)-1) then 0 else 4) else (check c).2.2
def lotErr(c:Car)(n:Int):Int:=if errAsk c n=0 then (if someB c then 0 else 8) else errAsk c n
def hoursAll(c:Car)(i:Nat):List Int:=(dS c (lotHold c i).toNat).map fun w=>eQ c (lotHold c i) w i
def hoursOf(c:Car)(i:Nat):List Int:=(hoursAll c i).filter fun h=>decide (h≠never c)
def turnsOf(c:Car)(n:Int):Span×Int×Int :=
 if lotErr c n=0 then (eE (hoursOf c n.toNat),fG (hoursOf c n.toNat).length (hoursAll c n.toNat).length,0) else (⟨0,0⟩,0,lotErr c n)
def exC(l:List Seen):Car:=⟨[0,0,0,1,0,0],2,[⟨1,2⟩,⟨1,1⟩],[⟨0,0,⟨4,5⟩⟩,⟨0,0,⟨10,10⟩⟩,⟨1,2,⟨6,6⟩⟩],l⟩
theorem x1:turnsOf (exC []) 0=(⟨2,4⟩,1,0):=by decide +kernel
theorem x2:turnsOf (exC []) 1=(⟨4,6⟩,1,0):=by decide +kernel
theorem x3:turnsOf (exC []) 2=(⟨0,0⟩,2,0):=by decide +kernel
theorem x4:turnsOf (exC [⟨0,3,false⟩]) 1=(⟨6,6⟩,1,0):=by decide +kernel
theorem x5:turnsOf (exC [⟨0,4,false⟩]) 0=(⟨0,0⟩,0,8):=by decide +kernel
open Go
variable {P:Program}
structure TysC (P:Program):Prop where
 int:P.underlying 3=some (.int .i64)
 bool:P.underlying 4=some .bool
 u8:P.underlying 5=some (.int .u8)
 span:qC P 24 [3,3]
 ints:P.underlying 30=some (.slice 3)
 holds:P.underlying 22=some (.slice 24)
 lots:P.underlying 92=some (.slice 91)
 seens:P.underlying 93=some (.slice 115)
 lot:qC P 91 [3,3,24]
 seen:qC P 115 [3,3,4]
 car:qC P 95 [30,3,22,92,93]
 a2:P.underlying 102=some (.array 2 5)
theorem aG3{n:Nat}{cs:List AV}(T:TysC P)(h:Typ P (n+2) 24 cs):∃ s:Span,mkV P 24 cs=eR s/\True:=by
 obtain⟨s,e⟩:=PA T.int T.span h;refine⟨s,?_,trivial⟩;rw[(CD T.span h).1,e];rfl
theorem aMD{n:Nat}{cs:List AV}(T:TysC P)(h:Typ P (n+3) 91 cs):∃ s:Lot,mkV P 91 cs=encLot s/\True:=by
 obtain⟨e,a,b,rfl,h1,a2,b2,rfl,h2,a3,b3,rfl,h3,rfl⟩:=CD T.lot h;obtain⟨x,rfl,_⟩:=lZ T.int h1;obtain⟨y,rfl,_⟩:=lZ T.int h2;obtain⟨z,rfl⟩:=PA T.int T.span h3;exact⟨⟨x,y,z⟩,e,trivial⟩
theorem aD4{n:Nat}{cs:List AV}(T:TysC P)(h:Typ P (n+2) 115 cs):∃ s:Seen,mkV P 115 cs=encSeen s/\True:=by
 obtain⟨e,a,b,rfl,h1,c,d,rfl,h2,c2,d2,rfl,h3,rfl⟩:=CD T.seen h;obtain⟨x,rfl,_⟩:=lZ T.int h1;obtain⟨y,rfl,_⟩:=lZ T.int h2;obtain⟨z,rfl⟩:=XD T.bool h3;exact⟨⟨x,y,z⟩,e,trivial⟩
theorem ty_car{n:Nat}{cs:List AV}(T:TysC P)(h:Typ P (n+5) 95 cs):∃ s:Car,mkV P 95 cs=encCar s/\Fits s:=by
 obtain⟨e,a1,b1,rfl,h1,a2,b2,rfl,h2,a3,b3,rfl,h3,a4,b4,rfl,h4,a5,b5,rfl,h5,rfl⟩:=CD T.car h;obtain⟨x1,rfl,⟨l1,_⟩,_⟩:=uO (f:=fun x:Int=>AV.int .i64 x) T.ints h1 fun y hy=>aMV T.int hy
 obtain⟨x2,rfl,_⟩:=lZ T.int h2;obtain⟨x3,rfl,⟨l3,_⟩,_⟩:=uO T.holds h3 fun y hy=>aG3 T hy
 obtain⟨x4,rfl,⟨l4,_⟩,_⟩:=uO T.lots h4 fun y hy=>aMD T hy
 obtain⟨x5,rfl,⟨l5,_⟩,_⟩:=uO T.seens h5 fun y hy=>aD4 T hy
 exact⟨⟨x1,x2,x3,x4,x5⟩,e,⟨l1,l3,l4,l5⟩⟩
theorem ty_a2{n:Nat}{cs:List AV}(T:TysC P)(h:Typ P (n+2) 102 cs):∃ x y:Nat,mkV P 102 cs = .agg [.int .u8 x,.int .u8 y]/\x<256/\y<256:=by
 obtain⟨x,y,e,h1,h2⟩:=aPM T.u8 T.a2 h;obtain⟨a,rfl⟩:∃ a:Nat,x=a:=⟨x.toNat,by omega⟩;obtain⟨b,rfl⟩:∃ b:Nat,y=b:=⟨y.toNat,by omega⟩;exact⟨a,b,e,by omega,by omega⟩
end Go.Am.Room.Tu
namespace Go.Am.Room.Tu
structure Vd (c:Car):Prop where
 nht:c.heat.length<=8
 ht:∀ n∈c.heat,0<=n/\n<=3
 gas:0<=c.gas/\c.gas<=3
 nhd:1<=c.holds.length/\c.holds.length<=3
 hd:∀ s∈c.holds,(0<=s.lo/\s.lo<=s.hi/\s.hi<=6)/\s.hi-s.lo<=3
 nlt:c.lots.length<=4
 lt:∀ l∈c.lots,(0<=l.hold/\l.hold<c.holds.length)/\(0<=l.frm/\l.frm<=c.heat.length)/\(0<=l.green.lo/\l.green.lo<=l.green.hi/\l.green.hi<=40)/\l.green.hi-l.green.lo<=3
 nsn:c.seen.length<=4
 sn:∀ s∈c.seen,(0<=s.lot/\s.lot<c.lots.length)/\gZ c s.lot.toNat<=s.hour/\s.hour<=c.heat.length
theorem FL{s:Span}{m:Int}(h:wide s m=0):(0<=s.lo/\s.lo<=s.hi/\s.hi<=m)/\s.hi-s.lo<=3:=by
 unfold wide at h;split at h
 ·rename_i h1;split at h
  ·omega
  ·exact⟨y0 h1,by omega⟩
 ·rename_i h1;exact absurd h h1
theorem Q1{s:Span}{m:Int}(h:(0<=s.lo/\s.lo<=s.hi/\s.hi<=m)/\s.hi-s.lo<=3):wide s m=0:=by
 unfold wide;rw[if_pos (Q8 h.1),if_neg (by omega)]
theorem vd_of_check{c:Car}(h:(check c).2.2=0):Vd c:=by
 unfold check at h;split at h
 ·simp at h
 rename_i c1;split at h
 ·rename_i i e he;exact absurd h (eG he)
 rename_i f1;unfold fV at h;split at h
 ·simp at h
 rename_i c2;unfold fQ at h;split at h
 ·simp at h
 rename_i c3;split at h
 ·rename_i i e he;exact absurd h (eG he)
 rename_i f3;unfold fU at h;split at h
 ·simp at h
 rename_i c4;split at h
 ·rename_i i e he;exact absurd h (eG he)
 rename_i f4;unfold j8 at h;split at h
 ·simp at h
 rename_i c5;split at h
 ·rename_i i e he;exact absurd h (eG he)
 rename_i f5;rw[Bool.not_eq_false,aZ] at c2 c3;refine⟨by omega,?_,c2,by omega,?_,by omega,?_,by omega,?_⟩
 ·intro x hx;obtain⟨k,hk,rfl⟩:=List.getElem_of_mem hx;have:=gD f1 k hk;unfold nR at this;split at this
  ·rename_i hi;exact aZ.1 hi
  ·omega
 ·intro x hx;obtain⟨k,hk,rfl⟩:=List.getElem_of_mem hx;exact FL (gD f3 k hk)
 ·intro x hx;obtain⟨k,hk,rfl⟩:=List.getElem_of_mem hx;have:=gD f4 k hk;unfold jH at this;split at this
  ·omega
  rename_i hi;split at this
  ·omega
  rename_i hj;rw[Bool.not_eq_false,aZ] at hi hj;exact⟨by omega,hj,FL this⟩
 ·intro x hx;obtain⟨k,hk,rfl⟩:=List.getElem_of_mem hx;have:=gD f5 k hk;unfold m5 at this;split at this
  ·omega
  rename_i hi;split at this
  ·rename_i hj;rw[Bool.not_eq_false,aZ] at hi;rw[aZ] at hj;exact⟨by omega,hj⟩
  ·omega
theorem check_of_vd{c:Car}(h:Vd c):check c=(0,0,0):=by
 have h1:=h.nht;have h2:=h.nhd;have h3:=h.nlt;have h4:=h.nsn;have g1:aK nR c.heat 0=none:=i9 fun n hn k=>by simp[nR,aZ.2 (h.ht n hn)]
 have g3:aK qG c.holds 0=none:=i9 fun s hs k=>Q1 (h.hd s hs)
 have g4:aK (jH c) c.lots 0=none:=i9 fun l hl k=>by
  obtain⟨a1,a2,a3⟩:=h.lt l hl;have b1:inR l.hold 0 ((c.holds.length:Int)-1)=true:=aZ.2 (by omega);simp[jH,b1,aZ.2 a2,Q1 a3]
 have g5:aK (m5 c) c.seen 0=none:=i9 fun s hs k=>by
  obtain⟨a1,a2⟩:=h.sn s hs;have b1:inR s.lot 0 ((c.lots.length:Int)-1)=true:=aZ.2 (by omega);simp[m5,b1,aZ.2 a2]
 have e5:j8 c=(0,0,0):=by rw[j8,if_neg (by omega),g5]
 have e4:fU c=(0,0,0):=by rw[fU,if_neg (by omega),g4];exact e5
 have e3:fQ c=(0,0,0):=by rw[fQ,if_neg (by simp[aZ.2 (show (1:Int)<=c.holds.length/\(c.holds.length:Int)<=3 by omega)]),g3];exact e4
 have e2:fV c=(0,0,0):=by rw[fV,if_neg (by simp[aZ.2 h.gas])];exact e3
 rw[check,if_neg (by omega),g1];exact e2
theorem lot_hold{c:Car}(h:Vd c){i:Nat}(hi:i<c.lots.length):0<=lotHold c i/\lotHold c i<c.holds.length:=by
 have:=h.lt _ (List.getElem_mem hi);simp only[lotHold,List.getElem?_eq_getElem hi];exact this.1
theorem lot_frm{c:Car}(h:Vd c)(i:Nat):0<=gZ c i/\gZ c i<=c.heat.length:=by
 unfold gZ;split
 ·rename_i l hl;exact (h.lt l (List.mem_of_getElem? hl)).2.1
 ·omega
theorem GL{c:Car}(h:Vd c)(n:Nat):0<=tE c n/\tE c n<=3:=by
 unfold tE;cases e:c.heat[n]? with
 |none=>simp
 |some x=>exact h.ht x (List.mem_of_getElem? e)
theorem aJ6{c:Car}(h:Vd c)(ls:Nat->Bool)(n:Nat)(left:Nat->Int):0<=w5 c ls n left/\w5 c ls n left<=3:=by
 have:=h.gas;unfold w5;split<;>omega
theorem GU{c:Car}(h:Vd c)(ls:Nat->Bool){w:Int}(hw:0<=w/\w<=6){g:Nat->Int}(hg:∀ i,0<=g i/\g i<=40)(i:Nat):∀ n,-12<=cC c ls w g n i/\cC c ls w g n i<=40
 |0=>by have:=hg i;simp only[cC];omega
 |n+1=>by
  have:=GU h ls hw hg i n;have:=GL h n;have:=aJ6 h ls n (cC c ls w g n);simp only[cC];split<;>omega
theorem E5{c:Car}{ls:Nat->Bool}{w:Int}{g:Nat->Int}{i n:Nat}(h:cC c ls w g n i<=0):∀ k,cC c ls w g (n+k) i=cC c ls w g n i
 |0=>rfl
 |k+1=>by
  have ih:=E5 h k;rw[<-Nat.add_assoc];simp only[cC];rw[if_neg (by rw[ih];omega),ih]
theorem FN{c:Car}{ls:Nat->Bool}{w:Int}{g:Nat->Int}{i n m:Nat}(h:gA c ls w g n i=true)(hm:n<=m):gA c ls w g m i=true:=by
 obtain⟨k,rfl⟩:∃ k,m=n+k:=⟨m-n,by omega⟩;simp only[gA,kP,Bool.and_eq_true,decide_eq_true_eq] at h ⊢;rw[E5 h.2 k];exact⟨⟨h.1.1,by omega⟩,h.2⟩
theorem time_le(c:Car)(ls:Nat->Bool)(w:Int)(g:Nat->Int)(i:Nat):∀ n,bE c ls w g i n<=never c
 |0=>Int.le_refl _
 |n+1=>by
  have:=time_le c ls w g i n;simp only[bE];split<;>omega
theorem time_nn(c:Car)(ls:Nat->Bool)(w:Int)(g:Nat->Int)(i:Nat):∀ n,0<=bE c ls w g i n
 |0=>by simp only[bE,never];omega
 |n+1=>by
  have:=time_nn c ls w g i n;simp only[bE];split<;>omega
theorem uT(c:Car)(ls:Nat->Bool)(w:Int)(g:Nat->Int)(i:Nat):∀ n,n<=c.heat.length+1->(bE c ls w g i n=never c\/bE c ls w g i n<n)/\∀ m,m<n->(bE c ls w g i n<=m↔gA c ls w g m i=true)
 |0,_=>⟨.inl rfl,fun m hm=>absurd hm (by omega)⟩
 |n+1,hn=>by
  obtain⟨h1,h2⟩:=uT c ls w g i n (by omega);have hnv:never c=c.heat.length+1:=rfl;simp only[bE];by_cases ht:gA c ls w g n i=true
  ·simp only[ht,if_true];refine⟨.inr (by omega),fun m hm=>?_⟩;by_cases e:m=n
   ·subst e;simp only[ht,iff_true];omega
   ·have:=h2 m (by omega);rw[<-this];omega
  ·simp only[ht,Bool.false_eq_true,if_false];have hno:bE c ls w g i n=never c:=by
    rcases h1 with h1|h1
    ·exact h1
    ·exfalso;obtain⟨k,hk⟩:∃ k:Nat,bE c ls w g i n=(k:Int):=⟨(bE c ls w g i n).toNat,by have:=time_nn c ls w g i n;omega⟩;have:=(h2 k (by omega)).1 (by omega);exact ht (FN this (by omega))
   refine⟨.inl hno,fun m hm=>?_⟩;rw[hno,hnv];constructor
   ·intro h;omega
   ·intro h;exact absurd (FN h (by omega)) ht
end Go.Am.Room.Tu
namespace Go.Am.Room.Tu
def aP:=zz @encCar_eq (zz @fB (zz @eD (zz @encSeen_eq (zz @aN (zz @eM (zz @dM (@dK)))))))
theorem H7(s:Span)(m:Int)(hm:0<=m/\m<=1000):cY T 150 [eR s,.int .i64 m] (.int .i64 (wide s m)):=by
 refine aV (af:=aA0) rfl (by simp[aA0]) dd ?_;try simp only[↓QA,QB,seval,aP,aA0]
 (refine aC (aDK s 0 m) rfl dd ?_;try simp only[↓QA,QB,seval,aP])
 cases h1:(oT s 0 m==0)
 ·have h1':oT s 0 m≠0:=by simpa using h1
  have e:wide s m=oT s 0 m:=if_neg h1';rw[e];try simp only[↓QA,QB,seval,aP,h1]
 ·have h1':oT s 0 m=0:=by simpa using h1
  have hz:=y0 h1';have hw:IntKind.i64.wrap (s.hi-s.lo)=s.hi-s.lo:=bZ ⟨by omega,by omega⟩;have e:wide s m=if 3<s.hi-s.lo then 2 else 0:=if_pos h1'
  rw[e];cases h2:decide (3<s.hi-s.lo)
  ·have h2':¬3<s.hi-s.lo:=by simpa using h2
   rw[if_neg h2'];try simp only[↓QA,QB,seval,aP,h1,hw,h2]
   rw[h1']
  ·have h2':3<s.hi-s.lo:=by simpa using h2
   rw[if_pos h2'];try simp only[↓QA,QB,seval,aP,h1,hw,h2]
theorem aE3(c:Car)(hf:Fits c)(x:Lot):cY T 151 [encCar c,encLot x] (.int .i64 (jH c 0 x)):=by
 refine aV (af:=U2) rfl (by simp[U2]) dd ?_;have hfo:=hf.holds;have hw:IntKind.i64.wrap ((c.holds.length:Int)-1)=(c.holds.length:Int)-1:=bZ ⟨by omega,by omega⟩;have he:jH c 0 x=if inR x.hold 0 ((c.holds.length:Int)-1)=false then 4 else if inR x.frm 0 c.heat.length=false then 7 else wide x.green 40:=rfl
 obtain⟨E,hE⟩:∃ E,jH c 0 x=E:=⟨_,rfl⟩;rw[hE] at he ⊢;try simp only[↓QA,QB,seval,aP,U2,hw]
 (refine aC (mX x.hold 0 ((c.holds.length:Int)-1)) rfl dd ?_;try simp only[↓QA,QB,seval,aP])
 cases h1:inR x.hold 0 ((c.holds.length:Int)-1)
 ·rw[h1] at he;try simp only[↓QA,QB,seval,aP]
  rw[he];rfl
 ·rw[h1] at he;try simp only[↓QA,QB,seval,aP]
  (refine aC (mX x.frm 0 c.heat.length) rfl dd ?_;try simp only[↓QA,QB,seval,aP])
  cases h2:inR x.frm 0 c.heat.length
  ·rw[h2] at he;try simp only[↓QA,QB,seval,aP]
   rw[he];rfl
  ·rw[h2] at he;have hr:=H7 x.green 40 (by omega);try simp only[↓QA,QB,seval,aP]
   (refine aC (hr) rfl dd ?_;try simp only[↓QA,QB,seval,aP])
   rw[he];rfl
theorem rW{c:Car}{i:Nat}(hi:i<c.lots.length):gZ c i=c.lots[i].frm:=by simp[gZ,hi]
theorem refcheck_ok(c:Car)(hf:Fits c):cY T 37 [encCar c] (enc3 (check c)):=by
 refine aV (af:=a37) rfl (by simp[a37]) dd ?_;have hfh:=hf.heat
 have hfo:=hf.holds;have hfl:=hf.lots;have hfs:=hf.seen
 (repeat (first|simp only[↓QA,QB,seval,aP,a37]|refine rd0 rfl ?_))
 cases h1:decide ((8:Int)<(c.heat.length:Int))
 case' true =>
  have h1':8<c.heat.length:=by have:=of_decide_eq_true h1;omega
  (repeat (first|simp only[↓QA,QB,seval,aP,h1]|refine rd0 rfl ?_))
  simp[check,h1',enc3]
 have h1':¬8<c.heat.length:=by have:=of_decide_eq_false h1;omega
 have hc:check c=match aK nR c.heat 0 with|some (i,e)=>(1,(i:Int),e)|none=>fV c:=by simp only[check,h1',if_false]<;>rfl
 rw[hc]
 (repeat (first|simp only[↓QA,QB,seval,aP,h1]|refine rd0 rfl ?_))
 refine cI (S:=Nat) 0 (fun k=>k<=c.heat.length/\aK nR (c.heat.drop k) k=aK nR c.heat 0) (fun k=>c.heat.length-k)
  (fun k=>[(1,.ptr 0 0),(5,.int .i64 k)]) (fun _=>[.cells (carCells c)]) ⟨Nat.zero_le _,by simp⟩ (by simp[carCells,ints]) ?_ fun k hk=>?_
 ·try simp only[aB,QE,seval,aP]
  try simp
 obtain⟨hk,hb⟩:=hk
 (repeat (first|simp only[↓QA,QB,seval,aP,aH2]|refine rd0 rfl ?_))
 refine aE (fun hd=>?_) fun hd=>?_
 ·have hk1:k<c.heat.length:=by simpa using hd
  rw[dU hk1] at hb;have hw:=bR hk1 hfh;have hde:nR k c.heat[k]=if inR c.heat[k] 0 3=true then 0 else 7:=rfl
  rw[hde] at hb
  (repeat (first|simp only[↓QA,QB,seval,aP,hk1]|refine rd0 rfl ?_))
  ((first|refine aC (mX c.heat[k] 0 3) rfl dd ?_|refine aJ (mX c.heat[k] 0 3) rfl dd ?_);(repeat (first|simp only[↓QA,QB,seval,aP,hk1]|refine rd0 rfl ?_)))
  cases hi:inR c.heat[k] 0 3
  ·rw[hi] at hb;rw[<-hb]
   (repeat (first|simp only[↓QA,QB,seval,aP,hk1]|refine rd0 rfl ?_))
   rfl
  ·rw[hi] at hb
   (repeat (first|simp only[↓QA,QB,seval,aP,hk1,hw]|refine rd0 rfl ?_))
   refine⟨k+1,⟨by omega,by rw[<-hb];rfl⟩,by omega,?_⟩;try simp only[aB,QE,seval,aP,hw]
   try simp
 have hk1:k=c.heat.length:=by simp at hd;omega
 rw[eO hk1] at hb;rw[<-hb]
 (repeat (first|simp only[↓QA,QB,seval,aP]|refine rd0 rfl ?_))
 ((first|refine aC (mX c.gas 0 3) rfl dd ?_|refine aJ (mX c.gas 0 3) rfl dd ?_);(repeat (first|simp only[↓QA,QB,seval,aP]|refine rd0 rfl ?_)))
 cases h2:inR c.gas 0 3
 ·(repeat (first|simp only[↓QA,QB,seval,aP]|refine rd0 rfl ?_))
  simp[fV,h2,enc3]
 have hc:fV c=fQ c:=by simp[fV,h2]
 rw[hc]
 (repeat (first|simp only[↓QA,QB,seval,aP]|refine rd0 rfl ?_))
 ((first|refine aC (mX c.holds.length 1 3) rfl dd ?_|refine aJ (mX c.holds.length 1 3) rfl dd ?_);(repeat (first|simp only[↓QA,QB,seval,aP]|refine rd0 rfl ?_)))
 cases h3:inR c.holds.length 1 3
 ·(repeat (first|simp only[↓QA,QB,seval,aP]|refine rd0 rfl ?_))
  simp[fQ,h3,enc3]
 have hc:fQ c=match aK qG c.holds 0 with|some (i,e)=>(3,(i:Int),e)|none=>fU c:=by simp only[fQ,h3,Bool.true_eq_false,if_false]<;>rfl
 rw[hc]
 (repeat (first|simp only[↓QA,QB,seval,aP]|refine rd0 rfl ?_))
 refine cI (S:=Nat) 0 (fun k=>k<=c.holds.length/\aK qG (c.holds.drop k) k=aK qG c.holds 0) (fun k=>c.holds.length-k)
  (fun k=>[(1,.ptr 0 0),(6,.int .i64 k)]) (fun _=>[.cells (carCells c)]) ⟨Nat.zero_le _,by simp⟩ (by simp[carCells,ints]) ?_ fun j hj=>?_
 ·try simp only[aB,QE,seval,aP]
  try simp
 obtain⟨hj,hbj⟩:=hj
 (repeat (first|simp only[↓QA,QB,seval,aP,aIF]|refine rd0 rfl ?_))
 refine aE (fun hd2=>?_) fun hd2=>?_
 ·have hj1:j<c.holds.length:=by simpa using hd2
  rw[dU hj1] at hbj;have hw:=bR hj1 hfo;have hde:qG j c.holds[j]=wide c.holds[j] 6:=rfl;rw[hde] at hbj;have hr:=H7 c.holds[j] 6 (by omega)
  (repeat (first|simp only[↓QA,QB,seval,aP,hj1]|refine rd0 rfl ?_))
  ((first|refine aC (hr) rfl dd ?_|refine aJ (hr) rfl dd ?_);(repeat (first|simp only[↓QA,QB,seval,aP,hj1]|refine rd0 rfl ?_)))
  cases hi:(wide c.holds[j] 6==0)
  ·have hi':wide c.holds[j] 6≠0:=by simpa using hi
   rw[if_neg hi'] at hbj;rw[<-hbj]
   (repeat (first|simp only[↓QA,QB,seval,aP,hj1,hi]|refine rd0 rfl ?_))
   rfl
  ·have hi':wide c.holds[j] 6=0:=by simpa using hi
   rw[if_pos hi'] at hbj
   (repeat (first|simp only[↓QA,QB,seval,aP,hj1,hw,hi]|refine rd0 rfl ?_))
   refine⟨j+1,⟨by omega,hbj⟩,by omega,?_⟩;try simp only[aB,QE,seval,aP,hw]
   try simp
 have hj1:j=c.holds.length:=by simp at hd2;omega
 rw[eO hj1] at hbj;rw[<-hbj]
 (repeat (first|simp only[↓QA,QB,seval,aP]|refine rd0 rfl ?_))
 cases h4:decide ((4:Int)<(c.lots.length:Int))
 case' true =>
  have h4':4<c.lots.length:=by have:=of_decide_eq_true h4;omega
  (repeat (first|simp only[↓QA,QB,seval,aP,h4]|refine rd0 rfl ?_))
  simp[fU,h4',enc3]
 have h4':¬4<c.lots.length:=by have:=of_decide_eq_false h4;omega
 have hc:fU c=match aK (jH c) c.lots 0 with|some (i,e)=>(4,(i:Int),e)|none=>j8 c:=by simp only[fU,h4',if_false]<;>rfl
 rw[hc]
 (repeat (first|simp only[↓QA,QB,seval,aP,h4]|refine rd0 rfl ?_))
 refine cI (S:=Nat) 0 (fun k=>k<=c.lots.length/\aK (jH c) (c.lots.drop k) k=aK (jH c) c.lots 0) (fun k=>c.lots.length-k)
  (fun k=>[(1,.ptr 0 0),(8,.int .i64 k)]) (fun _=>[.cells (carCells c)]) ⟨Nat.zero_le _,by simp⟩ (by simp[carCells,ints]) ?_ fun m hm=>?_
 ·try simp only[aB,QE,seval,aP]
  try simp
 obtain⟨hm,hbm⟩:=hm
 (repeat (first|simp only[↓QA,QB,seval,aP,aID]|refine rd0 rfl ?_))
 refine aE (fun hd3=>?_) fun hd3=>?_
 ·have hm1:m<c.lots.length:=by simpa using hd3
  rw[dU hm1] at hbm;have hw:=bR hm1 hfl;have hde:jH c m c.lots[m]=jH c 0 c.lots[m]:=rfl;rw[hde] at hbm;have hr:=aE3 c hf c.lots[m]
  (repeat (first|simp only[↓QA,QB,seval,aP,hm1]|refine rd0 rfl ?_))
  ((first|refine aC (hr) rfl dd ?_|refine aJ (hr) rfl dd ?_);(repeat (first|simp only[↓QA,QB,seval,aP,hm1]|refine rd0 rfl ?_)))
  cases hi:(jH c 0 c.lots[m]==0)
  ·have hi':jH c 0 c.lots[m]≠0:=by simpa using hi
   rw[if_neg hi'] at hbm;rw[<-hbm]
   (repeat (first|simp only[↓QA,QB,seval,aP,hm1,hi]|refine rd0 rfl ?_))
   rfl
  ·have hi':jH c 0 c.lots[m]=0:=by simpa using hi
   rw[if_pos hi'] at hbm
   (repeat (first|simp only[↓QA,QB,seval,aP,hm1,hw,hi]|refine rd0 rfl ?_))
   refine⟨m+1,⟨by omega,hbm⟩,by omega,?_⟩;try simp only[aB,QE,seval,aP,hw]
   try simp
 have hm1:m=c.lots.length:=by simp at hd3;omega
 rw[eO hm1] at hbm;rw[<-hbm]
 (repeat (first|simp only[↓QA,QB,seval,aP]|refine rd0 rfl ?_))
 cases h5:decide ((4:Int)<(c.seen.length:Int))
 case' true =>
  have h5':4<c.seen.length:=by have:=of_decide_eq_true h5;omega
  (repeat (first|simp only[↓QA,QB,seval,aP,h5]|refine rd0 rfl ?_))
  simp[j8,h5',enc3]
 have h5':¬4<c.seen.length:=by have:=of_decide_eq_false h5;omega
 have hc:j8 c=match aK (m5 c) c.seen 0 with|some (i,e)=>(5,(i:Int),e)|none=>(0,0,0):=by simp only[j8,h5',if_false]<;>rfl
 rw[hc]
 (repeat (first|simp only[↓QA,QB,seval,aP,h5]|refine rd0 rfl ?_))
 have hwl:IntKind.i64.wrap ((c.lots.length:Int)-1)=(c.lots.length:Int)-1:=bZ ⟨by omega,by omega⟩;refine cI (S:=Nat) 0 (fun k=>k<=c.seen.length/\aK (m5 c) (c.seen.drop k) k=aK (m5 c) c.seen 0) (fun k=>c.seen.length-k)
  (fun k=>[(1,.ptr 0 0),(10,.int .i64 k)]) (fun _=>[.cells (carCells c)]) ⟨Nat.zero_le _,by simp⟩ (by simp[carCells,ints]) ?_ fun n hn=>?_
 ·try simp only[aB,QE,seval,aP]
  try simp
 obtain⟨hn,hbn⟩:=hn
 (repeat (first|simp only[↓QA,QB,seval,aP,aIW]|refine rd0 rfl ?_))
 refine aE (fun hd4=>?_) fun hd4=>?_
 ·have hn1:n<c.seen.length:=by simpa using hd4
  rw[dU hn1] at hbn;have hw:=bR hn1 hfs;obtain⟨y,hy⟩:∃ y,c.seen[n]=y:=⟨_,rfl⟩;have hde:m5 c n y=if inR y.lot 0 ((c.lots.length:Int)-1)=false then 4 else if inR y.hour (gZ c y.lot.toNat) c.heat.length=true then 0 else 7:=rfl
  rw[hy,hde] at hbn
  (repeat (first|simp only[↓QA,QB,seval,aP,hn1,hy,hwl]|refine rd0 rfl ?_))
  ((first|refine aC (mX y.lot 0 ((c.lots.length:Int)-1)) rfl dd ?_|refine aJ (mX y.lot 0 ((c.lots.length:Int)-1)) rfl dd ?_);(repeat (first|simp only[↓QA,QB,seval,aP]|refine rd0 rfl ?_)))
  cases hi:inR y.lot 0 ((c.lots.length:Int)-1)
  ·rw[hi] at hbn;rw[<-hbn]
   (repeat (first|simp only[↓QA,QB,seval,aP]|refine rd0 rfl ?_))
   rfl
  ·rw[hi] at hbn;have hi':=aZ.1 hi;obtain⟨q,hq⟩:∃ q:Nat,y.lot=(q:Int):=⟨y.lot.toNat,by omega⟩;have hq1:q<c.lots.length:=by omega
   have hqt:y.lot.toNat=q:=by omega
   have hfa:=rW hq1;obtain⟨F,hF⟩:∃ F,gZ c q=F:=⟨_,rfl⟩;rw[hqt,hF] at hbn;rw[hF] at hfa
   (repeat (first|simp only[↓QA,QB,seval,aP,hq,hq1,<-hfa]|refine rd0 rfl ?_))
   ((first|refine aC (mX y.hour F c.heat.length) rfl dd ?_|refine aJ (mX y.hour F c.heat.length) rfl dd ?_);(repeat (first|simp only[↓QA,QB,seval,aP,hq,hq1,<-hfa]|refine rd0 rfl ?_)))
   cases hi2:inR y.hour F c.heat.length
   ·rw[hi2] at hbn;rw[<-hbn]
    (repeat (first|simp only[↓QA,QB,seval,aP,hq,hq1,<-hfa]|refine rd0 rfl ?_))
    rfl
   ·rw[hi2] at hbn
    (repeat (first|simp only[↓QA,QB,seval,aP,hq,hq1,<-hfa,hw]|refine rd0 rfl ?_))
    refine⟨n+1,⟨by omega,by rw[<-hbn];rfl⟩,by omega,?_⟩;try simp only[aB,QE,seval,aP,hw]
    try simp
 have hn1:n=c.seen.length:=by simp at hd4;omega
 rw[eO hn1] at hbn;rw[<-hbn]
 (repeat (first|simp only[↓QA,QB,seval,aP]|refine rd0 rfl ?_))
 rfl
def kW(c:Car)(hd:Int)(k:Nat):List Nat:=(List.range k).filter (inHold c hd)
def bA(c:Car)(hd:Int):List Nat:=kW c hd c.lots.length
def kN(l:List Nat):List Int:=l.map fun (n:Nat)=>((n:Nat):Int)
theorem CK(l:List Nat):(kN l).length=l.length:=by simp[kN]
theorem aCA{l:List Nat}{k:Nat}(h:k<l.length):(kN l)[k]'(by rw[CK];exact h)=(l[k]:Int):=by simp[kN]
theorem IG{c:Car}{hd:Int}{k:Nat}:kW c hd (k+1)=kW c hd k++(if inHold c hd k=true then [k] else []):=by
 simp only[kW,List.range_succ,List.filter_append,List.filter_cons,List.filter_nil]
theorem vV(c:Car)(hd:Int)(k:Nat):(kW c hd k).length<=k:=by
 have:=List.length_filter_le (inHold c hd) (List.range k)
 rwa [List.length_range] at this
theorem tU{c:Car}{hd:Int}{i:Nat}:i∈bA c hd↔i<c.lots.length/\inHold c hd i=true:=by simp[bA,kW]
theorem NQ(c:Car)(hd:Int):(bA c hd).Nodup:=List.nodup_range.filter _
theorem kO{c:Car}{hd:Int}{k:Nat}(h:k<(bA c hd).length):(bA c hd)[k]<c.lots.length/\inHold c hd (bA c hd)[k]=true:=tU.1 (List.getElem_mem h)
theorem wR{c:Car}{hd:Int}{k:Nat}(h:k<(bA c hd).length):(bA c hd)[k]∉(bA c hd).take k:=by
 intro hm;obtain⟨j,hj,he⟩:=List.mem_take_iff_getElem.1 hm;have:=(List.getElem_inj (NQ c hd)).1 he;omega
theorem xR{l:List Nat}{k i:Nat}(h:k<l.length):i∈l.take (k+1)↔i∈l.take k\/i=l[k]:=by
 rw[List.take_succ_eq_append_getElem h,List.mem_append,List.mem_singleton]
section
variable {c:Car} {hd w:Int} {g:Nat->Int}
def m4(c:Car)(hd w:Int)(g:Nat->Int)(h i:Nat):Int:=if inHold c hd i=true then cC c (inHold c hd) w g h i else g i
def tG(c:Car)(hd w:Int)(g:Nat->Int)(h k i:Nat):Int:=if i∈(bA c hd).take k then bE c (inHold c hd) w g i (h+1) else bE c (inHold c hd) w g i h
def pQ(c:Car)(hd w:Int)(g:Nat->Int)(h k i:Nat):Int:=if i∈(bA c hd).take k then m4 c hd w g (h+1) i else m4 c hd w g h i
theorem UL:m4 c hd w g 0=g:=by funext i;simp[m4,cC]
theorem aCU(h:Nat):tG c hd w g h 0=fun i=>bE c (inHold c hd) w g i h:=by funext i;simp[tG]
theorem R9(h:Nat):pQ c hd w g h 0=m4 c hd w g h:=by funext i;simp[pQ]
theorem aMC{h k:Nat}(hk:k<(bA c hd).length):tG c hd w g h k (bA c hd)[k]=bE c (inHold c hd) w g (bA c hd)[k] h:=by simp[tG,wR hk]
theorem aC4{h k:Nat}(hk:k<(bA c hd).length):pQ c hd w g h k (bA c hd)[k]=cC c (inHold c hd) w g h (bA c hd)[k]:=by simp[pQ,wR hk,m4,(kO hk).2]
theorem CO{h k:Nat}(hk:k<(bA c hd).length):m4 c hd w g h (bA c hd)[k]=cC c (inHold c hd) w g h (bA c hd)[k]:=by simp[m4,(kO hk).2]
theorem turn_iff{h l:Nat}(hl:l<c.lots.length)(hh:inHold c hd l=true):gA c (inHold c hd) w g h l=true↔gZ c l<=h/\cC c (inHold c hd) w g h l<=0:=by
 simp[gA,kP,hl,hh]
theorem aHA{h k:Nat}(hk:k<(bA c hd).length)(hh:h<=c.heat.length)(h1:bE c (inHold c hd) w g (bA c hd)[k] h=never c)(h2:gZ c (bA c hd)[k]<=h)(h3:cC c (inHold c hd) w g h (bA c hd)[k]<=0):
  kM (tG c hd w g h k) (bA c hd)[k] h=tG c hd w g h (k+1):=by
 have ht:=(turn_iff (w:=w) (g:=g) (h:=h) (kO hk).1 (kO hk).2).2 ⟨h2,h3⟩;have hnv:never c=c.heat.length+1:=rfl;funext i;simp only[kM,tG,xR hk];by_cases e:i=(bA c hd)[k]
 ·subst e;simp only[if_true,or_true,bE,ht,h1];omega
 ·simp only[e,if_false,or_false]
theorem YG{h k:Nat}(hk:k<(bA c hd).length)(hh:h<=c.heat.length)(h1:bE c (inHold c hd) w g (bA c hd)[k] h≠never c\/h<gZ c (bA c hd)[k]\/0<cC c (inHold c hd) w g h (bA c hd)[k]):
  tG c hd w g h k=tG c hd w g h (k+1):=by
 have ht:=turn_iff (w:=w) (g:=g) (h:=h) (kO hk).1 (kO hk).2;have hq:=(uT c (inHold c hd) w g (bA c hd)[k] h (by omega)).1;funext i;simp only[tG,xR hk];by_cases e:i=(bA c hd)[k]
 ·subst e;simp only[wR hk,or_true,if_true,if_false,bE];split
  ·rename_i h4;rcases h1 with h1|h1|h1
   ·rcases hq with hq|hq
    ·exact absurd hq h1
    ·omega
   ·have:=ht.1 h4;omega
   ·have:=ht.1 h4;omega
  ·rfl
 ·simp only[e,or_false]
theorem aFA{h:Nat}:tG c hd w g h (bA c hd).length=fun i=>bE c (inHold c hd) w g i (h+1):=by
 funext i;simp only[tG,List.take_length];split
 ·rfl
 ·rename_i h1;rw[tU] at h1;simp only[bE];rw[if_neg];intro h2;simp only[gA,kP,Bool.and_eq_true,decide_eq_true_eq] at h2;exact h1 ⟨h2.1.1.2,h2.1.1.1⟩
theorem T7{h k:Nat}(hk:k<(bA c hd).length)(hh:h<=c.heat.length)(h1:bE c (inHold c hd) w g (bA c hd)[k] (h+1)≠never c\/h<gZ c (bA c hd)[k]):
  pQ c hd w g h k=pQ c hd w g h (k+1):=by
 have ht:=turn_iff (w:=w) (g:=g) (h:=h) (kO hk).1 (kO hk).2;obtain⟨hq,hq2⟩:=uT c (inHold c hd) w g (bA c hd)[k] (h+1) (by omega);have hq2:=hq2 h (by omega);funext i;simp only[pQ,xR hk];by_cases e:i=(bA c hd)[k]
 ·subst e;simp only[wR hk,or_true,if_true,if_false,CO hk,cC];rw[if_neg];rintro⟨a,b⟩;rcases h1 with h1|h1
  ·rcases hq with hq|hq
   ·exact h1 hq
   ·have:=ht.1 (hq2.1 (by omega));omega
  ·omega
 ·simp only[e,or_false]
def sI(c:Car)(hd w:Int)(g:Nat->Int)(h m:Nat):Bool:=((bA c hd).take m).any fun l=>decide (bE c (inHold c hd) w g l (h+1)<=h)
theorem U4(h:Nat):sI c hd w g h 0=false:=by simp[sI]
theorem VZ{h m:Nat}(hm:m<(bA c hd).length):sI c hd w g h (m+1)=(sI c hd w g h m||decide (bE c (inHold c hd) w g (bA c hd)[m] (h+1)<=h)):=by
 rw[sI,List.take_succ_eq_append_getElem hm,List.any_append];simp only[List.any_cons,List.any_nil,Bool.or_false];rfl
theorem aG5{h:Nat}(hh:h<=c.heat.length):w5 c (inHold c hd) h (cC c (inHold c hd) w g h)=if sI c hd w g h (bA c hd).length=true then c.gas else 0:=by
 have key:(List.range c.lots.length).any (kP c (inHold c hd) h (cC c (inHold c hd) w g h))=sI c hd w g h (bA c hd).length:=by
  simp only[sI,List.take_length];rw[Bool.eq_iff_iff,List.any_eq_true,List.any_eq_true];constructor
  ·rintro⟨i,hi,ht⟩;have hi2:i<c.lots.length:=by simpa using hi
   have hin:inHold c hd i=true:=by
    simp only[kP,Bool.and_eq_true] at ht;exact ht.1.1.1
   refine⟨i,tU.2 ⟨hi2,hin⟩,?_⟩;have:=((uT c (inHold c hd) w g i (h+1) (by omega)).2 h (by omega)).2 ht;simpa using this
  ·rintro⟨i,hi,ht⟩;obtain⟨hi2,hin⟩:=tU.1 hi;refine⟨i,by simpa using hi2,?_⟩;exact ((uT c (inHold c hd) w g i (h+1) (by omega)).2 h (by omega)).1 (by simpa using ht)
 simp only[w5,key]
theorem V4{h k:Nat}(hk:k<(bA c hd).length)(hh:h<=c.heat.length)(h1:bE c (inHold c hd) w g (bA c hd)[k] (h+1)=never c)(h2:gZ c (bA c hd)[k]<=h){v:Int}(hv:v=cC c (inHold c hd) w g h (bA c hd)[k]-tE c h-w-(if sI c hd w g h (bA c hd).length=true then c.gas else 0)):kM (pQ c hd w g h k) (bA c hd)[k] v=pQ c hd w g h (k+1):=by
 have ht:=turn_iff (w:=w) (g:=g) (h:=h) (kO hk).1 (kO hk).2;have hq2:=(uT c (inHold c hd) w g (bA c hd)[k] (h+1) (by omega)).2 h (by omega);have hnv:never c=c.heat.length+1:=rfl;have hpos:0<cC c (inHold c hd) w g h (bA c hd)[k]:=by
  by_cases h3:cC c (inHold c hd) w g h (bA c hd)[k]<=0
  ·have:=hq2.2 (ht.2 ⟨h2,h3⟩);omega
  ·omega
 funext i;simp only[kM,pQ,xR hk];by_cases e:i=(bA c hd)[k]
 ·subst e;simp only[if_true,or_true,CO hk,cC];rw[if_pos ⟨h2,hpos⟩,aG5 hh,hv];omega
 ·simp only[e,if_false,or_false]
theorem aG9{h:Nat}:eU c.lots.length (pQ c hd w g h (bA c hd).length)=eU c.lots.length (m4 c hd w g (h+1)):=lM fun i hi=>by
 simp only[pQ,List.take_length];split
 ·rfl
 ·rename_i h1;rw[tU] at h1;have:¬inHold c hd i=true:=fun q=>h1 ⟨hi,q⟩
  simp[m4,this]
theorem aGZ(f:Nat->Int)(i:Nat)(a b:Int):kM (kM f i a) i b=kM f i b:=by
 funext j;simp only[kM];split<;>rfl
end
end Go.Am.Room.Tu
namespace Go.Am.Room.Tu
def mB:=zz @encCar_eq (zz @fB (zz @eD (zz @encSeen_eq (zz @aN (zz @lI (zz @eM (zz @dM (zz @dK (zz @dR (zz @List.length_append.{0} (zz @Nat.mul_one (zz @Int.toNat_natCast (zz @jD (@HB))))))))))))))
theorem T5(c:Car)(hv:Vd c):cY T 409 [encCar c] (.int .i64 (never c)):=by
 refine aV (af:=WA) rfl (by simp[WA]) dd ?_;have h:=hv.nht;have hw:IntKind.i64.wrap ((c.heat.length:Int)+1)=(c.heat.length:Int)+1:=bZ ⟨by omega,by omega⟩;try simp only[↓QA,QB,seval,mB,WA,hw]
 rfl
theorem wW{c:Car}{i:Nat}(hi:i<c.lots.length)(hd:Int):inHold c hd i=decide (c.lots[i].hold=hd):=by simp[inHold,hi]
theorem aKM(c:Car)(hv:Vd c)(hd:Int):cY T 292 [encCar c,.int .i64 hd,ints []] (ints (kN (bA c hd))):=by
 refine aV (af:=WV) rfl (by simp[WV]) dd ?_;have hnl:=hv.nlt;obtain⟨R,hR⟩:∃ R,ints (kN (bA c hd))=R:=⟨_,rfl⟩;rw[hR];try simp only[↓QA,QB,seval,mB,WV]
 refine vM 7 1 [] rfl ?_;refine cI (S:=Nat×Bool) (0,false) (fun a=>a.1<=c.lots.length) (fun a=>c.lots.length-a.1)
  (fun a=>[(1,.int .i64 hd),(2,ints []),(3,.ptr 0 0),(7,.lit ((kN (kW c hd a.1)).map (.int .i64)) false (some 1)),(8,.int .i64 a.1)])
  (fun a=>[.cells (carCells c),.tok 1 (kN (kW c hd a.1)).length a.2]) (Nat.zero_le _) (by simp[carCells,ints,kN,kW]) ?_ fun a ha=>?_
 ·try simp only[aB,QE,seval,mB]
  try simp[kN,kW]
 ·obtain⟨k,ex⟩:=a;simp only at ha;try simp only[↓QA,QB,seval,mB,VB]
  refine aE (fun h=>?_) fun h=>?_
  ·have hk1:k<c.lots.length:=by simpa using h
   have hw:=bR hk1 (by omega);have hat:=wW hk1 hd;obtain⟨x,hx⟩:∃ x,c.lots[k]=x:=⟨_,rfl⟩;have hsu:=IG (c:=c) (hd:=hd) (k:=k);have hll:=vV c hd k;rw[hx] at hat
   obtain⟨Z,hZ⟩:∃ Z,kW c hd k=Z:=⟨_,rfl⟩;rw[hZ] at hsu hll;simp only[hZ];have hzl:=CK Z;cases h1:(x.hold==hd)
   ·have h1':¬x.hold=hd:=by simpa using h1
    rw[hat] at hsu;simp only[h1',decide_false,Bool.false_eq_true,if_false,List.append_nil] at hsu;try simp only[↓QA,QB,seval,mB,hk1,hx,h1]
    refine⟨(k+1,ex),by simp only;omega,by simp only;omega,?_⟩;simp only[hsu];try simp only[aB,QE,seval,mB,hw]
    try simp[aL,okVs,okV]
   ·have h1':x.hold=hd:=by simpa using h1
    rw[hat] at hsu;simp only[h1',decide_true,if_true] at hsu;have hh:=WH [] (k:Int) (by simp);have hap:=fun (b:ABlk)=>zW (σ:=[b,.tok 1 (kN Z).length ex]) (l:=kN Z) (a:=(k:Int)) (ex:=ex) (t:=1) (by rw[hzl];omega) rfl
    have hs2:kN (kW c hd (k+1))=kN Z++[(k:Int)]:=by rw[hsu];simp[kN]
    have hc0:([]:List Int).contains (k:Int)=false:=by simp
    try simp only[↓QA,QB,seval,mB,hk1,hx,h1]
    refine aC hh rfl dd ?_;try simp only[↓QA,QB,seval,mB,hc0,hap]
    refine⟨(k+1,true),by simp only;omega,by simp only;omega,?_⟩;simp only[hs2];try simp only[aB,QE,seval,mB,hw]
    try simp[aL,okVs,okV]
  ·have hk1:k=c.lots.length:=by simp at h;omega
   have hRe:R=ints (kN (kW c hd k)):=by rw[<-hR,hk1];rfl
   rw[hRe];try simp only[↓QA,QB,seval,mB]
theorem PG{c:Car}{h:Nat}(hh:h<c.heat.length):tE c h=c.heat[h]:=by simp[tE,hh]
structure WayOk (c:Car) (w:Way):Prop where
 warm:0<=w.warm/\w.warm<=6
 len:w.greens.length=c.lots.length
 green:∀ x∈w.greens,0<=x/\x<=40
theorem aHH{l:List Int}(h:∀ x∈l,0<=x/\x<=40)(i:Nat):0<=gF l i/\gF l i<=40:=by
 unfold gF;cases e:l[i]? with
 |none=>simp
 |some x=>exact h x (List.mem_of_getElem? e)
theorem aKQ{l:List Int}{n:Nat}(h:l.length=n):eU n (gF l)=l.map (.int .i64):=by
 refine List.ext_getElem? fun j=>?_
 by_cases hj:j<n
 ·rw[i8 n _ hj];have:j<l.length:=by omega
  simp[gF,this]
 ·rw[List.getElem?_eq_none (by rw[jD];omega),List.getElem?_eq_none (by simp;omega)]
end Go.Am.Room.Tu
namespace Go.Am.Room.Tu
def aW:=zz @encCar_eq (zz @fB (zz @eD (zz @encSeen_eq (zz @aN (zz @lI (zz @eM (zz @dM (zz @dK (zz @dR (zz @List.length_append.{0} (zz @Nat.mul_one (zz @Int.toNat_natCast (zz @jD (@HB))))))))))))))
theorem MW{σ:St}{l:List Int}{n:Nat}(h:l.length=n)(h0:0<n)(h1:n<=100):nB 1 8 σ (.lit [] true none) (.lit (l.map (.int .i64)) false none)=some (.ref σ.length 0 n 1,σ++[.cells (eU n (gF l))]):=by
 rw[aKQ h];have h2:l.length≠0:=by omega
 have h3:=kX l;simp only[nB,kS,List.length_map,h2,if_false,List.length_nil,Nat.zero_add,List.nil_append,MO];simp[sC,h3,room,h];omega
theorem FC:∀ l:List Int,pP 1 l.length (l.map (AV.int .i64))=l.map (.int .i64)
 |[]=>rfl
 |x::l=>by simp[pP,FC l,AV.cell]
theorem aK8{σ:St}{m id n:Nat}{l:List Int}(hm:¬id<m)(hn:n=l.length)(hl:aO σ id=some (l.map (.int .i64))):bW σ m 20 (.ref id 0 n 1)=some (.lit (l.map (.int .i64)) false none):=by
 subst hn;have hv:kS σ (.ref id 0 l.length 1)=some (l.map (.int .i64)):=by simp[kS,hl,FC]
 rw[aRJ,if_neg hm,hv];simp[kX,CE]
def jS(c:Car)(hd:Int)(w:Way):List Int:=(List.range c.lots.length).map (eQ c hd w)
theorem D9(c:Car)(hd:Int)(w:Way):(jS c hd w).map (AV.int .i64)=eU c.lots.length (eQ c hd w):=by simp[jS,eU]
set_option maxHeartbeats 4000000 in
theorem RN (c:Car) (hv:Vd c) (hd:Int) (w:Way) (hL:0<c.lots.length) (hw:WayOk c w):cY T 291 [encCar c,ints (kN (bA c hd)),iU w] (ints (jS c hd w)):=by
  refine aV (af:=WZ) rfl (by simp [WZ]) dd ?_
  have hnl:=hv.nlt
  have hnh:=hv.nht
  have hwm:=hw.warm
  have hgl:=hw.len
  have hll:=vV c hd c.lots.length
  obtain ⟨R,hR⟩:∃ R,ints (jS c hd w)=R:=⟨_,rfl⟩
  rw [hR]
  have hRe:R = .lit (eU c.lots.length (eQ c hd w)) false none:=by rw [←hR,←D9];rfl
  have hgb:=aHH hw.green
  obtain ⟨G,hG⟩:∃ G,gF w.greens=G:=⟨_,rfl⟩
  have hap:=fun σ:St=>MW (σ:=σ) (l:=w.greens) hgl hL (by omega)
  rw [hG] at hap hgb
  obtain ⟨L,hLe⟩:∃ L,c.lots.length=L:=⟨_,rfl⟩
  have hmk:qZ 8 (.int .i64 (L:Int)) (.int .i64 (L:Int))=some L:=by simp [qZ,room];omega
  have hz:(List.replicate L [AV.int .i64 0]).flatten=eU L (fun _=>0):=by rw [NT,EI]
  have hN:kW c hd L=bA c hd:=by rw [←hLe];rfl
  obtain ⟨M,hM⟩:∃ M,(bA c hd).length=M:=⟨_,rfl⟩
  have hML:M≤L:=by rw [←hM,←hN];exact vV c hd L
  have hlsl:(kN (bA c hd)).length=M:=by rw [CK,hM]
  have hlsg:∀ {k:Nat} (hk:k<M) (hk2:k<(kN (bA c hd)).length),∃ l:Nat,(kN (bA c hd))[k]=(l:Int)∧(∃ h,(bA c hd)[k]'h=l)∧l<L:=fun {k} hk hk2=>by
    have hk3:k<(bA c hd).length:=by omega
    exact ⟨_,aCA hk3,⟨hk3,rfl⟩,by have:=(kO hk3).1;omega⟩
  obtain ⟨H,hH⟩:∃ H,c.heat.length=H:=⟨_,rfl⟩
  have hnv:never c=(H:Int)+1:=by rw [←hH];rfl
  have hnev:=T5 c hv
  rw [hnv] at hnev
  rw [hLe] at hap hRe
  (repeat (first|simp only [↓QA,QB,seval,aW,WZ,hLe,hmk,hz,hap]|refine rd0 rfl ?_))
  refine cI (S:=Nat) 0 (fun k=>k≤L) (fun k=>L-k)
    (fun k=>[(1,ints (kN (bA c hd))),(3,.ptr 0 0),(5,.ptr 1 0),(7,.ref 2 0 L 1),(8,.ref 3 0 L 1),(9,.int .i64 k)])
    (fun k=>[.cells (carCells c),.cells [.int .i64 w.warm,ints w.greens],.cells (eU L fun i=>if i<k then never c else 0),.cells (eU L G)]) (Nat.zero_le _) (by simp [carCells,ints]) ?_ fun k hk=>?_
  · try simp only [aB,QE,seval,aW]
    try simp
  (repeat (first|simp only [↓QA,QB,seval,aW,Y5]|refine rd0 rfl ?_))
  refine aE (fun h=>?_) fun h=>?_
  · have hk1:k<L:=by simpa using h
    have hwk:=bR hk1 (by omega)
    have q1:(0:Int)≤(k:Int)∧(k:Int)<((L:Nat):Int)∧1=1:=⟨by omega,by omega,rfl⟩
    have c1:k+1≤L:=by omega
    have hs:=qL L (fun i=>if i<k then never c else 0) ((H:Int)+1) hk1
    have he:eU L (kM (fun i=>if i<k then never c else 0) k ((H:Int)+1))=eU L (fun i=>if i<k+1 then never c else 0):=by
      refine lM fun i hi=>?_
      simp only [kM,hnv]
      by_cases e:i=k
      · subst e;simp
      · by_cases e2:i<k
        · simp [e,e2,show i<k+1 by omega]
        · simp [e,e2,show ¬i<k+1 by omega]
    rw [he] at hs
    (repeat (first|simp only [↓QA,QB,seval,aW]|refine rd0 rfl ?_))
    ((first|refine aC (hnev) rfl dd ?_|refine aJ (hnev) rfl dd ?_);(repeat (first|simp only [↓QA,QB,seval,aW,q1,c1,hs]|refine rd0 rfl ?_)))
    refine ⟨k+1,by omega,by omega,?_⟩
    try simp only [aB,QE,seval,aW,hwk,dQ (show 2<4 by omega),dQ (show 3<4 by omega)]
    try simp [aL,okVs,okV,iH]
  have hk1:k=L:=by simp at h;omega
  have h0:eU L (fun i=>if i<k then never c else 0)=eU L (fun i=>bE c (inHold c hd) w.warm G i 0):=lM fun i hi=>by simp [show i<k by omega,bE]
  have h1:eU L G=eU L (m4 c hd w.warm G (min 0 H)):=by rw [Nat.zero_min,UL]
  rw [h0,h1]
  (repeat (first|simp only [↓QA,QB,seval,aW]|refine rd0 rfl ?_))
  refine cI (S:=Nat) 0 (fun h=>h≤H+1) (fun h=>H+1-h)
    (fun h=>[(1,ints (kN (bA c hd))),(3,.ptr 0 0),(5,.ptr 1 0),(7,.ref 2 0 L 1),(8,.ref 3 0 L 1),(10,.int .i64 h)])
    (fun h=>[.cells (carCells c),.cells [.int .i64 w.warm,ints w.greens],.cells (eU L fun i=>bE c (inHold c hd) w.warm G i h),.cells (eU L (m4 c hd w.warm G (min h H)))]) (Nat.zero_le _) (by simp [carCells,ints]) ?_ fun h hh=>?_
  · try simp only [aB,QE,seval,aW]
    try simp
  (repeat (first|simp only [↓QA,QB,seval,aW,WO,hH]|refine rd0 rfl ?_))
  refine aE (fun hd1=>?_) fun hd1=>?_
  rotate_left
  · have hk2:h=H+1:=by simp at hd1;omega
    subst hk2
    have he:eU L (fun i=>bE c (inHold c hd) w.warm G i (H+1))=(jS c hd w).map (AV.int .i64):=by rw [D9,hLe,←hG,←hH];rfl
    rw [he,←hR]
    have hsr:=fun (b0 b1 b3:ABlk)=>aK8 (σ:=[b0,b1,.cells ((jS c hd w).map (AV.int .i64)),b3]) (m:=0) (id:=2) (n:=L) (l:=jS c hd w) (by omega) (by simp [jS,hLe]) rfl
    (repeat (first|simp only [↓QA,QB,seval,aW,hsr]|refine rd0 rfl ?_))
  have hh1:h≤H:=by simp at hd1;omega
  have hhw:=bR (show h<H+1 by omega) (by omega)
  rw [Nat.min_eq_left hh1]
  have hm0:(fun i=>bE c (inHold c hd) w.warm G i h)=tG c hd w.warm G h 0:=(aCU h).symm
  rw [hm0]
  (repeat (first|simp only [↓QA,QB,seval,aW]|refine rd0 rfl ?_))
  refine cI (S:=Nat) 0 (fun k=>k≤M) (fun k=>M-k)
    (fun k=>[(1,ints (kN (bA c hd))),(3,.ptr 0 0),(5,.ptr 1 0),(7,.ref 2 0 L 1),(8,.ref 3 0 L 1),(10,.int .i64 h),(11,.int .i64 k)])
    (fun k=>[.cells (carCells c),.cells [.int .i64 w.warm,ints w.greens],.cells (eU L (tG c hd w.warm G h k)),.cells (eU L (m4 c hd w.warm G h))]) (Nat.zero_le _) (by simp [carCells,ints]) ?_ fun k hk=>?_
  · try simp only [aB,QE,seval,aW]
    try simp
  (repeat (first|simp only [↓QA,QB,seval,aW,aBR,hlsl]|refine rd0 rfl ?_))
  refine aE (fun hd2=>?_) fun hd2=>?_
  · have hk1:k<M:=by simpa using hd2
    have hwk:=bR hk1 (by omega)
    have hkl:k<(kN (bA c hd)).length:=by omega
    obtain ⟨l,hle,⟨hkn,hln⟩,hlL⟩:=hlsg hk1 hkl
    have hlc:l<c.lots.length:=by omega
    have q1:(0:Int)≤(l:Int)∧(l:Int)<((L:Nat):Int)∧1=1:=⟨by omega,by omega,rfl⟩
    have c1:l+1≤L:=by omega
    have hg1:=i8 L (tG c hd w.warm G h k) hlL
    have hma:=aMC (c:=c) (hd:=hd) (w:=w.warm) (g:=G) (h:=h) hkn
    rw [hln] at hma
    rw [hma] at hg1
    have hg2:=i8 L (m4 c hd w.warm G h) hlL
    have hla:=CO (c:=c) (hd:=hd) (w:=w.warm) (g:=G) (h:=h) hkn
    rw [hln] at hla
    rw [hla] at hg2
    have hfa:=rW hlc
    obtain ⟨x,hx⟩:∃ x,c.lots[l]=x:=⟨_,rfl⟩
    rw [hx] at hfa
    have hst:=fun h1 h2 h3=>aHA (c:=c) (hd:=hd) (w:=w.warm) (g:=G) (h:=h) hkn (by omega) h1 h2 h3
    have hke:=fun h1=>YG (c:=c) (hd:=hd) (w:=w.warm) (g:=G) (h:=h) hkn (by omega) h1
    rw [hln,hnv,hfa] at hst
    rw [hln,hnv,hfa] at hke
    have hset:=qL L (tG c hd w.warm G h k) (h:Int) hlL
    obtain ⟨U,hU⟩:∃ U,bE c (inHold c hd) w.warm G l h=U:=⟨_,rfl⟩
    obtain ⟨V,hV⟩:∃ V,cC c (inHold c hd) w.warm G h l=V:=⟨_,rfl⟩
    rw [hU] at hg1 hst hke
    rw [hV] at hg2 hst hke
    (repeat (first|simp only [↓QA,QB,seval,aW,hkl,hle,q1,c1,hg1,hg2]|refine rd0 rfl ?_))
    ((first|refine aC (hnev) rfl dd ?_|refine aJ (hnev) rfl dd ?_);(repeat (first|simp only [↓QA,QB,seval,aW,hkl,hle,q1,c1,hg1,hg2]|refine rd0 rfl ?_)))
    cases h1:(U==(H:Int)+1)
    · have h1':U≠(H:Int)+1:=by simpa using h1
      have hk2:=hke (.inl h1')
      (repeat (first|simp only [↓QA,QB,seval,aW,h1,q1,c1,hg1,hg2]|refine rd0 rfl ?_))
      rw [hk2]
      refine ⟨k+1,by omega,by omega,?_⟩
      try simp only [aB,QE,seval,aW,hwk,dQ (show 2<4 by omega),dQ (show 3<4 by omega)]
      try simp [aL,okVs,okV,iH]
    have h1':U=(H:Int)+1:=by simpa using h1
    cases h2:decide (x.frm≤(h:Int))
    · have h2':¬x.frm≤(h:Int):=by simpa using h2
      have hk2:=hke (.inr (.inl (by omega)))
      (repeat (first|simp only [↓QA,QB,seval,aW,h1,hlc,hx,h2,q1,c1,hg1,hg2]|refine rd0 rfl ?_))
      rw [hk2]
      refine ⟨k+1,by omega,by omega,?_⟩
      try simp only [aB,QE,seval,aW,hwk,dQ (show 2<4 by omega),dQ (show 3<4 by omega)]
      try simp [aL,okVs,okV,iH]
    have h2':x.frm≤(h:Int):=by simpa using h2
    cases h3:decide (V≤0)
    · have h3':¬V≤0:=by simpa using h3
      have hk2:=hke (.inr (.inr (by omega)))
      (repeat (first|simp only [↓QA,QB,seval,aW,h1,hlc,hx,h2,q1,c1,hg2,h3,hg1]|refine rd0 rfl ?_))
      rw [hk2]
      refine ⟨k+1,by omega,by omega,?_⟩
      try simp only [aB,QE,seval,aW,hwk,dQ (show 2<4 by omega),dQ (show 3<4 by omega)]
      try simp [aL,okVs,okV,iH]
    have h3':V≤0:=by simpa using h3
    rw [hst h1' h2' h3'] at hset
    (repeat (first|simp only [↓QA,QB,seval,aW,h1,hlc,hx,h2,q1,c1,hg2,h3,hset,hg1]|refine rd0 rfl ?_))
    refine ⟨k+1,by omega,by omega,?_⟩
    try simp only [aB,QE,seval,aW,hwk,dQ (show 2<4 by omega),dQ (show 3<4 by omega)]
    try simp [aL,okVs,okV,iH]
  have hk1:k=(bA c hd).length:=by simp at hd2;omega
  have hma:tG c hd w.warm G h k=fun i=>bE c (inHold c hd) w.warm G i (h+1):=by rw [hk1];exact aFA
  rw [hma]
  cases hlast:((h:Int)==(H:Int))
  case' true =>
    have hl':h=H:=by have:=beq_iff_eq.1 hlast;omega
    (repeat (first|simp only [↓QA,QB,seval,aW,hlast,hH]|refine rd0 rfl ?_))
    have e1:min (h+1) H=h:=by omega
    refine ⟨h+1,by omega,by omega,?_⟩
    rw [e1]
    try simp only [aB,QE,seval,aW,hhw,dQ (show 2<4 by omega),dQ (show 3<4 by omega)]
    try simp [aL,okVs,okV,iH]
  have hl' : h < H := by have : (h : Int) ≠ (H : Int) := by simpa using hlast
                         omega
  have hm0:m4 c hd w.warm G h=pQ c hd w.warm G h 0:=(R9 h).symm
  rw [hm0]
  have e1:min (h+1) H=h+1:=by omega
  (repeat (first|simp only [↓QA,QB,seval,aW,hlast,hH]|refine rd0 rfl ?_))
  refine cI (S:=Nat) 0 (fun k=>k≤M) (fun k=>M-k)
    (fun k=>[(1,ints (kN (bA c hd))),(3,.ptr 0 0),(5,.ptr 1 0),(7,.ref 2 0 L 1),(8,.ref 3 0 L 1),(10,.int .i64 h),(13,.int .i64 k)])
    (fun k=>[.cells (carCells c),.cells [.int .i64 w.warm,ints w.greens],.cells (eU L fun i=>bE c (inHold c hd) w.warm G i (h+1)),.cells (eU L (pQ c hd w.warm G h k))]) (Nat.zero_le _) (by simp [carCells,ints]) ?_ fun k hk=>?_
  · try simp only [aB,QE,seval,aW]
    try simp
  (repeat (first|simp only [↓QA,QB,seval,aW,X6,hlsl]|refine rd0 rfl ?_))
  refine aE (fun hd3=>?_) fun hd3=>?_
  rotate_left
  · have hk1:k=(bA c hd).length:=by simp at hd3;omega
    have hma:eU L (pQ c hd w.warm G h k)=eU L (m4 c hd w.warm G (h+1)):=by rw [hk1,←hLe];exact aG9
    rw [hma]
    (repeat (first|simp only [↓QA,QB,seval,aW]|refine rd0 rfl ?_))
    refine ⟨h+1,by omega,by omega,?_⟩
    rw [e1]
    try simp only [aB,QE,seval,aW,hhw,dQ (show 2<4 by omega),dQ (show 3<4 by omega)]
    try simp [aL,okVs,okV,iH]
  have hk1:k<M:=by simpa using hd3
  have hwk:=bR hk1 (by omega)
  have hkl:k<(kN (bA c hd)).length:=by omega
  obtain ⟨l,hle,⟨hkn,hln⟩,hlL⟩:=hlsg hk1 hkl
  have hlc:l<c.lots.length:=by omega
  have q1:(0:Int)≤(l:Int)∧(l:Int)<((L:Nat):Int)∧1=1:=⟨by omega,by omega,rfl⟩
  have c1:l+1≤L:=by omega
  have hg1:=i8 L (fun i=>bE c (inHold c hd) w.warm G i (h+1)) hlL
  have hg2:=i8 L (pQ c hd w.warm G h k) hlL
  have hla:=aC4 (c:=c) (hd:=hd) (w:=w.warm) (g:=G) (h:=h) hkn
  rw [hln] at hla
  rw [hla] at hg2
  have hfa:=rW hlc
  obtain ⟨x,hx⟩:∃ x,c.lots[l]=x:=⟨_,rfl⟩
  rw [hx] at hfa
  have hst:=fun h1 h2 (v:Int) hv=>V4 (c:=c) (hd:=hd) (w:=w.warm) (g:=G) (h:=h) hkn (by omega) h1 h2 (v:=v) hv
  have hke:=fun h1=>T7 (c:=c) (hd:=hd) (w:=w.warm) (g:=G) (h:=h) hkn (by omega) h1
  rw [hln,hnv,hfa] at hst
  rw [hln,hnv,hfa] at hke
  have hlb:=GU hv (inHold c hd) hwm hgb l h
  have hhb:=GL hv h
  have hhl:h<c.heat.length:=by omega
  have hha:=PG hhl
  obtain ⟨y,hy⟩:∃ y,c.heat[h]=y:=⟨_,rfl⟩
  rw [hy] at hha
  rw [hha] at hst hhb
  obtain ⟨U,hU⟩:∃ U,bE c (inHold c hd) w.warm G l (h+1)=U:=⟨_,rfl⟩
  obtain ⟨V,hV⟩:∃ V,cC c (inHold c hd) w.warm G h l=V:=⟨_,rfl⟩
  rw [hU] at hst hke
  simp only [hU] at hg1
  rw [hV] at hg2 hst hlb
  (repeat (first|simp only [↓QA,QB,seval,aW,hkl,hle,q1,c1,hg1,hg2]|refine rd0 rfl ?_))
  ((first|refine aC (hnev) rfl dd ?_|refine aJ (hnev) rfl dd ?_);(repeat (first|simp only [↓QA,QB,seval,aW,hkl,hle,q1,c1,hg1,hg2]|refine rd0 rfl ?_)))
  cases h1:(U==(H:Int)+1)
  · have h1':U≠(H:Int)+1:=by simpa using h1
    have hk2:=hke (.inl h1')
    (repeat (first|simp only [↓QA,QB,seval,aW,h1,q1,c1,hg1,hg2]|refine rd0 rfl ?_))
    rw [hk2]
    refine ⟨k+1,by omega,by omega,?_⟩
    try simp only [aB,QE,seval,aW,hwk,dQ (show 2<4 by omega),dQ (show 3<4 by omega)]
    try simp [aL,okVs,okV,iH]
  have h1':U=(H:Int)+1:=by simpa using h1
  cases h2:decide ((h:Int)<x.frm)
  case' true =>
    have h2':(h:Int)<x.frm:=by simpa using h2
    have hk2:=hke (.inr h2')
    (repeat (first|simp only [↓QA,QB,seval,aW,h1,hlc,hx,h2,q1,c1,hg1,hg2]|refine rd0 rfl ?_))
    rw [hk2]
    refine ⟨k+1,by omega,by omega,?_⟩
    try simp only [aB,QE,seval,aW,hwk,dQ (show 2<4 by omega),dQ (show 3<4 by omega)]
    try simp [aL,okVs,okV,iH]
  have h2':¬(h:Int)<x.frm:=by simpa using h2
  (repeat (first|simp only [↓QA,QB,seval,aW,h1,hlc,hx,h2,q1,c1,hg1,hg2]|refine rd0 rfl ?_))
  refine cI (S:=Nat) 0 (fun m=>m≤M) (fun m=>M-m)
    (fun m=>[(1,ints (kN (bA c hd))),(3,.ptr 0 0),(5,.ptr 1 0),(7,.ref 2 0 L 1),(8,.ref 3 0 L 1),(10,.int .i64 h),(13,.int .i64 k),(14,.int .i64 l),(15,.bool (sI c hd w.warm G h m)),(16,.int .i64 m)])
    (fun m=>[.cells (carCells c),.cells [.int .i64 w.warm,ints w.greens],.cells (eU L fun i=>bE c (inHold c hd) w.warm G i (h+1)),.cells (eU L (pQ c hd w.warm G h k))]) (Nat.zero_le _) (by simp [carCells,ints]) ?_ fun m hm=>?_
  · try simp only [aB,QE,seval,aW,U4]
    try simp
  (repeat (first|simp only [↓QA,QB,seval,aW,ZB,hlsl]|refine rd0 rfl ?_))
  refine aE (fun hd4=>?_) fun hd4=>?_
  · have hm1:m<M:=by simpa using hd4
    have hwm2:=bR hm1 (by omega)
    have hml:m<(kN (bA c hd)).length:=by omega
    obtain ⟨n,hne,⟨hmn,hnn⟩,hnL⟩:=hlsg hm1 hml
    have q2:(0:Int)≤(n:Int)∧(n:Int)<((L:Nat):Int)∧1=1:=⟨by omega,by omega,rfl⟩
    have hg3:=i8 L (fun i=>bE c (inHold c hd) w.warm G i (h+1)) hnL
    have hgs:=VZ (c:=c) (hd:=hd) (w:=w.warm) (g:=G) (h:=h) hmn
    rw [hnn] at hgs
    obtain ⟨Y,hY⟩:∃ Y,bE c (inHold c hd) w.warm G n (h+1)=Y:=⟨_,rfl⟩
    rw [hY] at hgs
    simp only [hY] at hg3
    cases hga:sI c hd w.warm G h m
    · rw [hga,Bool.false_or] at hgs
      (repeat (first|simp only [↓QA,QB,seval,aW,hga,hml,hne,q2,hg3]|refine rd0 rfl ?_))
      refine ⟨m+1,by omega,by omega,?_⟩
      try simp only [aB,QE,seval,aW,hwm2,hgs,dQ (show 2<4 by omega),dQ (show 3<4 by omega)]
      try simp [aL,okVs,okV,iH]
    · rw [hga,Bool.true_or] at hgs
      (repeat (first|simp only [↓QA,QB,seval,aW,hga]|refine rd0 rfl ?_))
      refine ⟨m+1,by omega,by omega,?_⟩
      try simp only [aB,QE,seval,aW,hwm2,hgs,dQ (show 2<4 by omega),dQ (show 3<4 by omega)]
      try simp [aL,okVs,okV,iH]
  have hm1:m=(bA c hd).length:=by simp at hd4;omega
  rw [hm1]
  have w1:IntKind.i64.wrap (V-y)=V-y:=bZ ⟨by omega,by omega⟩
  have w2:IntKind.i64.wrap (V-y-w.warm)=V-y-w.warm:=bZ ⟨by omega,by omega⟩
  have hgas:=hv.gas
  have w3:IntKind.i64.wrap (V-y-w.warm-c.gas)=V-y-w.warm-c.gas:=bZ ⟨by omega,by omega⟩
  have hs1:=qL L (pQ c hd w.warm G h k) (V-y-w.warm) hlL
  cases hga:sI c hd w.warm G h (bA c hd).length
  · rw [hst h1' (by omega) _ (by rw [hga];simp)] at hs1
    (repeat (first|simp only [↓QA,QB,seval,aW,hga,q1,c1,hg2,hhl,hy,w1,w2,hs1]|refine rd0 rfl ?_))
    refine ⟨k+1,by omega,by omega,?_⟩
    try simp only [aB,QE,seval,aW,hwk,dQ (show 2<4 by omega),dQ (show 3<4 by omega)]
    try simp [aL,okVs,okV,iH]
  · have hs2:=qL L (kM (pQ c hd w.warm G h k) l (V-y-w.warm)) (V-y-w.warm-c.gas) hlL
    rw [aGZ,hst h1' (by omega) (V-y-w.warm-c.gas) (by rw [hga];simp)] at hs2
    have hg4:=i8 L (kM (pQ c hd w.warm G h k) l (V-y-w.warm)) hlL
    have hup:kM (pQ c hd w.warm G h k) l (V-y-w.warm) l=V-y-w.warm:=by simp [kM]
    rw [hup] at hg4
    (repeat (first|simp only [↓QA,QB,seval,aW,hga,q1,c1,hg2,hhl,hy,w1,w2,hs1,hg4,w3,hs2]|refine rd0 rfl ?_))
    refine ⟨k+1,by omega,by omega,?_⟩
    try simp only [aB,QE,seval,aW,hwk,dQ (show 2<4 by omega),dQ (show 3<4 by omega)]
    try simp [aL,okVs,okV,iH]
end Go.Am.Room.Tu
namespace Go.Am.Room.Tu
def aX:=zz @encCar_eq (zz @fB (zz @eD (zz @encSeen_eq (zz @aN (zz @eM (zz @dM (zz @dK (zz @dR (zz @List.length_append.{0} (zz @Nat.mul_one (@Int.toNat_natCast)))))))))))
theorem BZ{c:Car}{n:Nat}(h:n<c.lots.length)(hd:Int):jN c hd n=aM c.lots[n].green.lo (if c.lots[n].hold=hd then (c.lots[n].green.hi+1-c.lots[n].green.lo).toNat else 1):=by simp[jN,h]
theorem CM{c:Car}(hv:Vd c)(hd:Int)(n:Nat):(jN c hd n).length<=4/\∀ x∈jN c hd n,0<=x/\x<=40:=by
 unfold jN;split
 ·rename_i l hl;obtain⟨_,_,a3,a4⟩:=hv.lt l (List.mem_of_getElem? hl);rw[jF];refine⟨by split<;>omega,fun x hx=>?_⟩;rw[bC] at hx;split at hx<;>omega
 ·simp
theorem kQ{c:Car}(hv:Vd c)(hd:Int):∀ n,(cP c hd n).length<=4^n
 |0=>by simp[cP]
 |n+1=>by
  have h1:=kQ hv hd n;have h2:=AU (fun p:List Int=>(jN c hd n).map fun x=>p++[x]) 4 (cP c hd n) fun p _=>by rw[List.length_map];exact (CM hv hd n).1
  rw[Nat.pow_succ];exact Nat.le_trans h2 (Nat.mul_le_mul_right _ h1)
theorem mQ{c:Car}(hv:Vd c)(hd:Int):∀ n,∀ p∈cP c hd n,p.length=n/\∀ x∈p,0<=x/\x<=40
 |0=>by simp[cP]
 |n+1=>by
  intro p hp;simp only[cP,List.mem_flatMap,List.mem_map] at hp;obtain⟨q,hq,x,hx,rfl⟩:=hp;obtain⟨h1,h2⟩:=mQ hv hd n q hq;refine⟨by simp[h1],fun y hy=>?_⟩;rcases List.mem_append.1 hy with hy|hy
  ·exact h2 y hy
  ·have:y=x:=by simpa using hy
   subst this;exact (CM hv hd n).2 y hx
theorem aFH{n:Nat}(h:n<=4):4^n<=256:=by
 calc 4^n<=4^4:=Nat.pow_le_pow_right (by omega) h
  _=256:=by decide
theorem aQ5(c:List Int)(hl:c.length<=100)(σ:St):dD 1 8 σ (.lit [] true none) (.lit (c.map (.int .i64)) false none)=some ((w7 1 σ (c.map (.int .i64))).1,(w7 1 σ (c.map (.int .i64))).2):=QM ⟨rfl,kX c,by simp[room];omega,by simp[room];omega⟩
theorem aQL(c:List Int)(n:Int)(hl:c.length<=100)(σ:St):dD 1 8 (w7 1 σ (c.map (.int .i64))).2 (w7 1 σ (c.map (.int .i64))).1 (.lit [.int .i64 n] true none)=some (.lit (c.map (.int .i64)++[.int .i64 n]) false (some σ.length),σ++[.tok 1 (c.length+1) true]):=by
 rw[E2 ⟨kX c,by simp[aH,AV.cells,AV.cell],by simp[room];omega,by simp[room];omega⟩ (by simp)];simp
theorem aOA(b b1:ABlk)(τ:St)(ex:Bool)(xs:List AV)(m:Nat)(y:AV)(hm:xs.length=m)(hm2:m<=2000)(hal:aH 1 (xs++[y])=true):dD 1 24 (b::b1::.tok 1 m ex::τ) (.lit xs false (some 2)) (.lit [y] true none)=some (.lit (xs++[y]) false (some 2),b::b1::.tok 1 (m+1) true::τ):=by
 simp only[aH,List.all_append,Bool.and_eq_true] at hal;rw[qM (t:=2) (ex:=ex) (sz:=1) ⟨hal.1,hal.2,by simp[room];omega,by simp[room];omega⟩ (by simp) m hm.symm rfl];simp
def AO(x:Lot)(hd:Int):Int:=if x.hold=hd then x.green.hi else x.green.lo
def grow(x:Lot)(hd:Int)(p:List Int):List (List Int):=(aM x.green.lo (AO x hd+1-x.green.lo).toNat).map fun n=>p++[n]
theorem DR{c:Car}{hd:Int}{n:Nat}(h:n<c.lots.length):cP c hd (n+1)=(cP c hd n).flatMap (grow c.lots[n] hd):=by
 have:jN c hd n=aM c.lots[n].green.lo (AO c.lots[n] hd+1-c.lots[n].green.lo).toNat:=by
  rw[BZ h];unfold AO;split
  ·rfl
  ·congr 1;omega
 simp only[cP,this];rfl
theorem xB(l:List Way):aH 2 (l.map iU)=true:=vJ 2 iU l fun w=>by simp[bQ,iU,AV.cells,AV.cell,ints]
set_option maxHeartbeats 4000000 in
theorem aFQ(c:Car)(hv:Vd c)(hd:Nat)(hhd:hd<c.holds.length):cY T 289 [encCar c,.int .i64 hd] (pZ (fD c hd)):=by
 refine aV (af:=UV) rfl (by simp[UV]) dd ?_;have hnl:=hv.nlt;obtain⟨R0,hR0⟩:∃ R,pZ (fD c hd)=R:=⟨_,rfl⟩;rw[hR0];try simp only[↓QA,QB,seval,aX,UV]
 refine cI (S:=Nat) 0 (fun n=>n<=c.lots.length) (fun n=>c.lots.length-n) (fun n=>[(1,.int .i64 hd),(2,.ptr 0 0),(5,iD (cP c hd n)),(6,.int .i64 n)]) (fun _=>[.cells (carCells c)]) (Nat.zero_le _) (by simp[carCells,ints]) ?_ fun n hn=>?_
 ·try simp only[aB,QE,seval,aX]
  simp[iD,ints,cP,clr,clrs]
 try simp only[↓QA,QB,seval,aX,WY,iD]
 refine aE (fun h=>?_) fun h=>?_
 ·have hn1:n<c.lots.length:=by simpa using h
  have hwn:IntKind.i64.wrap ((n:Int)+1)=((n+1:Nat):Int):=bR hn1 (by omega);have hsl:(cP c hd n).length<=256:=Nat.le_trans (kQ hv hd n) (aFH (by omega));have hsl1:(cP c hd (n+1)).length<=256:=Nat.le_trans (kQ hv hd (n+1)) (aFH (by omega));have hin:=mQ hv hd n;have hspec:=DR (c:=c) (hd:=(hd:Int)) hn1;obtain⟨_,_,b3,b4⟩:=hv.lt _ (List.getElem_mem hn1);obtain⟨x,hx⟩:∃ x,c.lots[n]=x:=⟨_,rfl⟩;obtain⟨R,hR⟩:∃ R,cP c hd (n+1)=R:=⟨_,rfl⟩;rw[hR,hx] at hspec;rw[hR] at hsl1;rw[hx] at b3 b4;obtain⟨Y,hY⟩:∃ Y,AO x hd=Y:=⟨_,rfl⟩;have hYb:x.green.lo<=Y/\Y<=40:=by rw[<-hY];unfold AO;split<;>omega
  obtain⟨X,hX⟩:∃ X,(Y+1-x.green.lo).toNat=X:=⟨_,rfl⟩;have hgr:∀ p,grow x hd p=(aM x.green.lo X).map fun n=>p++[n]:=fun p=>by rw[<-hX,<-hY];rfl
  have hXb:Y+1-x.green.lo=(X:Int):=by omega
  obtain⟨Q,hQ⟩:∃ Q,cP c hd n=Q:=⟨_,rfl⟩;rw[hQ] at hsl hspec hin;have fin:∀ (e:Env) (K:KJ),Env.get e 1 = .int .i64 hd->Env.get e 2 = .ptr 0 0->Env.get e 5=iD Q->Env.get e 6 = .int .i64 n->Env.get e 7 = .ptr 1 0->Env.get e 8 = .lit [] false (some 2)->Env.get e 9 = .int .i64 0 ->
    (∀ e' ex m,Env.get e' 1 = .int .i64 hd->Env.get e' 2 = .ptr 0 0->Env.get e' 6 = .int .i64 n->Env.get e' 8 = .lit (R.map ints) false (some 2)->K (some (.exit 2)) e' [.cells (carCells c),.cells [.int .i64 x.green.lo,.int .i64 Y],.tok 1 m ex]) ->
    rK (K:=⟨K⟩) T (.loop CJ) e [.cells (carCells c),.cells [.int .i64 x.green.lo,.int .i64 Y],.tok 1 0 false]:=by
   intro e K e1 e2 e5 e6 e7 e8 e9 hK;refine cI (S:=Nat×List (List Int)×Bool) (0,[],false) (fun k=>k.1<=Q.length/\k.2.1++(Q.drop k.1).flatMap (grow x hd)=R) (fun k=>Q.length-k.1)
    (fun k=>[(1,.int .i64 hd),(2,.ptr 0 0),(5,iD Q),(6,.int .i64 n),(7,.ptr 1 0),(8,.lit (k.2.1.map ints) false (some 2)),(9,.int .i64 k.1)])
    (fun k=>[.cells (carCells c),.cells [.int .i64 x.green.lo,.int .i64 Y],.tok 1 k.2.1.length k.2.2]) ⟨Nat.zero_le _,by simp[hspec]⟩ rfl ?_ fun k hk=>?_
   ·try simp only[aB,QE,seval,aX,e1,e2,e5,e6,e7,e8,e9,iD,List.map_nil]
    try simp
   obtain⟨k,acc,ex⟩:=k;obtain⟨hk,hacc⟩:=hk;simp only at hk hacc;try simp only[↓QA,QB,seval,aX,CJ,iD]
   refine aE (fun h2=>?_) fun h2=>?_
   ·have hk1:k<Q.length:=by simpa using h2
    have hmem:=List.getElem_mem hk1;obtain⟨p,hp⟩:∃ p,Q[k]=p:=⟨_,rfl⟩;rw[hp] at hmem;have hpl:=(hin p hmem).1;rw[List.drop_eq_getElem_cons hk1,hp,List.flatMap_cons,hgr] at hacc;have hwk:IntKind.i64.wrap ((k:Int)+1)=((k+1:Nat):Int):=bR hk1 (by omega);try simp only[↓QA,QB,seval,aX]
    refine cI (S:=Nat×List (List Int)×Bool) (0,acc,ex) (fun m=>m.1<=X/\m.2.1++((aM (x.green.lo+(m.1:Int)) (X-m.1)).map (fun n=>p++[n])++(Q.drop (k+1)).flatMap (grow x hd))=R) (fun m=>X-m.1)
     (fun m=>[(1,.int .i64 hd),(2,.ptr 0 0),(5,iD Q),(6,.int .i64 n),(7,.ptr 1 0),(8,.lit (m.2.1.map ints) false (some 2)),(9,.int .i64 k),(10,.int .i64 (x.green.lo+(m.1:Int)))])
     (fun m=>[.cells (carCells c),.cells [.int .i64 x.green.lo,.int .i64 Y],.tok 1 m.2.1.length m.2.2]) ⟨Nat.zero_le _,by simpa using hacc⟩ (by simp[carCells,ints]) ?_ fun m hm=>?_
    ·try simp only[aB,QE,seval,aX,iD]
     try simp
    obtain⟨m,acc1,ex1⟩:=m;obtain⟨hm,hac1⟩:=hm;simp only at hm hac1;have hacl:acc1.length<=256:=by
     have:=congrArg List.length hac1;simp only[List.length_append] at this;omega
    obtain⟨y,hy⟩:∃ y,x.green.lo+(m:Int)=y:=⟨_,rfl⟩;have hy1:x.green.lo+((m+1:Nat):Int)=y+1:=by omega
    simp only[hy] at hac1 ⊢;have hwy:IntKind.i64.wrap (y+1)=y+1:=bZ ⟨by omega,by omega⟩;try simp only[↓QA,QB,seval,aX,UZ,iD]
    cases h3:decide (y<=Y)
    ·have h3':¬y<=Y:=by simpa using h3
     have hmX:X-m=0:=by omega
     rw[hmX] at hac1;simp only[aM,List.map_nil,List.nil_append] at hac1;try simp only[↓QA,QB,seval,aX,h3]
     refine⟨(k+1,acc1,ex1),⟨by simp only;omega,hac1⟩,by simp only;omega,?_⟩;try simp only[aB,QE,seval,aX,hwk,iD]
     try simp[aL,okVs,okV]
    ·have h3':y<=Y:=by simpa using h3
     have hmX:X-m=(X-(m+1))+1:=by omega
     rw[hmX] at hac1;simp only[aM,List.map_cons] at hac1;have hca:aH 1 (acc1.map ints)=true:=DT acc1;have a0:=aQ5 p (by omega);have a1:=aQL p y (by omega);have hap:=fun (b b1:ABlk) (τ:St) (ex:Bool) (l:List AV) (f:Bool) (t:Option Nat)=>aOA b b1 τ ex (acc1.map ints) acc1.length (.lit l f t) (by simp) (by omega) (HR hca)
     try simp only[↓QA,QB,seval,aX,h3,hk1,hp,ints,a0,a1,hap]
     refine⟨(m+1,acc1++[p++[y]],true),⟨by simp only;omega,by simp only[hy1];simpa using hac1⟩,by simp only;omega,?_⟩;simp only[hy1];try simp only[aB,QE,seval,aX,hwy,List.map_append,List.length_append,List.map_cons,List.map_nil,iD]
     try simp[aL,okVs,okV]
   ·have hk1:k=Q.length:=by simp at h2;omega
    have hfin:acc=R:=by rw[<-hacc,hk1,List.drop_length];simp
    rw[hfin];try simp only[↓QA,QB,seval,aX]
    refine hK _ _ _ ?_ ?_ ?_ ?_;all_goals try simp only[aB,QE,seval,aX]
  have hgk:∀ (e:Env) (K:KJ) (b:ABlk),Env.get e 8 = .lit [] true none->rK (K:=⟨K⟩) T (.loop CJ) ((8,.lit [] false (some 2))::e) [.cells (carCells c),b,.tok 1 0 false]->rK (K:=⟨K⟩) T (.loop CJ) e [.cells (carCells c),b]:=fun e K b h1 h2=>vM 8 1 [] h1 h2
  simp only[fB] at fin hgk;cases h1:(x.hold==(hd:Int))
  ·have h1':¬x.hold=(hd:Int):=by simpa using h1
   have hYe:x.green.lo=Y:=by rw[<-hY];simp[AO,h1']
   try simp only[↓QA,QB,seval,aX,hn1,hx,h1]
   refine hgk _ _ _ ?_ ?_
   ·try simp only[aB,QE,seval,aX]
   rw[show [AV.int .i64 x.green.lo,AV.int .i64 x.green.lo]=[AV.int .i64 x.green.lo,AV.int .i64 Y] by rw[<-hYe]];refine fin _ _ ?_ ?_ ?_ ?_ ?_ ?_ ?_ fun e' ex m q1 q2 q6 q8=>?_
   ·try simp only[aB,QE,seval,aX]
   ·try simp only[aB,QE,seval,aX]
   ·try simp only[aB,QE,seval,aX,hQ,iD]
   ·try simp only[aB,QE,seval,aX]
   ·try simp only[aB,QE,seval,aX]
   ·try simp only[aB,QE,seval,aX]
   ·try simp only[aB,QE,seval,aX]
   try simp only[↓QA,QB,seval,aX,q1,q2,q6,q8]
   refine⟨n+1,by omega,by omega,?_⟩;try simp only[aB,QE,seval,aX,q1,q2,q6,q8,hwn,iD,hR]
   try simp[aL,okVs,okV]
  ·have h1':x.hold=(hd:Int):=by simpa using h1
   have hYe:x.green.hi=Y:=by rw[<-hY];simp[AO,h1']
   try simp only[↓QA,QB,seval,aX,hn1,hx,h1]
   refine hgk _ _ _ ?_ ?_
   ·try simp only[aB,QE,seval,aX]
   rw[show [AV.int .i64 x.green.lo,AV.int .i64 x.green.hi]=[AV.int .i64 x.green.lo,AV.int .i64 Y] by rw[<-hYe]];refine fin _ _ ?_ ?_ ?_ ?_ ?_ ?_ ?_ fun e' ex m q1 q2 q6 q8=>?_
   ·try simp only[aB,QE,seval,aX]
   ·try simp only[aB,QE,seval,aX]
   ·try simp only[aB,QE,seval,aX,hQ,iD]
   ·try simp only[aB,QE,seval,aX]
   ·try simp only[aB,QE,seval,aX]
   ·try simp only[aB,QE,seval,aX]
   ·try simp only[aB,QE,seval,aX]
   try simp only[↓QA,QB,seval,aX,q1,q2,q6,q8]
   refine⟨n+1,by omega,by omega,?_⟩;try simp only[aB,QE,seval,aX,q1,q2,q6,q8,hwn,iD,hR]
   try simp[aL,okVs,okV]
 have hn1:n=c.lots.length:=by simp at h;omega
 subst hn1;have hgl:(cP c hd c.lots.length).length<=256:=Nat.le_trans (kQ hv hd _) (aFH (by omega));have hgi:=mQ hv hd c.lots.length;obtain⟨⟨s1,s2,s3⟩,s4⟩:=hv.hd _ (List.getElem_mem hhd);have hRe:fD c hd=(pC c hd).flatMap fun w=>(cP c hd c.lots.length).map fun g=>⟨w,g⟩:=rfl
 have hwa:pC c hd=aM c.holds[hd].lo (c.holds[hd].hi+1-c.holds[hd].lo).toNat:=by simp[pC,hhd]
 obtain⟨s,hs⟩:∃ s,c.holds[hd]=s:=⟨_,rfl⟩;rw[hs] at s1 s2 s3 s4 hwa;rw[hwa] at hRe;obtain⟨Q,hQ⟩:∃ Q,cP c hd c.lots.length=Q:=⟨_,rfl⟩;rw[hQ] at hgl hgi hRe;rw[hQ];obtain⟨X,hX⟩:∃ X,(s.hi+1-s.lo).toNat=X:=⟨_,rfl⟩;rw[hX] at hRe;obtain⟨W,hW⟩:∃ W,fD c hd=W:=⟨_,rfl⟩;rw[hW] at hRe hR0;have hWl:W.length<=1024:=by
  have h1:=AU (fun w:Int=>Q.map fun g=>(⟨w,g⟩:Way)) 256 (aM s.lo X) fun w _=>by rw[List.length_map];exact hgl
  rw[jF] at h1;rw[hRe];omega
 try simp only[↓QA,QB,seval,aX,hhd,hs]
 refine vM 11 2 [] rfl ?_;refine cI (S:=Nat×List Way×Bool) (0,[],false) (fun m=>m.1<=X/\m.2.1++(aM (s.lo+(m.1:Int)) (X-m.1)).flatMap (fun w=>Q.map fun g=>⟨w,g⟩)=W) (fun m=>X-m.1)
  (fun m=>[(1,.int .i64 hd),(2,.ptr 0 0),(5,iD Q),(11,.lit (m.2.1.map iU) false (some 1)),(12,.int .i64 (s.lo+(m.1:Int)))])
  (fun m=>[.cells (carCells c),.tok 2 m.2.1.length m.2.2]) ⟨Nat.zero_le _,by simp[hRe]⟩ (by simp[carCells,ints]) ?_ fun m hm=>?_
 ·try simp only[aB,QE,seval,aX,iD]
  try simp
 obtain⟨m,acc,ex⟩:=m;obtain⟨hm,hacc⟩:=hm;simp only at hm hacc;obtain⟨y,hy⟩:∃ y,s.lo+(m:Int)=y:=⟨_,rfl⟩;have hy1:s.lo+((m+1:Nat):Int)=y+1:=by omega
 simp only[hy] at hacc ⊢;have hwy:IntKind.i64.wrap (y+1)=y+1:=bZ ⟨by omega,by omega⟩;try simp only[↓QA,QB,seval,aX,W3,iD,hhd,hs]
 cases h3:decide (y<=s.hi)
 ·have h3':¬y<=s.hi:=by simpa using h3
  have hmX:X-m=0:=by omega
  rw[hmX] at hacc;simp only[aM,List.flatMap_nil,List.append_nil] at hacc;have hRw:R0=pZ acc:=by rw[<-hR0,hacc]
  rw[hRw,pZ];try simp only[↓QA,QB,seval,aX,h3,qX]
 have h3':y<=s.hi:=by simpa using h3
 have hmX:X-m=(X-(m+1))+1:=by omega
 rw[hmX] at hacc;simp only[aM,List.flatMap_cons] at hacc;try simp only[↓QA,QB,seval,aX,h3]
 refine cI (S:=Nat×List Way×Bool) (0,acc,ex) (fun k=>k.1<=Q.length/\k.2.1++((Q.drop k.1).map (fun g=>⟨y,g⟩)++(aM (y+1) (X-(m+1))).flatMap (fun w=>Q.map fun g=>⟨w,g⟩))=W) (fun k=>Q.length-k.1)
  (fun k=>[(1,.int .i64 hd),(2,.ptr 0 0),(5,iD Q),(11,.lit (k.2.1.map iU) false (some 1)),(12,.int .i64 y),(13,.int .i64 k.1)])
  (fun k=>[.cells (carCells c),.tok 2 k.2.1.length k.2.2]) ⟨Nat.zero_le _,by simpa using hacc⟩ (by simp[carCells,ints]) ?_ fun k hk=>?_
 ·try simp only[aB,QE,seval,aX,iD]
  try simp
 obtain⟨k,acc1,ex1⟩:=k;obtain⟨hk,hac1⟩:=hk;simp only at hk hac1;have hacl:acc1.length<=1024:=by
  have:=congrArg List.length hac1;simp only[List.length_append] at this;omega
 try simp only[↓QA,QB,seval,aX,aA4,iD]
 refine aE (fun h4=>?_) fun h4=>?_
 ·have hk1:k<Q.length:=by simpa using h4
  have hwk:IntKind.i64.wrap ((k:Int)+1)=((k+1:Nat):Int):=bR hk1 (by omega);obtain⟨p,hp⟩:∃ p,Q[k]=p:=⟨_,rfl⟩;rw[List.drop_eq_getElem_cons hk1,hp,List.map_cons] at hac1;have hap:=fun (b:ABlk) (τ:St)=>qM (σ:=b::.tok 2 acc1.length ex1::τ) (t:=1) (ex:=ex1) (sz:=2) (b:=32) (xs:=acc1.map iU) (ys:=[.agg [.int .i64 y,.lit (p.map (.int .i64)) false none]]) (f:=true) (tk:=none) ⟨xB acc1,by simp[aH,AV.cells,AV.cell],by simp[room];omega,by simp[room];omega⟩ (by simp) acc1.length (by simp) rfl
  try simp only[↓QA,QB,seval,aX,hk1,hp,hap]
  refine⟨(k+1,acc1++[⟨y,p⟩],true),⟨by simp only;omega,by simpa using hac1⟩,by simp only;omega,?_⟩;try simp only[aB,QE,seval,aX,hwk,qX,List.map_append,List.length_append,List.map_cons,List.map_nil,iD,lI]
  try simp[aL,okVs,okV]
 ·have hk1:k=Q.length:=by simp at h4;omega
  have hfin:acc1++(aM (y+1) (X-(m+1))).flatMap (fun w=>Q.map fun g=>⟨w,g⟩)=W:=by rw[<-hac1,hk1,List.drop_length];simp
  try simp only[↓QA,QB,seval,aX]
  refine⟨(m+1,acc1,ex1),⟨by simp only;omega,by simp only[hy1];exact hfin⟩,by simp only;omega,?_⟩;simp only[hy1];try simp only[aB,QE,seval,aX,hwy,qX,iD]
  try simp[aL,okVs,okV]
end Go.Am.Room.Tu
namespace Go.Am.Room.Tu
def cJ:=zz @encCar_eq (zz @fB (zz @eD (zz @encSeen_eq (zz @aN (zz @lI (zz @eM (zz @dM (zz @dK (zz @dR (zz @List.length_append.{0} (zz @Nat.mul_one (@Int.toNat_natCast))))))))))))
theorem QG(c:Car)(n:Int)(t:List Int):clrs [encCar c,.int .i64 n,ints t,.lit [] true none]=[encCar c,.int .i64 n,ints t,ints []]:=by
 have h:=(iN t).2;simp only[clrs,(data_car c).2,h];rfl
def rZ(c:Car)(hd:Int)(t:Nat->Int)(n:Nat):Bool:=(c.seen.take n).all (lookOk c hd t)
theorem E4{c:Car}{k:Nat}(hk:k<c.seen.length)(hd:Int)(t:Nat->Int):rZ c hd t (k+1)=(rZ c hd t k&&lookOk c hd t c.seen[k]):=by
 rw[rZ,rZ,List.take_add_one,List.all_append,List.getElem?_eq_getElem hk];simp
theorem CY(c:Car)(hd:Int)(t:Nat->Int):rZ c hd t c.seen.length=tQ c hd t:=by simp[rZ,tQ]
theorem aLR(c:Car)(hv:Vd c)(hd:Int)(t:List Int)(ht:t.length=c.lots.length):cY T 290 [encCar c,.int .i64 hd,ints t,ints []] (.bool (tQ c hd (gF t))):=by
 refine aV (af:=aCD) rfl (by simp[aCD]) dd ?_;have hns:=hv.nsn;have hnl:=hv.nlt
 (repeat (first|simp only[↓QA,QB,seval,cJ,aCD]|refine rd0 rfl ?_))
 refine cI (S:=Nat) 0 (fun n=>n<=c.seen.length) (fun n=>c.seen.length-n)
  (fun n=>[(1,.int .i64 hd),(2,ints t),(3,ints []),(4,.ptr 0 0),(9,.bool (rZ c hd (gF t) n)),(10,.int .i64 n)]) (fun _=>[.cells (carCells c)]) (Nat.zero_le _) (by simp[carCells,ints]) ?_ fun n hn=>?_
 ·try simp only[aB,QE,seval,cJ]
  try simp[rZ]
 (repeat (first|simp only[↓QA,QB,seval,cJ,aC0]|refine rd0 rfl ?_))
 refine aE (fun h=>?_) fun h=>?_
 ·have hn1:n<c.seen.length:=by simpa using h
  have hw:=bR hn1 (by omega);have hsu:=E4 hn1 hd (gF t);have hsx:=hv.sn _ (List.getElem_mem hn1);obtain⟨x,hx⟩:∃ x,c.seen[n]=x:=⟨_,rfl⟩;rw[hx] at hsu hsx;obtain⟨l,hl⟩:∃ l:Nat,x.lot=l:=⟨x.lot.toNat,by omega⟩;have hlc:l<c.lots.length:=by omega
  have hlt:l<t.length:=by omega
  have hat:=wW hlc hd;obtain⟨y,hy⟩:∃ y,c.lots[l]=y:=⟨_,rfl⟩;rw[hy] at hat
  have hgf:gF t l=t[l]:=by simp[gF,hlt]
  obtain⟨z,hz⟩:∃ z,t[l]=z:=⟨_,rfl⟩;have hlo:lookOk c hd (gF t) x=(!decide (y.hold=hd)||(decide (z<=x.hour)==x.turned)):=by
   simp only[lookOk,hl,Int.toNat_natCast,hat,hgf,hz]
  obtain⟨q,hq⟩:∃ q,rZ c hd (gF t) n=q:=⟨_,rfl⟩;rw[hq,hlo] at hsu;rw[hq];cases h1:(y.hold==hd)
  ·have h1':¬y.hold=hd:=by simpa using h1
   have hs2:rZ c hd (gF t) (n+1)=q:=by rw[hsu];simp[h1']
   (repeat (first|simp only[↓QA,QB,seval,cJ,hn1,hx,hl,hlc,hy,h1]|refine rd0 rfl ?_))
   refine⟨n+1,by omega,by omega,?_⟩;try simp only[aB,QE,seval,cJ,hw,hs2]
   try simp[aL,okVs,okV]
  ·have h1':y.hold=hd:=by simpa using h1
   have hs2:rZ c hd (gF t) (n+1)=(q&&(decide (z<=x.hour)==x.turned)):=by rw[hsu];simp[h1']
   have hh:=WH [] (n:Int) (by simp);have hc0:([]:List Int).contains (n:Int)=false:=by simp
   (repeat (first|simp only[↓QA,QB,seval,cJ,hn1,hx,hl,hlc,hy,h1]|refine rd0 rfl ?_))
   ((first|refine aC (hh) rfl dd ?_|refine aJ (hh) rfl dd ?_);(repeat (first|simp only[↓QA,QB,seval,cJ,hn1,hx,hl,hlc,hy,h1,hc0]|refine rd0 rfl ?_)))
   cases q
   ·rw[Bool.false_and] at hs2
    (repeat (first|simp only[↓QA,QB,seval,cJ]|refine rd0 rfl ?_))
    refine⟨n+1,by omega,by omega,?_⟩;try simp only[aB,QE,seval,cJ,hw,hs2]
    try simp[aL,okVs,okV]
   ·rw[Bool.true_and] at hs2;obtain⟨b,hb⟩:∃ b,decide (z<=x.hour)=b:=⟨_,rfl⟩;rw[hb] at hs2
    (repeat (first|simp only[↓QA,QB,seval,cJ,hl,hlt,hz,hb]|refine rd0 rfl ?_))
    refine⟨n+1,by omega,by omega,?_⟩;try simp only[aB,QE,seval,cJ,hw,hs2]
    try simp[aL,okVs,okV]
 ·have hn1:n=c.seen.length:=by simp at h;omega
  have hs2:rZ c hd (gF t) n=tQ c hd (gF t):=by rw[hn1,CY]
  rw[hs2]
  (repeat (first|simp only[↓QA,QB,seval,cJ]|refine rd0 rfl ?_))
theorem YA{c:Car}{i:Nat}(hi:i<c.lots.length)(hd:Int)(w:Way):gF (jS c hd w) i=eQ c hd w i:=by simp[gF,jS,hi]
theorem ML(c:Car)(hd:Int)(w:Way):(jS c hd w).length=c.lots.length:=by simp[jS]
theorem W4{c:Car}(hv:Vd c)(hd:Int)(w:Way):tQ c hd (gF (jS c hd w))=tQ c hd (eQ c hd w):=by
 have h:∀ x∈c.seen,lookOk c hd (gF (jS c hd w)) x=lookOk c hd (eQ c hd w) x:=fun x hx=>by
  have:=(hv.sn x hx).1;simp only[lookOk,YA (show x.lot.toNat<c.lots.length by omega)]
 unfold tQ;rw[Bool.eq_iff_iff,List.all_eq_true,List.all_eq_true];exact⟨fun k x hx=>by rw[<-h x hx];exact k x hx,fun k x hx=>by rw[h x hx];exact k x hx⟩
theorem OT{c:Car}(hv:Vd c){hd:Nat}(hhd:hd<c.holds.length){w:Way}(h:w∈fD c hd):WayOk c w:=by
 simp only[fD,List.mem_flatMap,List.mem_map] at h;obtain⟨x,hx,g,hg,rfl⟩:=h;obtain⟨⟨s1,s2,s3⟩,s4⟩:=hv.hd _ (List.getElem_mem hhd);obtain⟨g1,g2⟩:=mQ hv hd _ g hg;refine⟨?_,g1,g2⟩;simp only[pC,List.getElem?_eq_getElem hhd] at hx;rw[bC] at hx;simp only;omega
theorem Q7{c:Car}(hv:Vd c){hd:Nat}(hhd:hd<c.holds.length):(fD c hd).length<=1024:=by
 obtain⟨⟨s1,s2,s3⟩,s4⟩:=hv.hd _ (List.getElem_mem hhd);have hgl:(jV c hd).length<=256:=Nat.le_trans (kQ hv hd _) (aFH hv.nlt);have h1:=AU (fun w:Int=>(jV c hd).map fun g=>(⟨w,g⟩:Way)) 256 (pC c hd) fun w _=>by rw[List.length_map];exact hgl
 have h2:(pC c hd).length<=4:=by
  simp only[pC,List.getElem?_eq_getElem hhd,jF];omega
 have h3:(fD c hd).length<=(pC c hd).length*256:=h1;omega
theorem ZW(c:Car)(n:Int):clrs [encCar c,.int .i64 n,.lit [] true none]=[encCar c,.int .i64 n,ints []]:=by simp[clrs,(data_car c).2,clr,ints]
theorem FG(c:Car)(n:Int):okVs 0 [encCar c,.int .i64 n,.lit [] true none]:=⟨(data_car c).1,trivial,by simp[okV,okVs],trivial⟩
theorem EN(c:Car)(n:Int)(t:List Int):okVs 0 [encCar c,.int .i64 n,ints t,.lit [] true none]:=⟨(data_car c).1,trivial,(iN t).1,by simp[okV,okVs],trivial⟩
set_option maxHeartbeats 1000000 in
theorem V5(c:Car)(hv:Vd c)(hL:0<c.lots.length)(hd:Nat)(hhd:hd<c.holds.length):cY T 152 [encCar c,.int .i64 hd,ints []] (pZ (dS c hd)):=by
 refine aV (af:=W2) rfl (by simp[W2]) dd ?_;have hall:=aFQ c hv hd hhd;have hwk:=fun w (h:w∈fD c hd)=>OT hv hhd h
 have hwl:=Q7 hv hhd;have hof:=aKM c hv hd;obtain⟨R,hR⟩:∃ R,dS c hd=R:=⟨_,rfl⟩;have hRl:R.length<=1024:=by rw[<-hR];exact Nat.le_trans (List.length_filter_le _ _) hwl
 rw[hR];have hR':[]++((fD c hd).drop 0).filter (fun w=>tQ c hd (eQ c hd w))=R:=hR;obtain⟨W,hW⟩:∃ W,fD c hd=W:=⟨_,rfl⟩;rw[hW] at hall hwl hR';simp only[hW] at hwk;obtain⟨O,hO⟩:∃ O,kN (bA c hd)=O:=⟨_,rfl⟩;rw[hO] at hof
 (repeat (first|simp only[↓QA,QB,seval,cJ,W2]|refine rd0 rfl ?_))
 ((first|refine aC (hall) rfl dd ?_|refine aJ (hall) rfl dd ?_);(repeat (first|simp only[↓QA,QB,seval,cJ]|refine rd0 rfl ?_)))
 refine vM 8 2 [] rfl ?_;refine cI (S:=Nat×List Way×Bool) (0,[],false) (fun a=>a.1<=W.length/\a.2.1++(W.drop a.1).filter (fun w=>tQ c hd (eQ c hd w))=R) (fun a=>W.length-a.1)
  (fun a=>[(1,.int .i64 hd),(2,ints []),(3,.ptr 0 0),(7,pZ W),(8,.lit (a.2.1.map iU) false (some 1)),(9,.int .i64 a.1)])
  (fun a=>[.cells (carCells c),.tok 2 a.2.1.length a.2.2]) ⟨Nat.zero_le _,hR'⟩ (by simp[carCells,ints]) ?_ fun a ha=>?_
 ·try simp only[aB,QE,seval,cJ]
  try simp
 obtain⟨k,acc,ex⟩:=a;obtain⟨hk,hacc⟩:=ha;simp only at hk hacc
 (repeat (first|simp only[↓QA,QB,seval,cJ,VA,tZ]|refine rd0 rfl ?_))
 refine aE (fun h=>?_) fun h=>?_
 ·have hk1:k<W.length:=by simpa using h
  have hw:=bR hk1 (by omega);have hwo:=hwk _ (List.getElem_mem hk1);obtain⟨w,hwe⟩:∃ w,W[k]=w:=⟨_,rfl⟩;rw[hwe] at hwo;rw[List.drop_eq_getElem_cons hk1,hwe,List.filter_cons] at hacc;have hal:acc.length<=1024:=by
   have:=congrArg List.length hacc;simp only[List.length_append] at this;omega
  have hti:=RN c hv hd w hL hwo;have hso:=aLR c hv hd (jS c hd w) (ML c hd w);rw[W4 hv] at hso;rw[hO] at hti;simp only[lI] at hti;obtain⟨Z,hZ⟩:∃ Z,jS c hd w=Z:=⟨_,rfl⟩;rw[hZ] at hti hso;obtain⟨B,hB⟩:∃ B,tQ c hd (eQ c hd w)=B:=⟨_,rfl⟩;rw[hB] at hso hacc;have hap:=fun (b0:ABlk) (τ:St)=>qM (σ:=b0::.tok 2 acc.length ex::τ) (t:=1) (ex:=ex) (sz:=2) (b:=32) (xs:=acc.map iU) (ys:=[.agg [.int .i64 w.warm,.lit (w.greens.map (.int .i64)) false none]]) (f:=true) (tk:=none) ⟨xB acc,by simp[aH,AV.cells,AV.cell],by simp[room];omega,by simp[room];omega⟩ (by simp) acc.length (by simp) rfl
  (repeat (first|simp only[↓QA,QB,seval,cJ,hk1,hwe]|refine rd0 rfl ?_))
  (first|refine bH hof (ZW c hd) (FG c hd) ?_|refine fX hof (ZW c hd) (FG c hd) ?_)
  (repeat (first|simp only[↓QA,QB,seval,cJ,hk1,hwe]|refine rd0 rfl ?_))
  ((first|refine aC (hti) rfl dd ?_|refine aJ (hti) rfl dd ?_);(repeat (first|simp only[↓QA,QB,seval,cJ,hk1,hwe]|refine rd0 rfl ?_)))
  (first|refine bH hso (QG c hd Z) (EN c hd Z) ?_|refine fX hso (QG c hd Z) (EN c hd Z) ?_)
  cases B
  ·simp only[Bool.false_eq_true,if_false] at hacc
   (repeat (first|simp only[↓QA,QB,seval,cJ,hk1,hwe]|refine rd0 rfl ?_))
   refine⟨(k+1,acc,ex),⟨by simp only;omega,hacc⟩,by simp only;omega,?_⟩;try simp only[aB,QE,seval,cJ,hw,tZ,qX]
   try simp[aL,okVs,okV]
  ·simp only[if_true] at hacc
   (repeat (first|simp only[↓QA,QB,seval,cJ,hk1,hwe,lI,hap]|refine rd0 rfl ?_))
   refine⟨(k+1,acc++[w],true),⟨by simp only;omega,by simpa using hacc⟩,by simp only;omega,?_⟩;try simp only[aB,QE,seval,cJ,hw,qX,tZ,List.map_append,List.length_append,List.map_cons,List.map_nil,lI]
   try simp[aL,okVs,okV]
 ·have hk1:k=W.length:=by simp at h;omega
  have hfin:acc=R:=by rw[<-hacc,hk1,List.drop_length];simp
  rw[hfin]
  (repeat (first|simp only[↓QA,QB,seval,cJ,qX]|refine rd0 rfl ?_))
def lS(c:Car)(n:Nat):Bool:=(List.range n).all fun h=>!(dS c h).isEmpty
theorem J6(c:Car)(n:Nat):lS c (n+1)=(lS c n&&!(dS c n).isEmpty):=by simp[lS,List.range_succ,List.all_append]
theorem UK{c:Car}{n m:Nat}(h:lS c n=false)(hm:n<=m):lS c m=false:=by
 cases e:lS c m
 ·rfl
 ·rw[<-h];simp only[lS,List.all_eq_true,List.mem_range] at e;have:lS c n=true:=by
   simp only[lS,List.all_eq_true,List.mem_range];exact fun x hx=>e x (by omega)
  rw[h] at this;cases this
theorem rsome_ok(c:Car)(hv:Vd c)(hL:0<c.lots.length):cY T 38 [encCar c,ints []] (.bool (someB c)):=by
 refine aV (af:=a38) rfl (by simp[a38]) dd ?_;have hnh:=hv.nhd;obtain⟨R,hR⟩:∃ R,someB c=R:=⟨_,rfl⟩;rw[hR];try simp only[↓QA,QB,seval,cJ,a38]
 refine cI (S:=Nat) 0 (fun n=>n<=c.holds.length) (fun n=>c.holds.length-n)
  (fun n=>[(1,ints []),(2,.ptr 0 0),(5,.bool (lS c n)),(6,.int .i64 n)]) (fun _=>[.cells (carCells c)]) (Nat.zero_le _) (by simp[carCells,ints]) ?_ fun n hn=>?_
 ·try simp only[aB,QE,seval,cJ]
  try simp[lS]
 have hsu:=J6 c n;cases h:decide ((n:Int)<(c.holds.length:Int))
 ·have hn1:n=c.holds.length:=by simp at h;omega
  have hfin:lS c n=R:=by
   rw[<-hR,hn1];rfl
  rw[hfin];try simp only[↓QA,QB,seval,cJ,PY,h]
 have hn1:n<c.holds.length:=by simpa using h
 cases hq:lS c n
 ·have hfin:false=R:=by
   rw[<-hR];exact (UK hq hn).symm
  try simp only[↓QA,QB,seval,cJ,PY,h]
  rw[hfin];try simp only[↓QA,QB,seval,cJ]
 rw[hq,Bool.true_and] at hsu;have hw:=bR hn1 (by omega);have hwy:=V5 c hv hL n hn1;obtain⟨W,hW⟩:∃ W,dS c n=W:=⟨_,rfl⟩;rw[hW] at hwy hsu;have hgt:decide (0<(W.length:Int)) = !W.isEmpty:=by cases W<;>simp<;>omega
 rw[<-hgt] at hsu;try simp only[↓QA,QB,seval,cJ,PY,h]
 (refine aC (hwy) rfl dd ?_;try simp only[↓QA,QB,seval,cJ])
 try simp only[↓QA,QB,seval,cJ,tZ]
 refine⟨n+1,by omega,by omega,?_⟩;try simp only[aB,QE,seval,cJ,hw,hsu]
 try simp[aL,okVs,okV]
end Go.Am.Room.Tu
