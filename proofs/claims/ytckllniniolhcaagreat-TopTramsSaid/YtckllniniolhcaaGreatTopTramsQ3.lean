/- A part of the proof of TopTrams: an abstract machine, or what functions come to on it. -/
import Derived.Test.YtckllniniolhcaaGreatTopTramsQ2
import Derived.WalkKit
import Derived.ChangeArms
import Derived.SizedLaws
import Derived.ChangeBears
import Derived.ChangeShapes
import Derived.WideShapes
import Derived.ProofKit
import Derived.OpenShut
import Derived.Lib.Strings
import Derived.Laws.RangeAny
open Nat (reduceLT reduceEqDiff reduceAdd reduceLeDiff reduceMul)
set_option linter.unusedVariables false
set_option linter.unusedSimpArgs false
set_option linter.defProp false
namespace Go.Am
variable {P:Program} {hh:String->Bool} {G G0 G1 G':Gh} {w w0 w1 w':World} {σ σ' σ1:St} {env env':Env} {n m m':Nat} {v:AV} {a:Act} {Q R S:Out->Prop}
theorem aGZ(env:Env)(t:Nat):Env.get env t = .undef\/∃ p∈env,p.1=t/\Env.get env t=p.2:=by
 induction env with
 |nil=>exact .inl rfl
 |cons p env ih =>
  obtain⟨k,v⟩:=p;by_cases hk:k=t
  ·exact .inr ⟨(k,v),by simp,hk,by simp[Env.get,hk]⟩
  ·rcases ih with h|⟨p,q1,q2,q3⟩
   ·exact .inl (by simp[Env.get,hk,h])
   ·exact .inr ⟨p,by simp[q1],q2,by simp[Env.get,hk,q3]⟩
theorem TF{c:ACode}(h:dI P hh (.code c env σ) R)(h1:∀ o,R o->∃ env' m,aHV σ o.env o.σ env' m/\Q ⟨o.j,env',o.σ.take m,o.v⟩):dI P hh (.code c env σ) Q:=by
 intro F n cd G w a B f1 f2 f3 f4 f5 f6;have he0:=lZ f4;refine (h f1 f2 (f3.ghost (G':=G.shut σ) rfl rfl rfl rfl) f4.shut (f5.mono fun r e=>e) f6).mono fun e a' w' hp=>?_
 obtain⟨o,G1,q1,q2,q3,q4,q5,q6⟩:=hp;obtain⟨env',m,⟨t1,t2,t3,t4⟩,hq⟩:=h1 o q1;have hkept:aFM σ o.σ m:=⟨t1,t2,t4⟩;have hless:=(pR (m:=m) q4 G.res).toLess;refine⟨_,G1.cut w' o.σ m G.res,hq,q2,⟨q3.1,fun t=>?_⟩,JN f4 q5 q4 hkept,y2 f4 q5 q4 t1,q6.mono fun r e=>e⟩;rcases aGZ env' t with hu|⟨p,p1,p2,p3⟩
 ·show RelV _ _ (Env.get env' t) _
  rw[hu];exact .undef _
 ·show RelV _ _ (Env.get env' t) _
  obtain⟨g1,g2⟩:=t3 p p1;rw[p3];have:=q3.2 t;rw[<-p2,<-g1] at this;rw[<-p2];exact this.less hless g2
theorem PE{c:ACode}(t sz:Nat)(xs:List AV)(ht:Env.get env t = .lit xs true none)(h:dI P hh (.code c ((t,.lit xs false (some σ.length))::env) (σ++[.tok sz xs.length false])) Q):dI P hh (.code c env σ) Q:=by
 intro F n cd G w a B f1 f2 f3 f4 f5 f6;have hr:=f3.2 t;rw[ht] at hr;generalize hu:a.tmps.getD t undef=u at hr;obtain⟨base,cap,rfl,htk,hbn⟩:=lN hr;have hcap:=htk.2.1 rfl;obtain⟨G1,hG1⟩:∃ G1:Gh,G1={ G with tok:=fun i=>if i=σ.length then some (base,xs.length,xs.length) else G.tok i }:=⟨_,rfl⟩;have hlt:∀ {t b n c},G.tok t=some (b,n,c)->t<σ.length:=fun e=>by
  obtain⟨_,_,q,_⟩:=f4.tok _ _ _ _ e;exact (List.getElem?_eq_some_iff.1 q).1
 have he:Evo G w G1 w:=by
  rw[hG1];refine⟨fun _ _ h=>h,fun b L h=>⟨L,h,Nat.le_refl _,fun _ _=>rfl⟩,fun t b n c e=>⟨b,n,c,?_,Nat.le_refl _,fun _=>⟨rfl,rfl⟩⟩,fun _ _ _ _ h=>h,fun _ h=>h,rfl,rfl,rfl,rfl,rfl,Nat.le_refl _,fun _ _ h=>h⟩;have:=hlt e;simp only[show t≠σ.length by omega,if_false];exact e
 have hS1:RelS P hh G1 w (σ++[.tok sz xs.length false]):=by
  have hm:=f4.more [.tok sz xs.length false];rw[hG1] at he ⊢;refine⟨hm.lt,fun id b x e1 e2=>(hm.blk id b x e1 e2).mono he rfl,hm.inj,hm.fresh,hm.lim,fun t' b k c e=>?_,fun b t' e=>?_,hm.defs,hm.base,hm.size,hm.res⟩
  ·by_cases ht':t'=σ.length
   ·subst ht';simp only[if_true,Option.some.injEq,Prod.mk.injEq] at e;obtain⟨rfl,rfl,rfl⟩:=e;exact⟨sz,false,by simp,Nat.le_refl _,fun _=>rfl,fun h=>by cases h⟩
   ·simp only[ht',if_false] at e;exact hm.tok _ _ _ _ e
  ·obtain⟨q1,p,q2⟩:=hm.own b t' e;refine⟨q1,p,?_⟩;obtain⟨b',n',c'⟩:=p;have:=hlt q2;simp only[show t'≠σ.length by omega,if_false];exact q2
 have hv:RelV G1 w (.lit xs false (some σ.length)) (.slice base xs.length cap):=by
  have htk':mT G1 false (some σ.length) xs.length base cap:=by
   refine⟨htk.1,by simp,fun t' e=>?_⟩;cases e;exact⟨base,xs.length,xs.length,by rw[hG1];simp,Nat.le_refl _,fun _ _=>⟨rfl,hcap.symm⟩⟩
  have hr1:=hr.mono he;cases hr1 with
  |nil _ hb=>exact .nil htk' hb
  |lit _ hl hc =>
   refine .lit htk' ⟨hl.lim,fun t' e=>?_,hl.size,hl.cells⟩ hc;have:=hl.own t' e;cases this
 have hE1:eU G1 w n ((t,.lit xs false (some σ.length))::env) a.tmps:=by
  refine⟨f3.1,fun t'=>?_⟩;by_cases htt:t=t'
  ·subst htt;rw[hu];simpa[Env.get] using hv
  ·simpa[Env.get,htt] using (f3.2 t').mono he
 exact (h f1 f2 hE1 hS1 (f5.mono he.defs) f6).mono fun e a w=>rC.lift he
theorem BC:∀ (args:List AV) (k t:Nat),Env.get (fM k args) t=if k<=t then (args[t-k]?).getD .undef else .undef
 |[],k,t=>by simp[fM,Env.get]
 |v::vs,k,t=>by
  simp only[fM,Env.get];by_cases hk:k=t
  ·subst hk;simp
  ·rw[if_neg hk,BC vs (k+1) t];by_cases hlt:k<=t
   ·rw[if_pos hlt,if_pos (by omega),show t-k=(t-(k+1))+1 by omega];rfl
   ·rw[if_neg hlt,if_neg (by omega)]
theorem U3{args:List AV}{vs:Array Value}(h:fX G w args vs)(hn:args.length<=n):eU G w n (fM 0 args) (vs++Array.replicate (n-vs.size) undef):=by
 refine⟨by have:=h.1;simp;omega,fun t=>?_⟩;rw[BC];simp only[Nat.zero_le,if_true,Nat.sub_zero];cases e:args[t]? with
 |none=>simpa using .undef _
 |some x =>
  have ht:t<vs.size:=by rw[h.1];exact (List.getElem?_eq_some_iff.1 e).1
  have:=h.2 t x vs[t] e (Array.getElem?_eq_getElem ht);simpa[Array.getD_eq_getD_getElem?,Array.getElem?_append_left ht,Array.getElem?_eq_getElem ht] using this
theorem E3{fn:Func}{af:AFunc}(h:lV P hh fn=some af):
  ∃ c,fn.body=some c/\comp P hh fn.ntmps c=some af.body/\oE P fn.results.toList=some af.results/\(fn.name== "runtime.NumGoroutine")=false/\af.ntmps=fn.ntmps:=by
 unfold lV at h
 split at h
 ·cases h
 ·rename_i c hb
  split at h
  ·rename_i b rs h1 h2
   split at h
   ·cases h
   ·rename_i hname
    cases h
    exact⟨c,hb,h1,h2,by simpa using hname,rfl⟩
  ·cases h
theorem TV{T:FuncId->Option AFunc}(hT:∀ f af,T f=some af->∃ fn,P.funcs[f]? = some fn/\lV P hh fn=some af){f:FuncId}{args:List AV}{af:AFunc}(hf:T f=some af)(hn:args.length<=af.ntmps)(h:dI P hh (.code af.body (fM 0 args) σ) R)(h1:∀ o,R o->(o.j=none\/o.j=some .ret)/\∃ v,gZ af.results o.env o.σ=some v/\XJ σ o.σ v Q):dI P hh (.call f args σ) Q:=by
 obtain⟨fn,hfn,hcomp⟩:=hT f af hf
 obtain⟨c,hb,hc,hres,hname,hnt⟩:=E3 hcomp
 have hname':¬fn.name = "runtime.NumGoroutine":=by simpa using hname
 refine⟨fun vs w=>by simp[callFunc,hfn,hname',hb],fun {G w vs} ha hS=>?_⟩
 refine callsIn_of_wp_marks hfn hb trivial (wpIn_mono (h (F:=Fence.wide) (cd:=c) (n:=fn.ntmps) (G:=G.shut σ) (w:=w) (a:={ tmps:=vs++Array.replicate (fn.ntmps-vs.size) undef,defers:=[] }) (B:=w.heap.size) (.inl rfl) hc ((U3 ha (by omega)).ghost rfl rfl rfl rfl) hS.shut
  ⟨[],rfl,List.nodup_nil,fun r hr=>by cases hr⟩ (Nat.le_refl _)).wpIn fun e a' w' hp=>?_)
 obtain⟨o,G1,q1,rfl,q3,q4,q5,rs,m1,m2,m3⟩:=hp
 obtain⟨hj,v,hv,hl⟩:=h1 o q1
 have hleave:LeavesInM Fence.wide 0 P fn a'.tmps (fun e w'=>∃ r G' u,e = .returned u/\Q r/\RelV G' w' r.v u/\RelS P hh G' w' r.σ/\Evo G w G' w') a'.defers .returning w':=by
  rw[m1]
  refine A9 rs m2 (fun r hr=>⟨(m3 r hr).1,fun e=>?_⟩) q4 q3 q5 fun G2 w2 s1 s2 s3=>?_
  ·have:=(Array.getElem?_eq_some_iff.1 (hS.defs r e).1).1
   have:=(m3 r hr).2
   omega
  ·obtain⟨u,r1,r2⟩:=E0 s2 s1 hres hv
   obtain⟨o2,G3,t1,t2,t3,t4⟩:=KA hS s3 s1 r2 hl
   exact⟨u,r1,o2,G3,u,rfl,t1,t2,t3,t4⟩
 rcases hj with hj|hj<;>rw[hj]<;>exact hleave
theorem RelS.newDef(h:RelS P hh G w σ):RelS P hh { G with defs:=fun x=>G.defs x\/x=w.heap.size } (w.alloc (.deferred (some []))) σ /\
  Evo G w { G with defs:=fun x=>G.defs x\/x=w.heap.size } (w.alloc (.deferred (some []))):=by
 have h1:=h.alloc (.deferred (some []));have he:=lJ h (.deferred (some []))
 refine⟨⟨h1.lt,fun id b x e1 e2=>(h1.blk id b x e1 e2).ghost rfl rfl rfl rfl,h1.inj,fun id b e=>?_,h1.lim,h1.tok,h1.own,fun r e=>?_,h1.base,h1.size,h1.res⟩,
  ⟨he.loc,he.lim,he.tok,he.own,fun r e=>.inl e,he.B0,he.h0,he.os,he.tape,he.output,he.size,he.res⟩⟩
 ·obtain⟨q1,q2,q3,q4⟩:=h1.fresh id b e;refine⟨q1,q2,q3,fun hd=>hd.elim q4 fun e'=>?_⟩;have:=(h.fresh id b e).2.1;omega
 ·rcases e with e|rfl
  ·exact h1.defs r e
  ·refine⟨by rw[eO,if_pos rfl],h.size,?_⟩;cases e:G.lim w.heap.size with
   |none=>rfl
   |some L=>have:=sZ h e;omega
theorem vD(w:World)(g:Nat)(o:Obj):Part g w (w.putObj g o):=lF w g o
theorem C3{f:AOpd}{g:FuncId}{first cap:List AV}{ps:List Nat}{x y:ACode}(hf:f.ev env = .func g first cap)(h:dI P hh (.call g (first++[.yield σ.length]++cap) (σ++[.loop .ready none env ps x y])) R)(h1:∀ o,R o->∃ st pend env' ps' a' b',o.σ[σ.length]? = some (.loop st pend env' ps' a' b')/\st≠.busy/\Q ⟨pend,env,o.σ.set σ.length .dead,.undef⟩):dI P hh (.code (.rangeFunc f ps x y) env σ) Q:=by
 intro F n cd G w a B f1 f2 f3 f4 f5 f6;obtain⟨fo,pa,c,d,rfl,c1,c2,c3,rfl,c5,c6,c7⟩:=PG f2;have hF:F=Fence.wide:=by
  rcases f1 with h|⟨l,_,h⟩
  ·exact h
  ·simp[qE] at h
 subst hF;refine wpIn_rangeFunc fun fn _=>?_
 obtain⟨hD,heD⟩:=f4.newDef;obtain⟨GD,hGD⟩:∃ GD:Gh,GD={ G with defs:=fun z=>G.defs z\/z=w.heap.size }:=⟨_,rfl⟩;rw[<-hGD] at hD heD;obtain⟨rec,hrec⟩:∃ rec:Loop,rec={ state:=.ready,pending:=none,fn,tmps:=a.tmps,params:=pa,assign:=c,body:=d,defers:=w.heap.size }:=⟨_,rfl⟩;have hED:=f3.mono heD;obtain⟨hL,heL⟩:=vU (o:=.loop rec) hD (x:=.loop .ready none env pa.toList x y) fun G' he' =>
  ⟨rec,n,by rw[eO,if_pos rfl],by rw[hrec];rfl,by rw[hrec];rfl,by rw[hrec],by rw[hrec];exact c2,by rw[hrec];exact c3,c5,by rw[show rec.tmps=a.tmps by rw[hrec]];exact hED.mono he',by rw[hrec];exact⟨c6,c7⟩⟩
 rw[show (w.alloc (.deferred (some []))).heap.size=w.heap.size+1 from by simp] at hL heL;have hr:=cY (a:=a) c1 f3;rw[hf] at hr;have heGL:=heD.trans heL;have hr2:=hr.mono heGL;generalize hfu:a.eval fo=fu at hr2;cases hr2 with
 |@func _ _ _ first' cap' e1 e2 e3 e4 =>
  refine⟨w.heap.size+1,[DH w.heap.size],(w.alloc (.deferred (some []))).alloc (.loop rec),{ target:=.fn (.func g) cap',args:=first'++#[.func (.yield (w.heap.size+1)) #[] #[]] },(w.alloc (.deferred (some []))).alloc (.loop rec),g,
   first'++#[.func (.yield (w.heap.size+1)) #[] #[]]++cap',(w.alloc (.deferred (some []))).alloc (.loop rec),?_,?_,fun _ _=>trivial,?_,(fun h0=>by cases h0),?_⟩
  ·rw[hrec];exact run_enterLoop_outer _ _ _ _ _
  ·simp only[resolve,rangeCall];rw[hfu];simp[Deferred.ofValue,Act.eval]
  ·simp[invoke,h.1]
  ·have hargs:fX (GD.withLoc σ.length (w.heap.size+1)) ((w.alloc (.deferred (some []))).alloc (.loop rec)) (first++[.yield σ.length]++cap) (first'++#[.func (.yield (w.heap.size+1)) #[] #[]]++cap'):=by
    refine fX.append (fX.append ⟨e1,e3⟩ ⟨rfl,fun i z u q1 q2=>?_⟩) ⟨e2,e4⟩
    match i with
    |0=>simp at q1 q2;subst q1;subst q2;exact .yield eV
    |_+1=>simp at q1
   refine (h.2 hargs hL).mono fun e w3 hr3=>?_
   obtain⟨o,G3,u,rfl,q1,q2,q3,q4⟩:=hr3;obtain⟨st,pend,env',ps',a',b',s1,s2,s3⟩:=h1 o q1;have hloc:G3.loc σ.length=some (w.heap.size+1):=q4.loc _ _ eV;obtain⟨l,k,l1,l2,l3,l4⟩:=q3.blk _ _ _ hloc s1;have hst:l.state≠.busy:=by
    rw[l2];cases st<;>simp[aL4] at s2 ⊢
   have hend:=run_endLoop (P:=P) l1 hst;have hw:=q3.write (y:=.dead) hloc (vD w3 (w.heap.size+1) (.loop { l with state:=.exhausted })) s1 (fun _ _ _ e=>by cases e) trivial;refine⟨_,_,hend,?_⟩;have hevo:=(heGL.trans q4).trans hw.2;have hmarks:rI G3 B ({ a with defers:=[DH w.heap.size]++a.defers }:Act).defers:=by
    obtain⟨rs,m1,m2,m3⟩:=f5;refine⟨w.heap.size::rs,by simp[m1],List.nodup_cons.2 ⟨fun hm=>?_,m2⟩,fun r hr=>?_⟩
    ·have:=(Array.getElem?_eq_some_iff.1 (f4.defs _ (m3 _ hm).1).1).1;omega
    ·rcases List.mem_cons.1 hr with rfl|hr
     ·exact⟨(heL.trans q4).defs _ (by rw[hGD];exact .inr rfl),f6⟩
     ·exact⟨hevo.defs _ (m3 r hr).1,(m3 r hr).2⟩
   have hpost:rC P hh G w n B Q (SI pend) { a with defers:=[DH w.heap.size]++a.defers } (w3.putObj (w.heap.size+1) (.loop { l with state:=.exhausted })) :=
    ⟨_,G3,s3,rfl,f3.mono hevo,hw.1,hevo,hmarks⟩
   rw[l3] at hpost ⊢;cases pend with
   |none=>exact hpost
   |some j =>
    cases j with
    |ret=>exact wpIn_ret hpost
    |exit id=>exact wpIn_exit hpost
theorem ET:∀ {ps:List Nat} {args:List AV} {us:List Value} {env:Env} {tmps:Array Value},ps.length=args.length->us.length=args.length->(∀ p∈ps,p<n) ->
  (∀ (i:Nat) (x:AV) (u:Value),args[i]? = some x->us[i]? = some u->RelV G w x u)->eU G w n env tmps ->
  eU G w n (i6 env ps args) ((ps.zip us).foldl (fun tmps (t,a)=>tmps.setIfInBounds t a) tmps)
 |[],[],us,env,tmps,_,_,_,_,hE=>by simpa[i6] using hE
 |[],_::_,us,env,tmps,h,_,_,_,_=>by simp at h
 |_::_,[],us,env,tmps,h,_,_,_,_=>by simp at h
 |p::ps,v::args,[],env,tmps,_,h,_,_,_=>by simp at h
 |p::ps,v::args,u::us,env,tmps,h1,h2,h3,h4,hE=>by
  simp only[i6,List.zip_cons_cons,List.foldl_cons];refine ET (by simpa using h1) (by simpa using h2) (fun q hq=>h3 q (List.mem_cons_of_mem _ hq)) (fun i x u e1 e2=>h4 (i+1) x u (by simpa using e1) (by simpa using e2)) ?_;exact hE.put (a:={ tmps:=tmps,defers:=[] }) (dst:=some p) (fun d e=>by cases e;exact h3 p (by simp)) (h4 0 v u rfl rfl)
theorem KS{r:Nat}{o o':Obj}(hb:w.heap[r]? = some o):(w.putObj r o').heap[r]? = some o':=u7 hb
theorem NN{id:Nat}{args:List AV}{ps:List Nat}{x y:ACode}(hl:σ[id]? = some (.loop .ready none env ps x y))(hn:ps.length=args.length)(h:dI P hh (.code x (i6 env ps args) σ) R)(h0:∀ o,R o->o.j=none/\o.σ[id]? = some (.loop .ready none env ps x y))(h1:∀ o,R o->dI P hh (.code y o.env (o.σ.set id (.loop .busy none env ps x y))) S)(h2:∀ o,S o->o.σ[id]? = some (.loop .busy none env ps x y)/\Q ⟨none,[],o.σ.set id (.loop (if o.j=none then .ready else .done) o.j env ps x y),.bool (decide (o.j=none))⟩):
  dI P hh (.callv (.yield id) args σ) Q:=by
 intro G w fv vs hf ha hS;cases hf with
 |@yield _ b hloc =>
  obtain⟨l,n,l1,l2,l3,l4,l5,l6,l7,l8,l9,l10⟩:=hS.blk _ _ _ hloc hl;have hy:=run_yield (P:=P) (args:=#[]++vs) l1 (by have:=ha.1;rw[<-l4] at hn;simp at hn ⊢;omega);refine⟨{ target:=.fn (.yield b) #[],args:=#[]++vs },_,w,by simp[Deferred.ofValue],by simp only[invoke];exact hy,fun {F} o a next Qx hF hnext=>?_⟩;rw[Oper.uponIn_round];refine⟨fun e=>absurd e hF.depth,hF.round ?_⟩;have htm:((l.params.zip (#[]++vs)).foldl (fun tmps (t,a)=>tmps.setIfInBounds t a) l.tmps)=((ps.zip vs.toList).foldl (fun tmps (t,a)=>tmps.setIfInBounds t a) l.tmps):=by
   rw[<-Array.foldl_toList,Array.toList_zip,<-l4];simp
  rw[htm];have hE:=ET (G:=G) (w:=w) (env:=env) (tmps:=l.tmps) hn (us:=vs.toList) (by simpa using ha.1) l7 (fun i z u e1 e2=>ha.2 i z u e1 (by simpa using e2)) l8
  refine roundIn_of_wpIn trivial (wpIn_mono (h (F:=Fence.wide.inRound b) (cd:=l.assign) (n:=n) (G:=G) (w:=w) (a:={ tmps:=(ps.zip vs.toList).foldl (fun tmps (t,a)=>tmps.setIfInBounds t a) l.tmps,defers:=[] }) (B:=w.heap.size)
   (.inr ⟨b,rfl,l9⟩) l5 hE hS ⟨[],rfl,List.nodup_nil,fun r hr=>by cases hr⟩ (Nat.le_refl _)).wpIn fun e a1 w1 hp=>?_)
  obtain⟨o1,G1,q1,rfl,q3,q4,q5,q6⟩:=hp;obtain⟨j0,s0⟩:=h0 o1 q1;rw[j0];have hloc1:=q5.loc _ _ hloc;obtain⟨r,n1,r1,r2,r3,r4,r5,r6,r7,r8,r9,r10⟩:=q4.blk _ _ _ hloc1 s0;refine⟨_,run_beginRound r1 r2,?_⟩;have hp1:=vD w1 b (.loop { r with state:=.busy });have hev1:Evo G1 w1 G1 (w1.putObj b (.loop { r with state:=.busy })):=pS hp1 (q4.fresh _ _ hloc1).2.2.1;have hw1:=q4.write (y:=.loop .busy none env ps x y) hloc1 hp1 s0 (fun _ _ _ e=>by cases e)
   ⟨{ r with state:=.busy },n1,KS r1,rfl,r3,r4,r5,r6,r7,r8.mono hev1,r9,r10⟩
  -- the body is the record's,from the first look on
  have hbody:comp P hh n l.body=some y:=l6
  refine wpIn_mono (h1 o1 q1 (F:=Fence.wide.inRound b) (cd:=l.body) (n:=n) (G:=G1) (w:=w1.putObj b (.loop { r with state:=.busy })) (a:=a1) (B:=w.heap.size)
   (.inr ⟨b,rfl,l10⟩) hbody (q3.mono hev1) hw1.1 (q6.mono hev1.defs) (Nat.le_trans q5.size hev1.size)).wpIn fun e2 a2 w2 hp2=>?_
  obtain⟨o2,G2,p1,rfl,p3,p4,p5,p6⟩:=hp2;obtain⟨t0,tq⟩:=h2 o2 p1;have hev2:=(q5.trans hev1).trans p5;have hloc2:=hev2.loc _ _ hloc;obtain⟨z,n2,z1,z2,z3,z4,z5,z6,z7,z8,z9,z10⟩:=p4.blk _ _ _ hloc2 t0;have fin:∀ (jump:Option Code),jump=o2.j.map M9->∃ v w',(Instr.endRound b jump).run P w2 = .ok v w'/\∃ v',Ending.returned v = .returned v'/\next (a.put o.dst v') w':=by
   intro jump hj;have hp2:=vD w2 b (.loop { z with state:=if jump.isNone then .ready else .done,pending:=jump });have hev3:Evo G2 w2 G2 (w2.putObj b (.loop { z with state:=if jump.isNone then .ready else .done,pending:=jump })):=pS hp2 (p4.fresh _ _ hloc2).2.2.1;have hnone:jump.isNone=decide (o2.j=none):=by rw[hj];cases o2.j<;>rfl
   have hw2:=p4.write (y:=.loop (if o2.j=none then .ready else .done) o2.j env ps x y) hloc2 hp2 t0 (fun _ _ _ e=>by cases e)
    ⟨{ z with state:=if jump.isNone then .ready else .done,pending:=jump },n2,KS z1,by
     simp only[hnone]
     by_cases hq:o2.j=none<;>simp[hq,aL4],hj,z4,z5,z6,z7,z8.mono hev3,z9,z10⟩
   refine⟨_,_,run_endRound jump z1,_,rfl,?_⟩;refine hnext _ G2 _ (.bool jump.isNone) tq ?_ hw2.1 (hev2.trans hev3);rw[hnone];exact .bool _
  cases hj:o2.j with
  |none =>
   obtain⟨v,w3,g1,v',g2,g3⟩:=fin none (by rw[hj];rfl);cases g2;exact⟨v,w3,g1,g3⟩
  |some j =>
   cases j with
   |ret =>
    obtain⟨v,w3,g1,v',g2,g3⟩:=fin (some .ret) (by rw[hj];rfl);cases g2;exact⟨v,w3,g1,g3⟩
   |exit id' =>
    obtain⟨v,w3,g1,v',g2,g3⟩:=fin (some (.exit id')) (by rw[hj];rfl);cases g2;exact⟨v,w3,g1,g3⟩
theorem eU.same{tmps:Array Value}(h:eU G w n env' tmps)(he:∀ t,Env.get env t=Env.get env' t):eU G w n env tmps:=⟨h.1,fun t=>by rw[he];exact h.2 t⟩
theorem OG{c:ACode}(he:∀ t,Env.get env t=Env.get env' t)(h:dI P hh (.code c env' σ) Q):dI P hh (.code c env σ) Q:=by
 intro F n cd G w a B f1 f2 f3 f4 f5 f6;exact h f1 f2 (f3.same fun t=>(he t).symm) f4 f5 f6
theorem M8{os:List AOper}(he:∀ t,Env.get env t=Env.get env' t)(h:dI P hh (.ops os env' σ) Q):dI P hh (.ops os env σ) Q:=by
 intro F n ops l G w a B R f1 f2 f3 f4 f5 f6;exact h f1 f2 (f3.same fun t=>(he t).symm) f4 f5 f6
theorem SE{c:ACode}(he:∀ t,Env.get env' t = .undef\/Env.get env' t=Env.get env t\/Env.get env' t=clr (Env.get env t))(h:dI P hh (.code c env' σ) Q):dI P hh (.code c env σ) Q:=by
 intro F n cd G w a B f1 f2 f3 f4 f5 f6;refine h f1 f2 ⟨f3.1,fun t=>?_⟩ f4 f5 f6;rcases he t with e|e|e
 ·rw[e];exact .undef _
 ·rw[e];exact f3.2 t
 ·rw[e];exact (f3.2 t).clr
theorem aNB{T:FuncId->Option AFunc}(hT:∀ f af,T f=some af->∃ fn,P.funcs[f]? = some fn/\lV P hh fn=some af){t:Task}(h:Run T t Q):dI P hh t Q:=by
 induction h with
 |mono _ hq ih=>exact SJ ih hq
 |skip h=>exact TA h
 |jump h=>exact TN h
 |seq _ _ h2 ih ih1=>exact X7 ih ih1 h2
 |cond b hc _ ih=>exact TZ b hc ih
 |block _ h1 ih=>exact O6 ih h1
 |loop _ _ h2 ih ih1=>exact UB ih ih1 h2
 |scope _ ih=>exact O4 ih
 |reg _ ih=>exact Z7 ih fun _ _=>trivial
 |dreg _ ih=>exact S7 ih
 |rangeFunc hf _ h1 ih=>exact C3 hf ih h1
 |trim _ h1 ih=>exact TF ih h1
 |trim2 _ h1 ih=>exact NA ih h1
 |frame hf h0 _ h1 ih=>exact O5 hf h0 ih h1
 |frameS hf h0 _ h1 ih=>exact KZ hf h0 ih h1
 |chainNil h=>exact E1 h
 |chainCons _ _ h2 ih ih1=>exact CM ih ih1 h2
 |chain _ h1 h2 _ ih ih1=>exact MW ih h1 h2 ih1
 |ghost t sz xs ht _ ih=>exact PE t sz xs ht ih
 |reenv he _ ih=>exact OG he ih
 |weak he _ ih=>exact SE he ih
 |reops he _ ih=>exact M8 he ih
 |nil h=>exact XA h
 |off hw _ ih=>exact aBT hw ih
 |step hw ha _ ih=>exact RR hw ha ih
 |stepc hw ho _ _ ih ih1=>exact OL hw ho ih ih1
 |stepm hw ho hx hl he hn _ _ ih0 ih1=>exact M4 hw ho hx hl he hn ih0 ih1
 |dnil hr h=>exact R1 hr h
 |doff hw _ ih=>exact UI hw ih
 |dalloc hw ho _ ih=>exact JJ hw ho ih
 |dpure hw hk ha _ ih=>exact NU hw hk ha ih
 |dread hw hk ha _ ih=>exact OE hw hk ih
 |dact hw hk ha _ ih=>exact TQ hw hk ha ih
 |dcall hw ho _ _ ih ih1=>exact N5 hw ho ih ih1
 |callf _ ih=>exact EY ih
 |round hl hn _ h0 _ h2 ih ih1=>exact NN hl hn ih h0 ih1 h2
 |call hf hn _ h1 ih=>exact TV hT hf hn ih h1
end Go.Am
namespace Go.Am
variable {P:Program} {hh:String->Bool}
def Gh.start(w:World):Gh:=⟨fun _=>none,fun _=>none,fun _=>none,fun _=>none,fun _=>False,w.heap.size,w.heap,fun _=>none⟩
end Go.Am
namespace Go.Am
open Go.ChangeShapes Go.WideShapes Go.ChangeAt Go.RowKit
variable {P:Program} {hh:String->Bool} {H:Type} {enc:TypeId×Value->H} {w:World} {sp:Nat->Bool} {held:Bool}
def mkV(P:Program)(t:TypeId)(cs:List AV):AV:=match P.underlying t with
 |some (.struct _)=>.agg cs
 |some (.array _ _)=>.agg cs
 |_=>cs.headD .undef
def Typ(P:Program):Nat->TypeId->List AV->Prop
 |0,_,_=>False
 |n+1,t,cs =>
  match P.underlying t with
  |some .bool=>∃ b,cs=[.bool b]
  |some (.int k)=>∃ m,cs=[.int k m]/\(Lit.int k m).wf=true
  |some .string=>∃ s:ByteArray,cs=[.str s]/\s.size<=maxLen
  |some (.slice e)=>∃ ys:List (List AV),cs=[.lit (ys.map (mkV P e)) false none]/\(ys.length<=maxLen/\ys.length*P.bytesOf e<=reachBytes)/\∀ y∈ys,Typ P n e y
  |some (.struct fs)=>∃ parts:List (List AV),cs=parts.flatten/\parts.length=fs.toList.length/\∀ (i:Nat) f p,fs.toList[i]? = some f->parts[i]? = some p->Typ P n f.type p
  |some (.array k e)=>∃ parts:List (List AV),cs=parts.flatten/\parts.length=k/\∀ p∈parts,Typ P n e p
  |_=>False
def NH(P:Program):Nat->TypeId->Bool
 |0,_=>false
 |n+1,t =>
  match P.underlying t with
  |some .bool|some (.int _)|some .string=>true
  |some (.slice e)=>decide (0<P.cellsOf e)&&NH P n e
  |some (.struct fs)=>fs.toList.all fun f=>NH P n f.type
  |some (.array _ e)=>NH P n e
  |_=>false
def aCL(w:World)(b:Nat):Option Nat:=match w.heap[b]? with
 |some (.cells vs _ _)=>some vs.size
 |_=>none
noncomputable def C2(w:World):Gh:=(Gh.start w).fresh0 w (aCL w) fun b=>∃ L,aCL w b=some L
theorem XH(w:World):RelS P hh (C2 w) w []:=wU fun b L e=>by
 refine⟨⟨L,e⟩,?_⟩;unfold aCL at e;split at e
 ·rename_i vs T fr h;simp only[Option.some.injEq] at e;exact⟨vs,T,fr,h,by omega⟩
 ·cases e
def y6(G:Gh)(w:World)(az:List AV)(cs:List Value):Prop:=az.length=cs.length/\∀ (i:Nat) a v,az[i]? = some a->cs[i]? = some v->RelV G w a v
theorem y6.nil{G:Gh}:y6 G w [] []:=⟨rfl,by simp⟩
theorem y6.app{G:Gh}{az bs:List AV}{cs ds:List Value}(h:y6 G w az cs)(k:y6 G w bs ds):y6 G w (az++bs) (cs++ds):=by
 refine⟨by simp[h.1,k.1],fun i a v e1 e2=>?_⟩;by_cases hi:i<az.length
 ·rw[List.getElem?_append_left hi] at e1;rw[List.getElem?_append_left (by rw[<-h.1];exact hi)] at e2;exact h.2 i a v e1 e2
 ·rw[List.getElem?_append_right (by omega)] at e1;rw[List.getElem?_append_right (by rw[<-h.1];omega),<-h.1] at e2;exact k.2 _ a v e1 e2
theorem y6.one{G:Gh}{a:AV}{v:Value}(h:RelV G w a v):y6 G w [a] [v]:=⟨rfl,fun i x u e1 e2=>by
 cases i with
 |zero=>simp at e1 e2;subst e1;subst e2;exact h
 |succ i=>simp at e1⟩
theorem T9{n:Nat}{t:TypeId}{cs:List AV}(h:Typ P n t cs):(mkV P t cs).cells=cs:=by
 cases n with
 |zero=>exact h.elim
 |succ n =>
  simp only[Typ] at h;unfold mkV;split at h
  ·rename_i hu;rw[hu];obtain⟨b,rfl⟩:=h;rfl
  ·rename_i hu;rw[hu];obtain⟨b,rfl,_⟩:=h;rfl
  ·rename_i hu;rw[hu];obtain⟨b,rfl,_⟩:=h;rfl
  ·rename_i hu;rw[hu];obtain⟨b,rfl,_⟩:=h;rfl
  ·rename_i hu;rw[hu];rfl
  ·rename_i hu;rw[hu];rfl
  ·exact h.elim
theorem VD{a:Addr}{v:Value}(h:w.cell? a=some v)(n:Nat):a.add n=⟨a.block,a.off+n,none⟩:=by
 have hs:a.spot=none:=by
  unfold World.cell? at h;split at h
  ·split at h
   ·cases h
   ·rename_i hs;simpa using hs
  ·cases h
 obtain⟨b,o,s⟩:=a;simp only at hs;subst hs;unfold Addr.add;split
 ·rename_i h0;simp[h0]
 ·rfl
theorem aFS{b o:Nat}{v:Value}(h:w.cell? ⟨b,o,none⟩=some v):∃ L,aCL w b=some L/\o<L:=by
 unfold World.cell? at h;split at h
 ·rename_i c T fr hb;refine⟨c.size,by simp only at hb;simp[aCL,hb],?_⟩;simp at h;exact (Array.getElem?_eq_some_iff.1 h).1
 ·cases h
theorem aB4{G:Gh}{n:Nat}{cs:List Value}:∀ (fl:List Field) (o:Nat),(∀ (j:Nat) f,fl[j]? = some f->f.offset=o+((fl.take j).map fun f=>P.cellsOf f.type).sum)->cs.length=o+(fl.map fun f=>P.cellsOf f.type).sum ->
  (∀ f∈fl,∃ az,Typ P n f.type az/\y6 G w az ((cs.drop f.offset).take (P.cellsOf f.type))) ->
  ∃ parts:List (List AV),parts.length=fl.length/\(∀ (i:Nat) f p,fl[i]? = some f->parts[i]? = some p->Typ P n f.type p)/\y6 G w parts.flatten (cs.drop o)
 |[],o,_,hl,_=>⟨[],rfl,by simp,by
   have:cs.drop o=[]:=List.drop_of_length_le (by simp at hl;omega)
   rw[this];exact .nil⟩
 |f::fl,o,ho,hl,ht=>by
  have h0:=ho 0 f rfl;simp only[List.take_zero,List.map_nil,List.sum_nil,Nat.add_zero] at h0;simp only[List.map_cons,List.sum_cons] at hl;obtain⟨az,h1,h2⟩:=ht f (by simp)
  obtain⟨parts,q1,q2,q3⟩:=aB4 fl (o+P.cellsOf f.type) (fun j g hj=>by
   have:=ho (j+1) g (by simpa using hj);simp only[List.take_succ_cons,List.map_cons,List.sum_cons] at this
   omega) (by omega) fun g hg=>ht g (List.mem_cons_of_mem _ hg)
  refine⟨az::parts,by simp[q1],fun i g p e1 e2=>?_,?_⟩
  ·cases i with
   |zero=>simp at e1 e2;subst e1;subst e2;exact h1
   |succ i=>exact q2 i g p (by simpa using e1) (by simpa using e2)
  ·rw[List.flatten_cons];have e:cs.drop o=(cs.drop o).take (P.cellsOf f.type)++cs.drop (o+P.cellsOf f.type):=by
    rw[<-List.drop_drop,List.take_append_drop]
   rw[e];rw[h0] at h2;exact h2.app q3
theorem aHT{G:Gh}{m:Nat}{e:TypeId}{cs:List Value}:∀ (n o:Nat),cs.length=o+n*P.cellsOf e ->
  (∀ i,i<n->∃ az,Typ P m e az/\y6 G w az ((cs.drop (o+i*P.cellsOf e)).take (P.cellsOf e)))->∃ parts:List (List AV),parts.length=n/\(∀ p∈parts,Typ P m e p)/\y6 G w parts.flatten (cs.drop o)
 |0,o,hl,_=>⟨[],rfl,by simp,by
   have:cs.drop o=[]:=List.drop_of_length_le (by simp at hl;omega)
   rw[this];exact .nil⟩
 |n+1,o,hl,ht=>by
  obtain⟨az,h1,h2⟩:=ht 0 (by omega);rw[Nat.zero_mul,Nat.add_zero] at h2;rw[Nat.add_mul,Nat.one_mul] at hl;obtain⟨parts,q1,q2,q3⟩:=aHT (e:=e) (cs:=cs) (m:=m) n (o+P.cellsOf e) (by omega) fun i hi=>by
   obtain⟨az,k1,k2⟩:=ht (i+1) (by omega);rw[Nat.add_mul,Nat.one_mul,Nat.add_comm (i*_),<-Nat.add_assoc] at k2;exact⟨az,k1,k2⟩
  refine⟨az::parts,by simp[q1],fun p hp=>?_,?_⟩
  ·rcases List.mem_cons.1 hp with rfl|hp
   ·exact h1
   ·exact q2 p hp
  ·rw[List.flatten_cons];have e1:cs.drop o=(cs.drop o).take (P.cellsOf e)++cs.drop (o+P.cellsOf e):=by
    rw[<-List.drop_drop,List.take_append_drop]
   rw[e1];exact h2.app q3
theorem BQ{α:Type}{Q:Nat->α->Prop}:∀ n,(∀ i,i<n->∃ x,Q i x)->∃ l:List α,l.length=n/\∀ (i:Nat) x,l[i]? = some x->Q i x
 |0,_=>⟨[],rfl,by simp⟩
 |n+1,h=>by
  obtain⟨l,h1,h2⟩:=BQ n fun i hi=>h i (by omega)
  obtain⟨x,hx⟩:=h n (by omega);refine⟨l++[x],by simp[h1],fun i y e=>?_⟩;by_cases hi:i<l.length
  ·rw[List.getElem?_append_left hi] at e;exact h2 i y e
  ·rw[List.getElem?_append_right (by omega)] at e;have:i-l.length=0:=by
    by_cases h0:i-l.length=0
    ·exact h0
    ·rw[List.getElem?_eq_none (by simp;omega)] at e;cases e
   rw[this] at e;simp at e;subst e;rw[show i=n by omega];exact hx
theorem qI(hl:laidOutB P=true):∀ (n m:Nat) (t:TypeId) (cs:List Value) (x:DataW H×List MemPlace),t<P.types.size->NH P n t=true->DataW.trod enc P w 0 sp held m t cs=some x->(∀ k∈x.1.weights P t,k<=reachBytes) ->
  ∃ az,Typ P n t az/\y6 (C2 w) w az cs
 |0,m,t,cs,x,_,ho,_,_=>by simp[NH] at ho
 |n+1,m,t,cs,x,ht,ho,h,hwt=>by
  simp only[NH] at ho;split at ho
  ·rename_i hu;obtain⟨b,rfl,_⟩:=DataW.trod_bool hu h;exact⟨[.bool b],by simp only[Typ,hu];exact⟨b,rfl⟩,.one (.bool b)⟩
  ·rename_i k hu;obtain⟨b,rfl,_,hw⟩:=DataW.trod_int hu h;exact⟨[.int k b],by simp only[Typ,hu];exact⟨b,rfl,hw⟩,.one (.int k b)⟩
  ·rename_i hu;obtain⟨s,rfl,_,hs⟩:=DataW.trod_string hu h;exact⟨[.str s],by simp only[Typ,hu];exact⟨s,rfl,hs⟩,.one (.str s)⟩
  ·rename_i e hu;simp only[Bool.and_eq_true,decide_eq_true_eq] at ho;rcases DataW.trod_slice hu h with⟨rfl,_⟩|⟨a,len,cap,elems,rest,m',_,rfl,hxe,_,hlc,hcm,hel,hei,_,_⟩
   ·refine⟨[.lit [] false none],by simp only[Typ,hu];exact⟨[],rfl,⟨by simp,by simp⟩,by simp⟩,.one (.nil ⟨Nat.le_refl _,(fun e=>by cases e),(fun t e=>by cases e)⟩ fun _=>rfl)⟩
   ·
    have hws:∀ k∈x.1.weights P t,k<=reachBytes:=hwt;rw[hxe] at hws;simp only[DataW.weights,hu,List.mem_cons,List.mem_append,List.length_map] at hws;have hwl:len*P.bytesOf e<=reachBytes:=by
     have h1:=hws _ (.inl rfl);rw[hel] at h1;exact Nat.le_trans (Nat.mul_le_mul_right _ (Nat.le_add_right _ _)) h1
    have hwe:∀ (d:DataW H),d∈elems.map (·.1)->∀ k∈d.weights P e,k<=reachBytes:=by
     have key:∀ (l:List (DataW H)) (d:DataW H),d∈l->∀ k∈d.weights P e,k∈DataW.weightsAll P e l:=by
      intro l
      induction l with
      |nil=>intro d hd;cases hd
      |cons a l ih =>
       intro d hd k hk;simp only[DataW.weightsAll,List.mem_append];rcases List.mem_cons.1 hd with rfl|hd
       ·exact .inl hk
       ·exact .inr (ih d hd k hk)
     exact fun d hd k hk=>hws k (.inr (.inl (key _ d hd k hk)))
    have hel2:∀ i,i<len->∃ y,Typ P n e y/\∃ vs,w.cells? 0 (a.add (i*P.cellsOf e)) (P.cellsOf e)=some vs/\y6 (C2 w) w y vs:=by
     intro i hi;have h1:=hei i hi;rw[List.getElem?_eq_getElem (by omega),Option.bind_eq_some_iff] at h1;obtain⟨vs,q1,q2⟩:=h1;obtain⟨y,q3,q4⟩:=qI hl n m' e vs _ (kid_slice hl ht hu) ho.2 q2 (hwe _ (List.mem_map.2 ⟨_,List.getElem_mem (by omega),rfl⟩));exact⟨y,q3,vs,q1,q4⟩
    obtain⟨ys,hyl,hys⟩:=BQ len hel2
    refine⟨[.lit (ys.map (mkV P e)) false none],by
     simp only[Typ,hu];refine⟨ys,rfl,⟨by omega,by rw[hyl];exact hwl⟩,fun y hy=>?_⟩;obtain⟨i,hi⟩:=List.getElem?_of_mem hy
     exact (hys i y hi).1,.one ?_⟩
    by_cases h0:len=0
    ·subst h0;obtain rfl:ys=[]:=List.eq_nil_of_length_eq_zero hyl;exact .nil ⟨Nat.zero_le _,(fun e=>by cases e),(fun t e=>by cases e)⟩ fun e=>by cases e
    ·
     have hcell:∀ i j,i<len->j<P.cellsOf e->∃ v,w.cell? ((a.add (i*P.cellsOf e)).add j)=some v:=by
      intro i j hi hj;obtain⟨y,_,vs,q1,_⟩:=hel2 i hi;simp only[World.cells?,Nat.zero_le,if_true] at q1;have hlen:=mapM_some_length q1;have:=mapM_some_get q1 j j (by simp[hj]);rw[List.length_range] at hlen;rw[List.getElem?_eq_getElem (by omega)] at this;exact⟨_,this⟩
     obtain⟨v0,hv0⟩:=hcell 0 0 (by omega) ho.1;rw[Nat.zero_mul] at hv0;have ha0:a.add 0=a:=by simp[Addr.add]
     rw[ha0,ha0] at hv0;have hplain:∀ i,a.add i=⟨a.block,a.off+i,none⟩:=VD hv0;have hae:a=⟨a.block,a.off,none⟩:=by have:=hplain 0;rw[ha0] at this;simpa using this
     have hplain2:∀ i j,(a.add i).add j=⟨a.block,a.off+(i+j),none⟩:=by
      intro i j;rw[hplain];unfold Addr.add;split
      ·rename_i h;simp[h]
      ·simp[Nat.add_assoc]
     have hcell2:∀ i j,i<len->j<P.cellsOf e->∃ v,w.cell? ⟨a.block,a.off+(i*P.cellsOf e+j),none⟩=some v:=by
      intro i j hi hj;have:=hcell i j hi hj;rw[hplain2] at this;exact this
     rw[hae,show len=(ys.map (mkV P e)).length by simp[hyl]];have hsz:∀ (i:Nat) (x:AV),(ys.map (mkV P e))[i]? = some x->∃ y,ys[i]? = some y/\x=mkV P e y/\x.cells=y:=by
      intro i x hx;rw[List.getElem?_map] at hx;cases hy:ys[i]? with
      |none=>rw[hy] at hx;cases hx
      |some y =>
       rw[hy] at hx;simp at hx;exact⟨y,rfl,hx.symm,by rw[<-hx,T9 (hys i y hy).1]⟩
     have hvl:∀ (i:Nat) y,ys[i]? = some y->y.length=P.cellsOf e:=by
      intro i y hy;obtain⟨_,vs,q1,q2⟩:=hys i y hy;rw[q2.1];simp only[World.cells?,Nat.zero_le,if_true] at q1;rw[mapM_some_length q1,List.length_range]
     refine .lit (sz:=P.cellsOf e) ⟨by simp;omega,(fun e=>by cases e),(fun t e=>by cases e)⟩ ⟨?_,(fun t e=>by cases e),fun i x hx=>?_,fun k hk=>?_⟩ fun i x j c u hx hc hu2=>?_
     ·obtain⟨v,hv⟩:=hcell2 (len-1) (P.cellsOf e-1) (by omega) (by omega);obtain⟨L,q1,q2⟩:=aFS hv;refine⟨L,q1,?_⟩;rw[List.length_map,hyl];have:(len-1)*P.cellsOf e+P.cellsOf e=len*P.cellsOf e:=by
       rw[<-Nat.succ_mul];congr 1;omega
      omega
     ·obtain⟨y,q1,q2,q3⟩:=hsz i x hx;rw[q3];exact hvl i y q1
     ·rw[List.length_map,hyl] at hk;have hd:k/P.cellsOf e<len:=Nat.div_lt_of_lt_mul (by rw[Nat.mul_comm];exact hk);have hm:k%P.cellsOf e<P.cellsOf e:=Nat.mod_lt _ ho.1;obtain⟨v,hv⟩:=hcell2 _ _ hd hm;have:k/P.cellsOf e*P.cellsOf e+k%P.cellsOf e=k:=by rw[Nat.mul_comm];exact Nat.div_add_mod _ _
      rw[this] at hv;rw[hv];rfl
     ·obtain⟨y,q1,q2,q3⟩:=hsz i x hx;rw[q3] at hc;obtain⟨_,vs,p1,p2⟩:=hys i y q1;have hjl:j<P.cellsOf e:=by
       rw[<-hvl i y q1];exact (List.getElem?_eq_some_iff.1 hc).1
      simp only[World.cells?,Nat.zero_le,if_true] at p1;have hg:=mapM_some_get p1 j j (by simp[hjl]);rw[hplain2] at hg;rw[hu2] at hg;exact p2.2 j c u hc hg.symm
  ·rename_i fs hu;rw[List.all_eq_true] at ho;obtain⟨xs,m',_,hxe,hcl,hxl,hf⟩:=DataW.trod_struct hu h;obtain⟨k1,k2,k3⟩:=kid_struct hl ht hu;obtain⟨parts,q1,q2,q3⟩:=aB4 (P:=P) (G:=C2 w) (w:=w) (n:=n) (cs:=cs) fs.toList 0 (fun j f hj=>by rw[k3 j f hj];omega) (by rw[hcl,k2];omega) fun f hfm=>by
    obtain⟨i,hi⟩:=List.getElem?_of_mem hfm;have h1:=hf i f (by simpa using hi);have hil:i<xs.length:=by rw[hxl];have:=(List.getElem?_eq_some_iff.1 hi).1;simpa using this
    rw[List.getElem?_eq_getElem hil] at h1;have hd:(xs.map (·.1))[i]? = some xs[i].1:=by rw[List.getElem?_map,List.getElem?_eq_getElem hil];rfl
    have hty:(fs.toList.map (·.type))[i]? = some f.type:=by rw[List.getElem?_map,hi];rfl
    refine qI hl n m' f.type _ _ (k1 f hfm) (ho f hfm) h1 fun k hk=>hwt k ?_
    rw[hxe];simp only[DataW.weights,hu];exact DataW.weights_mem_each hty hd k hk
   rw[List.drop_zero] at q3;exact⟨parts.flatten,by simp only[Typ,hu];exact⟨parts,rfl,q1,q2⟩,q3⟩
  ·rename_i k e hu;obtain⟨xs,m',_,hxe,hcl,hxl,hf⟩:=DataW.trod_array hu h;obtain⟨k1,k2⟩:=kid_array hl ht hu;have hwe:∀ (d:DataW H),d∈xs.map (·.1)->∀ q∈d.weights P e,q<=reachBytes:=by
    have key:∀ (l:List (DataW H)) (d:DataW H),d∈l->∀ q∈d.weights P e,q∈DataW.weightsAll P e l:=by
     intro l
     induction l with
     |nil=>intro d hd;cases hd
     |cons a l ih =>
      intro d hd q hq;simp only[DataW.weightsAll,List.mem_append];rcases List.mem_cons.1 hd with rfl|hd
      ·exact .inl hq
      ·exact .inr (ih d hd q hq)
    intro d hd q hq;refine hwt q ?_;rw[hxe];simp only[DataW.weights,hu];exact key _ d hd q hq
   obtain⟨parts,q1,q2,q3⟩:=aHT (P:=P) (G:=C2 w) (w:=w) (m:=n) (e:=e) (cs:=cs) k 0 (by rw[hcl,k2];omega) fun i hi=>by
    have h1:=hf i hi;have hil:i<xs.length:=by omega
    rw[List.getElem?_eq_getElem hil] at h1;rw[Nat.zero_add];exact qI hl n m' e _ _ k1 ho h1 (hwe _ (List.mem_map.2 ⟨_,List.getElem_mem hil,rfl⟩))
   rw[List.drop_zero] at q3;exact⟨parts.flatten,by simp only[Typ,hu];exact⟨parts,rfl,q1,q2⟩,q3⟩
  ·cases ho
theorem t8(hl:laidOutB P=true)(n:Nat){t:TypeId}{v:Value}{d:DataW H}{ps:List MemPlace}(ht:t<P.types.size)(ho:NH P n t=true)(hv:Value.okWide P w .any 0 t v)(h:DataW.Trod enc P w 0 sp held t v d ps)(hwt:∀ k∈d.weights P t,k<=reachBytes):
  ∃ az,Typ P n t az/\RelV (C2 w) w (mkV P t az) v:=by
 obtain⟨m,hm⟩:=h;obtain⟨az,h1,h2⟩:=qI hl n m t _ _ ht ho hm hwt;refine⟨az,h1,?_⟩;have hone:∀ {a:AV},az=[a]->(∀ cs,v≠.agg cs)->RelV (C2 w) w a v:=by
  rintro a rfl hx;have hc:v.cells.toList=[v]:=by cases v<;>first|rfl|exact absurd rfl (hx _)
  rw[hc] at h2;exact h2.2 0 a v rfl rfl
 cases n with
 |zero=>exact h1.elim
 |succ n =>
  unfold mkV;simp only[Typ] at h1;split at h1<;>rename_i hu
  ·obtain⟨b,rfl⟩:=h1;rw[hu];obtain⟨c,hc⟩:=okWide_bool hu hv;exact hone rfl (by rw[hc];intro cs e;cases e)
  ·obtain⟨b,rfl,_⟩:=h1;rw[hu];obtain⟨c,hc⟩:=okWide_int hu hv;exact hone rfl (by rw[hc];intro cs e;cases e)
  ·obtain⟨b,rfl,_⟩:=h1;rw[hu];obtain⟨c,hc⟩:=okWide_string hu hv;exact hone rfl (by rw[hc];intro cs e;cases e)
  ·obtain⟨b,rfl,_⟩:=h1;rw[hu];obtain⟨_,_,_,hc⟩:=okWide_slice hu hv;exact hone rfl (by rw[hc];intro cs e;cases e)
  ·rw[hu];unfold Value.okWide at hv;rw[hu] at hv;obtain⟨cs,rfl,_,_⟩:=hv;refine .agg ?_ fun i a u e1 e2=>?_
   ·have:=h2.1;simpa[Value.cells] using this.symm
   ·exact h2.2 i a u e1 (by simpa[Value.cells] using e2)
  ·rw[hu];unfold Value.okWide at hv;rw[hu] at hv;obtain⟨cs,rfl,_,_⟩:=hv;refine .agg ?_ fun i a u e1 e2=>?_
   ·have:=h2.1;simpa[Value.cells] using this.symm
   ·exact h2.2 i a u e1 (by simpa[Value.cells] using e2)
  ·exact h1.elim
theorem E4{T:FuncId->Option AFunc}(hT:∀ f af,T f=some af->∃ fn,P.funcs[f]? = some fn/\lV P hh fn=some af){f:FuncId}{az:List AV}{vs:Array Value}{w:World}(ha:fX (C2 w) w az vs)(h:Run T (.call f az []) fun o=>o.v = .bool true):
  Calls P f vs w fun e w'=>e = .returned (.bool true)/\RowKit.Below w.heap.size w w':=by
 have hs:=aNB hT h;refine (callsIn_wide.1 (hs.2 (G:=C2 w) (w:=w) (vs:=vs) ha (XH w))).mono fun e w' hr=>?_
 obtain⟨r,G',u,rfl,q1,q2,q3,q4⟩:=hr;rw[q1] at q2;cases q2;refine⟨rfl,q4.os,q4.tape,q4.output,q4.size,fun k hk=>?_⟩;have hB:G'.B0=w.heap.size:=q4.B0;have hh0:G'.h0=(C2 w).h0:=q4.h0;rw[q3.base k (by rw[hB];exact hk),hh0];simp only[C2,Gh.fresh0];rw[Array.getElem?_append_left hk]
theorem MC{G:Gh}:fX G w [] #[]:=⟨rfl,by simp⟩
theorem sX{G:Gh}{a:AV}{v:Value}{az:List AV}{vs:List Value}(h:RelV G w a v)(hs:fX G w az vs.toArray):fX G w (a::az) (v::vs).toArray:=by
 refine⟨by have:=hs.1;simp at this;simp[this],fun i x u e1 e2=>?_⟩;cases i with
 |zero=>simp at e1 e2;subst e1;subst e2;exact h
 |succ i=>exact hs.2 i x u (by simpa using e1) (by simpa using e2)
def Q8(P:Program)(n:Nat):List TypeId->List AV->Prop
 |[],cs=>cs=[]
 |t::ts,cs=>∃ a b,cs=a++b/\Typ P n t a/\Q8 P n ts b
theorem KQ{n:Nat}:∀ (fl:List Field) (parts:List (List AV)),parts.length=fl.length->(∀ (i:Nat) f p,fl[i]? = some f->parts[i]? = some p->Typ P n f.type p)->Q8 P n (fl.map Field.type) parts.flatten
 |[],parts,hl,_=>by rw[List.length_eq_zero_iff.1 hl];rfl
 |f::fl,[],hl,_=>by simp at hl
 |f::fl,p::parts,hl,h=>⟨p,parts.flatten,rfl,h 0 f p rfl rfl,KQ fl parts (by simpa using hl) fun i g q e1 e2=>h (i+1) g q (by simpa using e1) (by simpa using e2)⟩
theorem NC{n:Nat}{t:TypeId}{fs:Array Field}{cs:List AV}(hu:P.underlying t=some (.struct fs))(h:Typ P (n+1) t cs):Q8 P n (fs.toList.map Field.type) cs:=by
 simp only[Typ,hu] at h;obtain⟨parts,rfl,h1,h2⟩:=h;exact KQ fs.toList parts h1 h2
theorem iH{n:Nat}{t:TypeId}{k:IntKind}{cs:List AV}(hu:P.underlying t=some (.int k))(h:Typ P (n+1) t cs):∃ m,cs=[.int k m]/\(Lit.int k m).wf=true:=by
 simp only[Typ,hu] at h;exact h
theorem RE{n:Nat}{t:TypeId}{cs:List AV}(hu:P.underlying t=some .string)(h:Typ P (n+1) t cs):∃ s:ByteArray,cs=[.str s]/\s.size<=maxLen:=by
 simp only[Typ,hu] at h;exact h
theorem rX{n:Nat}{t e:TypeId}{cs:List AV}{α:Type}{f:α->AV}{Q:α->Prop}(hu:P.underlying t=some (.slice e))(h:Typ P (n+1) t cs)(hq:∀ y,Typ P n e y->∃ x,mkV P e y=f x/\Q x):∃ l:List α,cs=[.lit (l.map f) false none]/\(l.length<9223372036854775808/\l.length*P.bytesOf e<=reachBytes)/\∀ x∈l,Q x:=by
 simp only[Typ,hu] at h;obtain⟨ys,rfl,⟨h1,h1b⟩,h2⟩:=h;have key:∀ ys:List (List AV),(∀ y∈ys,Typ P n e y)->∃ l:List α,ys.map (mkV P e)=l.map f/\l.length=ys.length/\∀ x∈l,Q x:=by
  intro ys
  induction ys with
  |nil=>intro _;exact⟨[],rfl,rfl,by simp⟩
  |cons y ys ih =>
   intro hy;obtain⟨x,q1,q2⟩:=hq y (hy y (by simp));obtain⟨l,q3,q4,q5⟩:=ih fun z hz=>hy z (List.mem_cons_of_mem _ hz)
   exact⟨x::l,by simp[q1,q3],by simp[q4],fun z hz=>by
    rcases List.mem_cons.1 hz with rfl|hz
    ·exact q2
    ·exact q5 z hz⟩
 obtain⟨l,q1,q2,q3⟩:=key ys h2;exact⟨l,by rw[q1],⟨by simp only[maxLen] at h1;omega,by rw[q2];exact h1b⟩,q3⟩
theorem M0{t:TypeId}{fs:Array Field}{cs:List AV}(hu:P.underlying t=some (.struct fs)):mkV P t cs = .agg cs:=by simp[mkV,hu]
theorem aGC{t:TypeId}{a:AV}(hu:∀ fs,P.underlying t≠some (.struct fs))(hu2:∀ k e,P.underlying t≠some (.array k e)):mkV P t [a]=a:=by
 unfold mkV;split
 ·rename_i fs h;exact absurd h (hu fs)
 ·rename_i k e h;exact absurd h (hu2 k e)
 ·rfl
end Go.Am
namespace Go.Am
variable {T:FuncId->Option AFunc}
def nZ(r:Option (AV×St))(K:AV->St->Prop):Prop :=
 match r with
 |some (v,σ)=>K v σ
 |none=>False
@[congr] theorem aHL{r r':Option (AV×St)}{K:AV->St->Prop}(h:r=r'):nZ r K=nZ r' K:=by rw[h]
@[simp] theorem aLR(v:AV)(σ:St)(K:AV->St->Prop):nZ (some (v,σ)) K=K v σ:=rfl
@[simp] theorem aJG(K:AV->St->Prop):nZ none K=False:=rfl
@[simp] theorem aML(c:Prop)[Decidable c](r q:Option (AV×St))(K:AV->St->Prop):nZ (if c then r else q) K=if c then nZ r K else nZ q K:=by split<;>rfl
def C4(v:AV)(A B:Unit->Prop):Prop :=
 match v with
 |.bool true=>A ()
 |.bool false=>B ()
 |_=>False
@[congr] theorem aIF{v v':AV}{A B:Unit->Prop}(h:v=v'):C4 v A B=C4 v' A B:=by rw[h]
@[simp] theorem aL7(b:Bool)(A B:Unit->Prop):C4 (.bool b) A B=if b=true then A () else B ():=by cases b<;>rfl
def qB(v:AV)(want:Bool)(A B:Unit->Prop):Prop :=
 match v with
 |.bool b=>if b=want then A () else B ()
 |.tuple []=>B ()
 |_=>False
@[congr] theorem aIR{v v':AV}{want:Bool}{A B:Unit->Prop}(h:v=v'):qB v want A B=qB v' want A B:=by rw[h]
@[simp] theorem aJK(b want:Bool)(A B:Unit->Prop):qB (.bool b) want A B=if b=want then A () else B ():=rfl
@[simp] theorem aMM(want:Bool)(A B:Unit->Prop):qB (.tuple []) want A B=B ():=rfl
def P6(T:FuncId->Option AFunc)(f:AV)(args:List AV)(σ:St)(K:AV->St->Prop):Prop:=Run T (.callv f args σ) fun r=>K r.v r.σ
@[congr] theorem aHU{f f':AV}{args args':List AV}{σ σ':St}{K:AV->St->Prop}(h1:f=f')(h2:args=args')(h3:σ=σ'):P6 T f args σ K=P6 T f' args' σ' K:=by rw[h1,h2,h3]
def iL(T:FuncId->Option AFunc)(q:AOp)(e:Env)(σ:St)(K:AV->St->Prop):Prop :=
 match q with
 |.call f args=>P6 T (f.ev e) (args.map (·.ev e)) σ K
 |q=>nZ (aop q e σ) K
@[congr] theorem aL1{q:AOp}{e e':Env}{σ σ':St}{K:AV->St->Prop}(h2:e=e')(h3:σ=σ'):iL T q e σ K=iL T q e' σ' K:=by rw[h2,h3]
def aN(T:FuncId->Option AFunc):List AOper->Env->St->(Env->St->Prop)->Prop
 |[],e,σ,K=>K e σ
 |⟨dst,q,none⟩::os,e,σ,K=>iL T q e σ fun v σ'=>aN T os (Env.put e dst v) σ' K
 |⟨dst,q,some (t,want)⟩::os,e,σ,K =>
  qB (Env.get e t) want (fun _=>iL T q e σ fun v σ'=>aN T os (Env.put e dst v) σ' K) (fun _=>aN T os (Env.put e dst (.tuple [])) σ K)
@[congr] theorem aH2{os:List AOper}{e e':Env}{σ σ':St}{K:Env->St->Prop}(h2:e=e')(h3:σ=σ'):aN T os e σ K=aN T os e' σ' K:=by rw[h2,h3]
theorem rR{Q:Out->Prop}:∀ {os:List AOper} {e:Env} {σ:St} {K:Env->St->Prop},aN T os e σ K->(∀ e σ,K e σ->Q ⟨none,e,σ,.undef⟩)->Run T (.ops os e σ) Q
 |[],e,σ,K,h,hq=>.nil (hq _ _ h)
 |o::os,e,σ,K,h,hq=>by
  have key:o.wanted e=some true->iL T o.op e σ (fun v σ'=>aN T os (Env.put e o.dst v) σ' K)->Run T (.ops (o::os) e σ) Q:=by
   intro hw h;by_cases hc:∃ f args,o.op = .call f args
   ·obtain⟨f,args,ho⟩:=hc;rw[ho] at h;exact .stepc hw ho h fun r hr=>rR hr hq
   ·have:∃ v σ',aop o.op e σ=some (v,σ')/\aN T os (Env.put e o.dst v) σ' K:=by
     unfold iL at h;split at h
     ·rename_i f args ho;exact absurd ⟨f,args,ho⟩ hc
     ·unfold nZ at h;split at h
      ·rename_i v σ' hv;exact⟨v,σ',hv,h⟩
      ·exact h.elim
    obtain⟨v,σ',h1,h2⟩:=this;exact .step hw h1 (rR h2 hq)
  obtain⟨dst,q,g⟩:=o;cases g with
  |none=>exact key rfl h
  |some g =>
   obtain⟨t,want⟩:=g;simp only[aN,qB] at h;split at h
   ·rename_i b h1;split at h
    ·rename_i hb;exact key (by simp[AOper.wanted,h1,hb]) h
    ·rename_i hb;exact .off (by simp[AOper.wanted,h1];simpa using hb) (rR h hq)
   ·rename_i h1;exact .off (by simp[AOper.wanted,h1]) (rR h hq)
   ·exact h.elim
abbrev KJ:=Option AJump->Env->St->Prop
def tP(A K:KJ):KJ:=fun j e σ=>match j with|none=>A none e σ|some j=>K (some j) e σ
@[simp] theorem aI9(A K:KJ)(e:Env)(σ:St):tP A K none e σ=A none e σ:=rfl
@[simp] theorem aLM(A K:KJ)(j:AJump)(e:Env)(σ:St):tP A K (some j) e σ=K (some j) e σ:=rfl
def mN(id:Nat)(K:KJ):KJ:=fun j e σ=>match j with|some (.exit i)=>if i=id then K none e σ else K (some (.exit i)) e σ|j=>K j e σ
@[simp] theorem aHN(id:Nat)(K:KJ)(e:Env)(σ:St):mN id K none e σ=K none e σ:=rfl
@[simp] theorem aK9(id:Nat)(K:KJ)(e:Env)(σ:St):mN id K (some .ret) e σ=K (some .ret) e σ:=rfl
@[simp] theorem aIJ(id i:Nat)(K:KJ)(e:Env)(σ:St):mN id K (some (.exit i)) e σ=if i=id then K none e σ else K (some (.exit i)) e σ:=rfl
def T4(T:FuncId->Option AFunc)(c:ACode)(e:Env)(σ:St)(K:KJ):Prop:=Run T (.code c e σ) fun o=>K o.j o.env o.σ
@[congr] theorem aIW{c:ACode}{e e':Env}{σ σ':St}{K:KJ}(h2:e=e')(h3:σ=σ'):T4 T c e σ K=T4 T c e' σ' K:=by rw[h2,h3]
def wp(T:FuncId->Option AFunc):ACode->Env->St->KJ->Prop
 |.skip,e,σ,K=>K none e σ
 |.reg os,e,σ,K=>aN T os e σ fun e σ=>K none e σ
 |.seq a b,e,σ,K=>wp T a e σ (tP (fun _ e σ=>wp T b e σ K) K)
 |.cond c a b,e,σ,K=>C4 (c.ev e) (fun _=>wp T a e σ K) (fun _=>wp T b e σ K)
 |.block id b,e,σ,K=>wp T b e σ (mN id K)
 |.jump j,e,σ,K=>K (some j) e σ
 |.scope b,e,σ,K=>wp T b e σ K
 |c,e,σ,K=>T4 T c e σ K
@[congr] theorem aNZ{c:ACode}{e e':Env}{σ σ':St}{K:KJ}(h2:e=e')(h3:σ=σ'):wp T c e σ K=wp T c e' σ' K:=by rw[h2,h3]
theorem fO{Q:Out->Prop}:∀ {c:ACode} {e:Env} {σ:St} {K:KJ},wp T c e σ K->(∀ o,K o.j o.env o.σ->Q o)->Run T (.code c e σ) Q:=by
 intro c
 induction c generalizing Q with
 |skip=>intro e σ K h hq;exact .skip (hq ⟨none,e,σ,.undef⟩ h)
 |reg os=>intro e σ K h hq;exact .reg (rR h fun e σ hk=>hq ⟨none,e,σ,.undef⟩ hk)
 |dreg ds=>intro e σ K h hq;exact .mono h hq
 |seq a b iha ihb =>
  intro e σ K h hq;refine .seq (iha h fun o ho=>ho) (fun o ho hj=>?_) fun o ho hj=>?_
  ·simp only[hj,tP] at ho;exact ihb ho hq
  ·refine hq o ?_;cases hj':o.j with
   |none=>exact absurd hj' hj
   |some j=>simp only[hj',tP] at ho;exact ho
 |cond c a b iha ihb =>
  intro e σ K h hq;simp only[wp,C4] at h;split at h
  ·rename_i h1;exact .cond true h1 (iha h hq)
  ·rename_i h1;exact .cond false h1 (ihb h hq)
  ·exact h.elim
 |block id b ih =>
  intro e σ K h hq;refine .block (ih h fun o ho=>ho) fun o ho=>hq _ ?_
  unfold mN at ho;split at ho
  ·rename_i i hj;split at ho
   ·rename_i hi;subst hi;rw[if_pos hj];exact ho
   ·rename_i hi;rw[if_neg (by rw[hj];simpa using hi),hj];exact ho
  ·rename_i hj;rw[if_neg (fun e=>hj _ e)];exact ho
 |loop b ih=>intro e σ K h hq;exact .mono h hq
 |rangeFunc f ps a b _ _=>intro e σ K h hq;exact .mono h hq
 |jump j=>intro e σ K h hq;exact .jump (hq ⟨some j,e,σ,.undef⟩ h)
 |scope b ih=>intro e σ K h hq;exact .scope (ih h hq)
def cP(T:FuncId->Option AFunc)(f:FuncId)(args:List AV)(v:AV):Prop:=∀ σ,Run T (.call f args σ) fun o=>o.v=v/\o.σ=σ
theorem rE(σ τ:St)(k:Nat):(σ++τ)[σ.length+k]? = τ[k]?:=by rw[List.getElem?_append_right (by omega)];congr 1;omega
theorem kD(σ τ:St)(k:Nat)(x:ABlk):(σ++τ).set (σ.length+k) x=σ++τ.set k x:=by rw[List.set_append_right _ _ (by omega)];congr 2;omega
theorem QU(σ τ:St)(x:ABlk):(σ++τ).set σ.length x=σ++τ.set 0 x:=kD σ τ 0 x
end Go.Am
namespace Go.Am
variable {T:FuncId->Option AFunc}
theorem aM9(e:Env)(d:Nat)(v:AV):Env.put e (some d) v=(d,v)::e:=by simp only[Env.put]
theorem aKE(e:Env)(v:AV):Env.put e none v=e:=by simp only[Env.put]
theorem aCS(k:Nat)(v:AV)(e:Env)(t:Nat):Env.get ((k,v)::e) t=if k=t then v else Env.get e t:=by simp only[Env.get]
theorem QK(e:Env)(t:Nat):AOpd.ev e (.t t)=Env.get e t:=by simp only[AOpd.ev]
theorem aM7(e:Env)(v:AV):AOpd.ev e (.c v)=v:=by simp only[AOpd.ev]
theorem aNV(os:List AOper)(e:Env)(σ:St)(K:KJ):wp T (.reg os) e σ K=aN T os e σ fun e σ=>K none e σ:=by simp only[wp]
theorem aNM(a b:ACode)(e:Env)(σ:St)(K:KJ):wp T (.seq a b) e σ K=wp T a e σ (tP (fun _ e σ=>wp T b e σ K) K):=by simp only[wp]
theorem aJY(j:AJump)(e:Env)(σ:St)(K:KJ):wp T (.jump j) e σ K=K (some j) e σ:=by simp only[wp]
theorem aI1(A K:KJ)(e:Env)(σ:St):tP A K none e σ=A none e σ:=by simp only[tP]
theorem aPC(e:Env)(σ:St)(K:Env->St->Prop):aN T [] e σ K=K e σ:=by simp only[aN]
def aP5(r:Option AV)(σ:St)(K:AV->St->Prop):Prop:=match r with|some v=>K v σ|none=>False
@[congr] theorem aKS{r r':Option AV}{σ σ':St}{K:AV->St->Prop}(h:r=r')(h2:σ=σ'):aP5 r σ K=aP5 r' σ' K:=by rw[h,h2]
def aMQ(r:Option (List AV))(σ:St)(K:AV->St->Prop):Prop:=match r with|some cs=>K (.agg cs) σ|none=>False
@[congr] theorem aIU{r r':Option (List AV)}{σ σ':St}{K:AV->St->Prop}(h:r=r')(h2:σ=σ'):aMQ r σ K=aMQ r' σ' K:=by rw[h,h2]
def aN4(r:Option St)(K:AV->St->Prop):Prop:=match r with|some σ=>K (.tuple []) σ|none=>False
@[congr] theorem aLO{r r':Option St}{K:AV->St->Prop}(h:r=r'):aN4 r K=aN4 r' K:=by rw[h]
def sQ(n:Nat)(v:AV):Option (List AV):=if (v.cells.length==n&&v.cells.all (·.cell))=true then some v.cells else none
def AO(off:Nat):AV->Option AV
 |.ptr id o=>some (.ptr id (o+off))
 |.lptr xs i o t=>some (.lptr xs i (o+off) t)
 |_=>none
theorem YN(off id o:Nat):AO off (.ptr id o)=some (.ptr id (o+off)):=by simp[AO]
theorem ZQ(off:Nat)(xs:List AV)(i o:Nat)(t:Option Nat):AO off (.lptr xs i o t)=some (.lptr xs i (o+off) t):=by simp[AO]
def aOG(r:Option (List AV))(σ:St)(K:AV->St->Prop):Prop:=match r with|some cs=>K (.ptr σ.length 0) (σ++[.cells cs])|none=>False
@[congr] theorem aJA{r r':Option (List AV)}{σ σ':St}{K:AV->St->Prop}(h:r=r')(h2:σ=σ'):aOG r σ K=aOG r' σ' K:=by rw[h,h2]
def aG5(i:Nat):AV->Option AV
 |.tuple vs=>vs[i]?
 |_=>none
theorem aK7(i:Nat)(vs:List AV):aG5 i (.tuple vs)=vs[i]?:=by simp[aG5]
def aE6:AV->Option AV
 |.bool b=>some (.bool !b)
 |_=>none
theorem aLX(b:Bool):aE6 (.bool b)=some (.bool !b):=by simp[aE6]
def EW(sh:EqTy)(neg:Bool)(x y:AV):Option AV:=(jO sh x y).map fun b=>.bool (if neg then !b else b)
theorem aLA(e:Env)(σ:St)(K:KJ):wp T .skip e σ K=K none e σ:=by simp only[wp]
theorem aHE(id:Nat)(b:ACode)(e:Env)(σ:St)(K:KJ):wp T (.block id b) e σ K=wp T b e σ (mN id K):=by simp only[wp]
theorem aGL(b:ACode)(e:Env)(σ:St)(K:KJ):wp T (.scope b) e σ K=wp T b e σ K:=by simp only[wp]
theorem aD3(A K:KJ)(j:AJump)(e:Env)(σ:St):tP A K (some j) e σ=K (some j) e σ:=by simp only[tP]
theorem aMC(k:Nat):fM k []=[]:=by simp only[fM]
theorem aNN(k:Nat)(v:AV)(vs:List AV):fM k (v::vs)=(k,v)::fM (k+1) vs:=by simp only[fM]
theorem aPT(e:Env)(cs:List AV)(off n:Nat)(x:AOpd)(rest:List (Nat×Nat×AOpd)):
  cX e cs ((off,n,x)::rest)=((sQ n (x.ev e)).bind fun us=>gO cs off us).bind fun cs=>cX e cs rest:=by
 simp only[cX,sQ];split
 ·simp only[Option.bind_some];cases gO cs off (x.ev e).cells<;>simp
 ·simp
end Go.Am
namespace Go.Am
variable {T:FuncId->Option AFunc}
def MT(I:Nat->Env->St->Prop)(k:Nat)(K:KJ):KJ:=fun j e σ=>match j with|none=>∃ k',k'<k/\I k' e σ|some j=>K (some j) e σ
theorem eZ(I:Nat->Env->St->Prop)(k:Nat)(K:KJ)(e:Env)(σ:St):MT I k K none e σ = ∃ k',k'<k/\I k' e σ:=by simp only[MT]
theorem fE(I:Nat->Env->St->Prop)(k:Nat)(K:KJ)(j:AJump)(e:Env)(σ:St):MT I k K (some j) e σ=K (some j) e σ:=by simp only[MT]
theorem D7{b:ACode}{K:KJ}(I:Nat->Env->St->Prop)(step:∀ k e σ,I k e σ->wp T b e σ (MT I k K)):∀ n e σ,I n e σ->T4 T (.loop b) e σ K:=by
 intro n
 induction n using Nat.strongRecOn with
 |_ n ih =>
  intro e σ h;refine .loop (fO (step n e σ h) fun o ho=>ho) (fun o ho hj=>?_) fun o ho hj=>?_
  ·simp only[hj,eZ] at ho;obtain⟨k',hk,hI⟩:=ho;exact ih k' hk o.env o.σ hI
  ·cases hj':o.j with
   |none=>exact absurd hj' hj
   |some j=>simp only[hj',fE] at ho;exact ho
end Go.Am
namespace Go.Am
variable {T:FuncId->Option AFunc}
def GN(r:ARead):List St->Nat->Prop
 |[],_=>True
 |s::ss,j=>(if r.lo<=j/\j<=r.hi then aop r.op r.env s=some (r.v,s) else True)/\GN r ss (j+1)
theorem LL{r:ARead}:∀ {hist:List St} {k:Nat},GN r hist k->∀ j s,r.lo<=k+j->k+j<=r.hi->hist[j]? = some s->aop r.op r.env s=some (r.v,s)
 |[],k,_,j,s,_,_,h=>by simp at h
 |t::ss,k,h,j,s,h1,h2,h3=>by
  obtain⟨q1,q2⟩:=h;cases j with
  |zero=>simp at h3;subst h3;rw[if_pos ⟨by omega,by omega⟩] at q1;exact q1
  |succ j=>exact LL q2 j s (by omega) (by omega) (by simpa using h3)
def sE:List ARead->List St->Prop
 |[],_=>True
 |r::rs,hist=>GN r hist 0/\sE rs hist
theorem GQ:∀ {rs:List ARead} {hist:List St},sE rs hist->∀ r∈rs,ARead.ok r hist
 |[],_,_,r,h=>by cases h
 |r::rs,hist,h,q,hq=>by
  rcases List.mem_cons.1 hq with rfl|hq
  ·intro j s h1 h2 h3;exact LL h.1 j s (by omega) (by omega) h3
  ·exact GQ h.2 q hq
def G6(T:FuncId->Option AFunc)(f:AV)(args:List AV)(σ:St)(K:AV->St->Prop):Prop:=∃ v σ',Run T (.callv f args σ) (fun r=>r.v=v/\r.σ=σ')/\K v σ'
@[congr] theorem aH7{f f':AV}{args args':List AV}{σ σ':St}{K:AV->St->Prop}(h1:f=f')(h2:args=args')(h3:σ=σ'):G6 T f args σ K=G6 T f' args' σ' K:=by rw[h1,h2,h3]
def wpD(T:FuncId->Option AFunc):List ADOper->Env->St->Nat->List St->List ARead->(Env->St->Prop)->Prop
 |[],e,σ,_,hist,reads,K=>sE reads hist/\K e σ
 |⟨⟨dst,.call f args,none⟩,_,_⟩::ds,e,σ,next,hist,reads,K=>G6 T (f.ev e) (args.map (·.ev e)) σ fun v σ'=>wpD T ds (Env.put e dst v) σ' next (hist++[σ']) reads K
 |⟨⟨dst,.alloc _,none⟩,_,_⟩::ds,e,σ,next,hist,reads,K=>wpD T ds (Env.put e dst (.ptr next 0)) σ (next+1) hist reads K
 |⟨⟨dst,q,none⟩,lo,hi⟩::ds,e,σ,next,hist,reads,K =>
  nZ (aop q e σ) fun v σ' =>
   if q.acts=true then wpD T ds (Env.put e dst v) σ' next (hist++[σ']) reads K
   else σ'=σ/\if q.reads=true then wpD T ds (Env.put e dst v) σ next hist (⟨lo,hi,q,e,v⟩::reads) K else wpD T ds (Env.put e dst v) σ next hist reads K
 |⟨⟨dst,.call f args,some (t,want)⟩,_,_⟩::ds,e,σ,next,hist,reads,K =>
  qB (Env.get e t) want (fun _=>G6 T (f.ev e) (args.map (·.ev e)) σ fun v σ'=>wpD T ds (Env.put e dst v) σ' next (hist++[σ']) reads K)
   (fun _=>wpD T ds (Env.put e dst (.tuple [])) σ next (hist++[σ]) reads K)
 |⟨⟨dst,q,some (t,want)⟩,lo,hi⟩::ds,e,σ,next,hist,reads,K =>
  qB (Env.get e t) want
   (fun _=>q.allocs=false/\nZ (aop q e σ) fun v σ' =>
    if q.acts=true then wpD T ds (Env.put e dst v) σ' next (hist++[σ']) reads K
    else σ'=σ/\if q.reads=true then wpD T ds (Env.put e dst v) σ next hist (⟨lo,hi,q,e,v⟩::reads) K else wpD T ds (Env.put e dst v) σ next hist reads K)
   (fun _=>wpD T ds (Env.put e dst (.tuple [])) σ (if q.allocs then next+1 else next) (if q.acts then hist++[σ] else hist) reads K)
theorem lX{Q:Out->Prop}:∀ {ds:List ADOper} {e:Env} {σ:St} {next:Nat} {hist:List St} {reads:List ARead} {K:Env->St->Prop},wpD T ds e σ next hist reads K ->
  (∀ e σ,K e σ->Q ⟨none,e,σ,.undef⟩)->Run T (.dops ds e σ next hist reads) Q
 |[],e,σ,next,hist,reads,K,h,hq=>.dnil (GQ h.1) (hq _ _ h.2)
 |⟨⟨dst,q,g⟩,lo,hi⟩::ds,e,σ,next,hist,reads,K,h,hq=>by
  -- an operation that is neither a call nor a new variable
  have key:AOper.wanted ⟨dst,q,g⟩ e=some true->q.allocs=false->(nZ (aop q e σ) fun v σ' =>
    if q.acts=true then wpD T ds (Env.put e dst v) σ' next (hist++[σ']) reads K
    else σ'=σ/\if q.reads=true then wpD T ds (Env.put e dst v) σ next hist (⟨lo,hi,q,e,v⟩::reads) K else wpD T ds (Env.put e dst v) σ next hist reads K) ->
    Run T (.dops (⟨⟨dst,q,g⟩,lo,hi⟩::ds) e σ next hist reads) Q:=by
   intro hw hal h;unfold nZ at h;split at h
   ·rename_i v σ' hv;split at h
    ·rename_i ha;exact .dact hw ha hv (lX h hq)
    ·rename_i ha;obtain⟨rfl,h⟩:=h;split at h
     ·rename_i hr;exact .dread hw hr hv (lX h hq)
     ·rename_i hr;exact .dpure hw (by simp[hal];exact⟨by simpa using ha,by simpa using hr⟩) hv (lX h hq)
   ·exact h.elim
  by_cases hc:∃ f args,q = .call f args
  ·obtain⟨f,args,rfl⟩:=hc;cases g with
   |none =>
    simp only[wpD,G6] at h;obtain⟨v,σ',h1,h2⟩:=h;exact .dcall rfl rfl h1 (lX h2 hq)
   |some g =>
    obtain⟨t,want⟩:=g;simp only[wpD,qB] at h;split at h
    ·rename_i b h1;split at h
     ·rename_i hb;obtain⟨v,σ',h3,h4⟩:=h;exact .dcall (by simp[AOper.wanted,h1,hb]) rfl h3 (lX h4 hq)
     ·rename_i hb;exact .doff (by simp[AOper.wanted,h1];simpa using hb) (by simpa[AOp.allocs,AOp.acts] using lX h hq)
    ·rename_i h1;exact .doff (by simp[AOper.wanted,h1]) (by simpa[AOp.allocs,AOp.acts] using lX h hq)
    ·exact h.elim
  ·cases g with
   |none =>
    by_cases hal:∃ z,q = .alloc z
    ·obtain⟨z,rfl⟩:=hal;simp only[wpD] at h;exact .dalloc rfl rfl (lX h hq)
    ·refine key rfl ?_ ?_
     ·cases q<;>first|rfl|exact absurd ⟨_,rfl⟩ hal
     ·cases q<;>first|exact h|exact absurd ⟨_,_,rfl⟩ hc|exact absurd ⟨_,rfl⟩ hal
   |some g =>
    obtain⟨t,want⟩:=g
    have h:qB (Env.get e t) want (fun _=>q.allocs=false/\nZ (aop q e σ) fun v σ' =>
      if q.acts=true then wpD T ds (Env.put e dst v) σ' next (hist++[σ']) reads K
      else σ'=σ/\if q.reads=true then wpD T ds (Env.put e dst v) σ next hist (⟨lo,hi,q,e,v⟩::reads) K else wpD T ds (Env.put e dst v) σ next hist reads K)
      (fun _=>wpD T ds (Env.put e dst (.tuple [])) σ (if q.allocs then next+1 else next) (if q.acts then hist++[σ] else hist) reads K):=by
     cases q<;>first|exact h|exact absurd ⟨_,_,rfl⟩ hc
    simp only[qB] at h;split at h
    ·rename_i b h1;split at h
     ·rename_i hb;exact key (by simp[AOper.wanted,h1,hb]) h.1 h.2
     ·rename_i hb;exact .doff (by simp[AOper.wanted,h1];simpa using hb) (lX h hq)
    ·rename_i h1;exact .doff (by simp[AOper.wanted,h1]) (lX h hq)
    ·exact h.elim
end Go.Am
namespace Go.Am
variable {T:FuncId->Option AFunc}
class HP (α:Type) where
 out:α
def bO(r:Option (AV×St))[K:HP (AV->St->Prop)]:Prop:=nZ r K.out
theorem aKF(v:AV)(σ:St)(K:AV->St->Prop):bO (K:=⟨K⟩) (some (v,σ))=K v σ:=by simp only[bO,nZ]
def cK(T:FuncId->Option AFunc)(f:AV)(args:List AV)(σ:St)[K:HP (AV->St->Prop)]:Prop:=P6 T f args σ K.out
def cD(T:FuncId->Option AFunc)(f:AV)(args:List AV)(σ:St)[K:HP (AV->St->Prop)]:Prop:=G6 T f args σ K.out
def rK(T:FuncId->Option AFunc)(c:ACode)(e:Env)(σ:St)[K:HP KJ]:Prop:=T4 T c e σ K.out
def B1(b:Bool)[A:HP Prop][B:HP Prop]:Prop:=if b=true then A.out else B.out
theorem vR(A:Prop)(B:HP Prop):B1 (A:=⟨A⟩) true=A:=by simp[B1]
theorem sF(A:HP Prop)(B:Prop):B1 (B:=⟨B⟩) false=B:=by simp[B1]
theorem aE{b:Bool}{A B:Prop}(h1:b=true->A)(h2:b=false->B):B1 (A:=⟨A⟩) (B:=⟨B⟩) b:=by cases b<;>simp[B1]<;>first|exact h1 rfl|exact h2 rfl
def bB(v:AV)[A:HP Prop][B:HP Prop]:Prop:=C4 v (fun _=>A.out) (fun _=>B.out)
def bG(v:AV)(want:Bool)[A:HP Prop][B:HP Prop]:Prop:=qB v want (fun _=>A.out) (fun _=>B.out)
theorem aLH(b:ACode)(e:Env)(σ:St)(K:KJ):wp T (.loop b) e σ K=rK (K:=⟨K⟩) T (.loop b) e σ:=by simp only[wp,rK]
theorem aEF(f:AOpd)(ps:List Nat)(a b:ACode)(e:Env)(σ:St)(K:KJ):wp T (.rangeFunc f ps a b) e σ K=rK (K:=⟨K⟩) T (.rangeFunc f ps a b) e σ:=by simp only[wp,rK]
theorem aL8(c:AOpd)(a b:ACode)(e:Env)(σ:St)(K:KJ):wp T (.cond c a b) e σ K=bB (A:=⟨wp T a e σ K⟩) (B:=⟨wp T b e σ K⟩) (c.ev e):=by simp only[wp,bB]
def evs(e:Env):List AOpd->List AV
 |[]=>[]
 |x::xs=>x.ev e::evs e xs
theorem n7(e:Env):∀ xs:List AOpd,xs.map (·.ev e)=evs e xs
 |[]=>rfl
 |x::xs=>by simp[evs,n7 e xs]
def ovs(e:Env):Option AOpd->Option AV
 |none=>none
 |some x=>some (x.ev e)
def GK:AV->AV->AV->Option AV
 |.bool true,x,_=>some x
 |.bool false,_,y=>some y
 |_,_,_=>none
def SZ(n:Nat)(xs:List AV):Option AV:=if aI n xs=true then some (.lit xs true none) else none
def LK:AV->Option AV
 |.ptr i o=>some (.ptr i o)
 |.lptr xs i o t=>some (.lptr xs i o t)
 |.func f a b=>some (.func f a b)
 |.yield i=>some (.yield i)
 |_=>none
def aE2:AV->Option AV
 |.int k n=>some (.int k (k.wrap (0-n)))
 |_=>none
def QL(k:IntKind):AV->Option AV
 |.int _ n=>some (.int k (k.wrap n))
 |_=>none
def aEM:AV->Option ByteArray
 |.str s=>some s
 |_=>none
def AU(σ:St):AV->Option (AV×St)
 |.ptr id 0 =>
  match σ[id]? with
  |some (.siter s pos) =>
   if pos<s.size then some (.tuple [.bool true,.int .i64 pos,.int .i32 (Utf8.decode s pos).1],σ.set id (.siter s (pos+(Utf8.decode s pos).2)))
   else some (.tuple [.bool false],σ)
  |_=>none
 |_=>none
def nE(bytes:Nat)(l c:AV):Option Nat :=
 match l,c with
 |.int _ n,.int _ m=>if 0<=n/\n=m/\n*bytes<=room/\n<=room then some n.toNat else none
 |_,_=>none
def rD(d:Nat):Option AV->Option Int
 |none=>some d
 |some x=>gG x
def xU(sz:Nat)(σ:St)(x:AV)(lo hi mx:Option AV):Option AV :=
 match jI 1 σ x with
 |none=>none
 |some n =>
  match rD 0 lo,rD n hi,mx.map gG with
  |some l,some h,none=>oR sz x l h false
  |some l,some h,some (some m)=>if m=h/\hi.isSome=true then oR sz x l h true else none
  |_,_,_=>none
def yI(n sz:Nat)(x:AV)(lo hi:Option AV):Option AV :=
 match x,rD 0 lo,rD n hi with
 |.ptr id off,some l,some h=>if 0<=l/\l<=h/\h<=n then some (.ref id (off+l.toNat*sz) (h.toNat-l.toNat) sz) else none
 |_,_,_=>none
def I1(off:Nat)(sh:Option Nat):AV->Option AV
 |.agg cs=>fG sh cs off
 |_=>none
def lU(arr:Option Nat)(sz:Nat)(x i:AV):Option AV :=
 match gG i,arr,x with
 |some j,some n,.ptr id off=>if 0<=j/\j<n then some (.ptr id (off+j.toNat*sz)) else none
 |some j,some n,.lptr xs q off t=>if 0<=j/\j<n then some (.lptr xs q (off+j.toNat*sz) t) else none
 |some j,none,.lit xs _ t =>
  match xs[j.toNat]? with
  |some y=>if 0<=j/\y.cells.length=sz then some (.lptr xs j.toNat 0 t) else none
  |none=>none
 |some j,none,.ref id off len sz'=>if 0<=j/\j<len/\sz'=sz then some (.ptr id (off+j.toNat*sz)) else none
 |_,_,_=>none
def HU(n sz:Nat)(sh:Option Nat)(x i:AV):Option AV :=
 match gG i,x with
 |some j,.agg cs=>if 0<=j/\j<n then fG sh cs (j.toNat*sz) else none
 |_,_=>none
def CC(x i:AV):Option AV :=
 match gG i,x with
 |some j,.str s=>if 0<=j then (s[j.toNat]?).map fun b=>.int .u8 b.toNat else none
 |_,_=>none
def Q0(ok:Bool)(zero:AV):Option (Option AV)->Option AV
 |some (some v)=>some (if ok then .tuple [v,.bool true] else v)
 |some none=>some (if ok then .tuple [zero,.bool false] else zero)
 |none=>none
def B4(sh:EqTy)(σ:St)(m k v:AV):Option St :=
 match m with
 |.map id =>
  if (jO sh k k).isSome=false then none else
  match σ[id]? with
  |some (.map es)=>(pT sh k v es).map fun es'=>σ.set id (.map es')
  |_=>none
 |_=>none
theorem aOQ(x:AOpd)(e:Env)(σ:St):aop (.mov x) e σ=some (x.ev e,σ):=by
 simp only[aop]
theorem aEV(z:List AV)(e:Env)(σ:St):aop (.alloc z) e σ=some (.ptr σ.length 0,σ++[.cells z]):=by
 simp only[aop]
theorem aKZ(c x y:AOpd)(e:Env)(σ:St):aop (.pick c x y) e σ=(GK (c.ev e) (x.ev e) (y.ev e)).map (·,σ):=by
 simp only[aop,GK];repeat' split
 all_goals simp_all
theorem aN6(n:Nat)(x:AOpd)(e:Env)(σ:St):aop (.box n x) e σ=(sQ n (x.ev e)).map fun cs=>(.ptr σ.length 0,σ++[.cells cs]):=by
 simp only[aop,sQ];split<;>simp_all
theorem aGN(z:List AV)(ps:List (Nat×Nat×AOpd))(e:Env)(σ:St):aop (.build z ps) e σ=(cX e z ps).map fun cs=>(.agg cs,σ):=by
 simp only[aop];cases cX e z ps<;>simp
theorem aEJ(n:Nat)(xs:List AOpd)(e:Env)(σ:St):aop (.mklit n xs) e σ=(SZ n (evs e xs)).map (·,σ):=by
 simp only[aop,SZ,n7];split<;>simp_all
theorem aEX(n:Nat)(xs:List AOpd)(e:Env)(σ:St):aop (.mkref n xs) e σ=(SZ n (evs e xs)).map fun _=>(.ref σ.length 0 (evs e xs).length n,σ++[.cells ((evs e xs).flatMap AV.cells)]):=by
 simp only[aop,SZ,n7];have:=congrArg List.length (n7 e xs);split<;>simp_all
theorem aLE(sh:Option Nat)(x:AOpd)(e:Env)(σ:St):aop (.load sh x) e σ=(kB sh σ (x.ev e)).map (·,σ):=by
 simp only[aop];cases kB sh σ (x.ev e)<;>simp
theorem aFX(n:Nat)(x y:AOpd)(e:Env)(σ:St):aop (.store n x y) e σ=(qT n σ (x.ev e) (y.ev e)).map (.tuple [],·):=by
 simp only[aop];cases qT n σ (x.ev e) (y.ev e)<;>simp
theorem NP(x:AOpd)(e:Env)(σ:St):aop (.nilCheck x) e σ=(LK (x.ev e)).map (·,σ):=by
 simp only[aop,LK];cases x.ev e<;>simp
theorem aPX(op:BinOp)(x y:AOpd)(e:Env)(σ:St):aop (.bin op x y) e σ=(gA op (x.ev e) (y.ev e)).map (·,σ):=by
 simp only[aop];cases gA op (x.ev e) (y.ev e)<;>simp
theorem aOH(sh:EqTy)(n:Bool)(x y:AOpd)(e:Env)(σ:St):aop (.eql sh n x y) e σ=(EW sh n (x.ev e) (y.ev e)).map (·,σ):=by
 simp only[aop,EW];cases jO sh (x.ev e) (y.ev e)<;>simp
theorem aM1(x:AOpd)(e:Env)(σ:St):aop (.not x) e σ=(aE6 (x.ev e)).map (·,σ):=by
 simp only[aop,aE6];cases x.ev e<;>simp
theorem aMU(x:AOpd)(e:Env)(σ:St):aop (.neg x) e σ=(aE2 (x.ev e)).map (·,σ):=by
 simp only[aop,aE2];cases x.ev e<;>simp
theorem aI4(k:IntKind)(x:AOpd)(e:Env)(σ:St):aop (.conv k x) e σ=(QL k (x.ev e)).map (·,σ):=by
 simp only[aop,QL];cases x.ev e<;>simp
theorem aF5(f:FuncId)(xs ys:List AOpd)(e:Env)(σ:St):aop (.mkfun f xs ys) e σ=some (.func f (evs e xs) (evs e ys),σ):=by
 simp only[aop,n7]
theorem aGM(e:Env)(σ:St):aop (.mkmap) e σ=some (.map σ.length,σ++[.map []]):=by
 simp only[aop]
theorem S8(z:List AV)(b:Nat)(x y:AOpd)(e:Env)(σ:St):aop (.mkslice z b x y) e σ=(nE b (x.ev e) (y.ev e)).map fun n=>(.ref σ.length 0 n z.length,σ++[.cells (List.replicate n z).flatten]):=by
 simp only[aop,nE];generalize x.ev e=u;generalize y.ev e=v;cases u<;>cases v<;>first|rfl|(dsimp only;split<;>first|rfl|simp_all|(split<;>simp_all))
theorem aA3(n:Nat)(x:AOpd)(lo hi mx:Option AOpd)(e:Env)(σ:St):aop (.slicev n x lo hi mx) e σ=(xU n σ (x.ev e) (ovs e lo) (ovs e hi) (ovs e mx)).map (·,σ):=by
 simp only[aop,xU];cases jI 1 σ (x.ev e)<;>cases lo<;>cases hi<;>cases mx<;>simp only[cI,rD,ovs,Option.map_none,Option.map_some]<;>repeat' split
 all_goals simp_all
theorem Z5(n s:Nat)(x:AOpd)(lo hi:Option AOpd)(e:Env)(σ:St):aop (.slicea n s x lo hi) e σ=(yI n s (x.ev e) (ovs e lo) (ovs e hi)).map (·,σ):=by
 simp only[aop,yI];generalize x.ev e=u;cases lo with
 |none=>cases hi with
  |none=>simp only[cI,rD,ovs];cases u<;>first|rfl|(dsimp only;split<;>first|rfl|simp_all|(split<;>simp_all))
  |some h=>simp only[cI,rD,ovs];generalize gG (h.ev e)=p;cases u<;>cases p<;>first|rfl|(dsimp only;split<;>first|rfl|simp_all|(split<;>simp_all))
 |some l=>cases hi with
  |none=>simp only[cI,rD,ovs];generalize gG (l.ev e)=p;cases u<;>cases p<;>first|rfl|(dsimp only;split<;>first|rfl|simp_all|(split<;>simp_all))
  |some h=>simp only[cI,rD,ovs];generalize gG (l.ev e)=p;generalize gG (h.ev e)=q;cases u<;>cases p<;>cases q<;>first|rfl|(dsimp only;split<;>first|rfl|simp_all|(split<;>simp_all))
theorem aFG(x:AOpd)(o:Nat)(e:Env)(σ:St):aop (.faddr x o) e σ=(AO o (x.ev e)).map (·,σ):=by
 simp only[aop,AO];cases x.ev e<;>simp
theorem aDO(x:AOpd)(o:Nat)(sh:Option Nat)(e:Env)(σ:St):aop (.field x o sh) e σ=(I1 o sh (x.ev e)).map (·,σ):=by
 simp only[aop,I1];cases x.ev e<;>simp<;>(rename_i cs;cases fG sh cs o<;>simp)
theorem aHF(a:Option Nat)(s:Nat)(x i:AOpd)(e:Env)(σ:St):aop (.iaddr a s x i) e σ=(lU a s (x.ev e) (i.ev e)).map (·,σ):=by
 simp only[aop,lU];generalize gG (i.ev e)=q;generalize x.ev e=u;cases q<;>cases a<;>cases u<;>first|rfl|(dsimp only;split<;>first|rfl|simp_all|(split<;>simp_all))
theorem aFK(n s:Nat)(sh:Option Nat)(x i:AOpd)(e:Env)(σ:St):aop (.index n s sh x i) e σ=(HU n s sh (x.ev e) (i.ev e)).map (·,σ):=by
 simp only[aop,HU];generalize gG (i.ev e)=q;generalize x.ev e=u;cases q<;>cases u<;>first|rfl|(dsimp only;split<;>first|rfl|simp_all|(split<;>simp_all))
theorem WA(x i:AOpd)(e:Env)(σ:St):aop (.sindex x i) e σ=(CC (x.ev e) (i.ev e)).map (·,σ):=by
 simp only[aop,CC];generalize gG (i.ev e)=q;generalize x.ev e=u;cases q<;>cases u<;>first|rfl|(dsimp only;split<;>first|rfl|(rename_i k b h;cases b[k.toNat]?<;>rfl))
theorem XP(sh:EqTy)(ok:Bool)(z:AV)(m k:AOpd)(e:Env)(σ:St):aop (.lookup sh ok z m k) e σ=(Q0 ok z (xL sh σ (m.ev e) (k.ev e))).map (·,σ):=by
 simp only[aop,Q0];cases xL sh σ (m.ev e) (k.ev e) with
 |none=>rfl
 |some o=>cases o<;>rfl
theorem ZU(sh:EqTy)(m k v:AOpd)(e:Env)(σ:St):aop (.mapset sh m k v) e σ=(B4 sh σ (m.ev e) (k.ev e) (v.ev e)).map (.tuple [],·):=by
 simp only[aop,B4];repeat' split
 all_goals simp_all
theorem aPL(x:AOpd)(i:Nat)(e:Env)(σ:St):aop (.ext x i) e σ=(aG5 i (x.ev e)).map (·,σ):=by
 simp only[aop,aG5];cases x.ev e<;>simp<;>(rename_i vs;cases vs[i]?<;>simp)
theorem aP1(k:Nat)(x:AOpd)(e:Env)(σ:St):aop (.len k x) e σ=(jI k σ (x.ev e)).map fun n=>(.int .i64 n,σ):=by
 simp only[aop];cases jI k σ (x.ev e)<;>simp
theorem aCJ(n b:Nat)(x y:AOpd)(e:Env)(σ:St):aop (.append n b x y) e σ=dH n b σ (x.ev e) (y.ev e):=by
 simp only[aop]
theorem aEQ(n b:Nat)(x y:AOpd)(e:Env)(σ:St):aop (.apref n b x y) e σ=qN n b σ (x.ev e) (y.ev e):=by
 simp only[aop]
theorem aI0(n:Nat)(x y:AOpd)(e:Env)(σ:St):aop (.copy n x y) e σ=pX n σ (x.ev e) (y.ev e):=by
 simp only[aop]
theorem aMZ(xs:List AOpd)(e:Env)(σ:St):aop (.min xs) e σ=(BR (evs e xs)).map (·,σ):=by
 simp only[aop,n7];cases BR (evs e xs)<;>simp
theorem aNJ(xs:List AOpd)(e:Env)(σ:St):aop (.max xs) e σ=(A1 (evs e xs)).map (·,σ):=by
 simp only[aop,n7];cases A1 (evs e xs)<;>simp
theorem W7(x:AOpd)(e:Env)(σ:St):aop (.srange x) e σ=(aEM (x.ev e)).map fun s=>(.ptr σ.length 0,σ++[.siter s 0]):=by
 simp only[aop,aEM];cases x.ev e<;>simp
theorem aDL(x:AOpd)(e:Env)(σ:St):aop (.snext x) e σ=AU σ (x.ev e):=by
 simp only[aop,AU];cases x.ev e<;>rfl
theorem aPZ(x:AOpd)(d:Option Nat)(os:List AOper)(e:Env)(σ:St)(K:Env->St->Prop):aN T (⟨d,.mov x,none⟩::os) e σ K=bO (K:=⟨fun v σ'=>aN T os (Env.put e d v) σ' K⟩) (aop (.mov x) e σ):=by simp only[aN,iL,bO]
theorem aGK(z:List AV)(d:Option Nat)(os:List AOper)(e:Env)(σ:St)(K:Env->St->Prop):aN T (⟨d,.alloc z,none⟩::os) e σ K=bO (K:=⟨fun v σ'=>aN T os (Env.put e d v) σ' K⟩) (aop (.alloc z) e σ):=by simp only[aN,iL,bO]
theorem aL2(c x y:AOpd)(d:Option Nat)(os:List AOper)(e:Env)(σ:St)(K:Env->St->Prop):aN T (⟨d,.pick c x y,none⟩::os) e σ K=bO (K:=⟨fun v σ'=>aN T os (Env.put e d v) σ' K⟩) (aop (.pick c x y) e σ):=by simp only[aN,iL,bO]
theorem aPE(n:Nat)(x:AOpd)(d:Option Nat)(os:List AOper)(e:Env)(σ:St)(K:Env->St->Prop):aN T (⟨d,.box n x,none⟩::os) e σ K=bO (K:=⟨fun v σ'=>aN T os (Env.put e d v) σ' K⟩) (aop (.box n x) e σ):=by simp only[aN,iL,bO]
theorem aHA(z:List AV)(ps:List (Nat×Nat×AOpd))(d:Option Nat)(os:List AOper)(e:Env)(σ:St)(K:Env->St->Prop):aN T (⟨d,.build z ps,none⟩::os) e σ K=bO (K:=⟨fun v σ'=>aN T os (Env.put e d v) σ' K⟩) (aop (.build z ps) e σ):=by simp only[aN,iL,bO]
theorem aFT(n:Nat)(xs:List AOpd)(d:Option Nat)(os:List AOper)(e:Env)(σ:St)(K:Env->St->Prop):aN T (⟨d,.mklit n xs,none⟩::os) e σ K=bO (K:=⟨fun v σ'=>aN T os (Env.put e d v) σ' K⟩) (aop (.mklit n xs) e σ):=by simp only[aN,iL,bO]
theorem aGB(n:Nat)(xs:List AOpd)(d:Option Nat)(os:List AOper)(e:Env)(σ:St)(K:Env->St->Prop):aN T (⟨d,.mkref n xs,none⟩::os) e σ K=bO (K:=⟨fun v σ'=>aN T os (Env.put e d v) σ' K⟩) (aop (.mkref n xs) e σ):=by simp only[aN,iL,bO]
theorem aK0(sh:Option Nat)(x:AOpd)(d:Option Nat)(os:List AOper)(e:Env)(σ:St)(K:Env->St->Prop):aN T (⟨d,.load sh x,none⟩::os) e σ K=bO (K:=⟨fun v σ'=>aN T os (Env.put e d v) σ' K⟩) (aop (.load sh x) e σ):=by simp only[aN,iL,bO]
theorem aEB(n:Nat)(x y:AOpd)(d:Option Nat)(os:List AOper)(e:Env)(σ:St)(K:Env->St->Prop):aN T (⟨d,.store n x y,none⟩::os) e σ K=bO (K:=⟨fun v σ'=>aN T os (Env.put e d v) σ' K⟩) (aop (.store n x y) e σ):=by simp only[aN,iL,bO]
theorem PQ(x:AOpd)(d:Option Nat)(os:List AOper)(e:Env)(σ:St)(K:Env->St->Prop):aN T (⟨d,.nilCheck x,none⟩::os) e σ K=bO (K:=⟨fun v σ'=>aN T os (Env.put e d v) σ' K⟩) (aop (.nilCheck x) e σ):=by simp only[aN,iL,bO]
theorem aN0(op:BinOp)(x y:AOpd)(d:Option Nat)(os:List AOper)(e:Env)(σ:St)(K:Env->St->Prop):aN T (⟨d,.bin op x y,none⟩::os) e σ K=bO (K:=⟨fun v σ'=>aN T os (Env.put e d v) σ' K⟩) (aop (.bin op x y) e σ):=by simp only[aN,iL,bO]
theorem aN2(sh:EqTy)(n:Bool)(x y:AOpd)(d:Option Nat)(os:List AOper)(e:Env)(σ:St)(K:Env->St->Prop):aN T (⟨d,.eql sh n x y,none⟩::os) e σ K=bO (K:=⟨fun v σ'=>aN T os (Env.put e d v) σ' K⟩) (aop (.eql sh n x y) e σ):=by simp only[aN,iL,bO]
theorem aOW(x:AOpd)(d:Option Nat)(os:List AOper)(e:Env)(σ:St)(K:Env->St->Prop):aN T (⟨d,.not x,none⟩::os) e σ K=bO (K:=⟨fun v σ'=>aN T os (Env.put e d v) σ' K⟩) (aop (.not x) e σ):=by simp only[aN,iL,bO]
theorem aNS(x:AOpd)(d:Option Nat)(os:List AOper)(e:Env)(σ:St)(K:Env->St->Prop):aN T (⟨d,.neg x,none⟩::os) e σ K=bO (K:=⟨fun v σ'=>aN T os (Env.put e d v) σ' K⟩) (aop (.neg x) e σ):=by simp only[aN,iL,bO]
theorem aJI(k:IntKind)(x:AOpd)(d:Option Nat)(os:List AOper)(e:Env)(σ:St)(K:Env->St->Prop):aN T (⟨d,.conv k x,none⟩::os) e σ K=bO (K:=⟨fun v σ'=>aN T os (Env.put e d v) σ' K⟩) (aop (.conv k x) e σ):=by simp only[aN,iL,bO]
theorem aEC(f:FuncId)(xs ys:List AOpd)(d:Option Nat)(os:List AOper)(e:Env)(σ:St)(K:Env->St->Prop):aN T (⟨d,.mkfun f xs ys,none⟩::os) e σ K=bO (K:=⟨fun v σ'=>aN T os (Env.put e d v) σ' K⟩) (aop (.mkfun f xs ys) e σ):=by simp only[aN,iL,bO]
theorem aDV(d:Option Nat)(os:List AOper)(e:Env)(σ:St)(K:Env->St->Prop):aN T (⟨d,.mkmap,none⟩::os) e σ K=bO (K:=⟨fun v σ'=>aN T os (Env.put e d v) σ' K⟩) (aop (.mkmap) e σ):=by simp only[aN,iL,bO]
theorem R2(z:List AV)(b:Nat)(x y:AOpd)(d:Option Nat)(os:List AOper)(e:Env)(σ:St)(K:Env->St->Prop):aN T (⟨d,.mkslice z b x y,none⟩::os) e σ K=bO (K:=⟨fun v σ'=>aN T os (Env.put e d v) σ' K⟩) (aop (.mkslice z b x y) e σ):=by simp only[aN,iL,bO]
theorem V0(n:Nat)(x:AOpd)(lo hi mx:Option AOpd)(d:Option Nat)(os:List AOper)(e:Env)(σ:St)(K:Env->St->Prop):aN T (⟨d,.slicev n x lo hi mx,none⟩::os) e σ K=bO (K:=⟨fun v σ'=>aN T os (Env.put e d v) σ' K⟩) (aop (.slicev n x lo hi mx) e σ):=by simp only[aN,iL,bO]
theorem WL(n s:Nat)(x:AOpd)(lo hi:Option AOpd)(d:Option Nat)(os:List AOper)(e:Env)(σ:St)(K:Env->St->Prop):aN T (⟨d,.slicea n s x lo hi,none⟩::os) e σ K=bO (K:=⟨fun v σ'=>aN T os (Env.put e d v) σ' K⟩) (aop (.slicea n s x lo hi) e σ):=by simp only[aN,iL,bO]
theorem aD6(x:AOpd)(o:Nat)(d:Option Nat)(os:List AOper)(e:Env)(σ:St)(K:Env->St->Prop):aN T (⟨d,.faddr x o,none⟩::os) e σ K=bO (K:=⟨fun v σ'=>aN T os (Env.put e d v) σ' K⟩) (aop (.faddr x o) e σ):=by simp only[aN,iL,bO]
theorem aGV(x:AOpd)(o:Nat)(sh:Option Nat)(d:Option Nat)(os:List AOper)(e:Env)(σ:St)(K:Env->St->Prop):aN T (⟨d,.field x o sh,none⟩::os) e σ K=bO (K:=⟨fun v σ'=>aN T os (Env.put e d v) σ' K⟩) (aop (.field x o sh) e σ):=by simp only[aN,iL,bO]
theorem aEP(a:Option Nat)(s:Nat)(x i:AOpd)(d:Option Nat)(os:List AOper)(e:Env)(σ:St)(K:Env->St->Prop):aN T (⟨d,.iaddr a s x i,none⟩::os) e σ K=bO (K:=⟨fun v σ'=>aN T os (Env.put e d v) σ' K⟩) (aop (.iaddr a s x i) e σ):=by simp only[aN,iL,bO]
theorem aE0(n s:Nat)(sh:Option Nat)(x i:AOpd)(d:Option Nat)(os:List AOper)(e:Env)(σ:St)(K:Env->St->Prop):aN T (⟨d,.index n s sh x i,none⟩::os) e σ K=bO (K:=⟨fun v σ'=>aN T os (Env.put e d v) σ' K⟩) (aop (.index n s sh x i) e σ):=by simp only[aN,iL,bO]
theorem VL(x i:AOpd)(d:Option Nat)(os:List AOper)(e:Env)(σ:St)(K:Env->St->Prop):aN T (⟨d,.sindex x i,none⟩::os) e σ K=bO (K:=⟨fun v σ'=>aN T os (Env.put e d v) σ' K⟩) (aop (.sindex x i) e σ):=by simp only[aN,iL,bO]
theorem aCM(sh:EqTy)(ok:Bool)(z:AV)(m k:AOpd)(d:Option Nat)(os:List AOper)(e:Env)(σ:St)(K:Env->St->Prop):aN T (⟨d,.lookup sh ok z m k,none⟩::os) e σ K=bO (K:=⟨fun v σ'=>aN T os (Env.put e d v) σ' K⟩) (aop (.lookup sh ok z m k) e σ):=by simp only[aN,iL,bO]
theorem aAC(sh:EqTy)(m k v:AOpd)(d:Option Nat)(os:List AOper)(e:Env)(σ:St)(K:Env->St->Prop):aN T (⟨d,.mapset sh m k v,none⟩::os) e σ K=bO (K:=⟨fun v σ'=>aN T os (Env.put e d v) σ' K⟩) (aop (.mapset sh m k v) e σ):=by simp only[aN,iL,bO]
theorem aOC(x:AOpd)(i:Nat)(d:Option Nat)(os:List AOper)(e:Env)(σ:St)(K:Env->St->Prop):aN T (⟨d,.ext x i,none⟩::os) e σ K=bO (K:=⟨fun v σ'=>aN T os (Env.put e d v) σ' K⟩) (aop (.ext x i) e σ):=by simp only[aN,iL,bO]
theorem aMR(k:Nat)(x:AOpd)(d:Option Nat)(os:List AOper)(e:Env)(σ:St)(K:Env->St->Prop):aN T (⟨d,.len k x,none⟩::os) e σ K=bO (K:=⟨fun v σ'=>aN T os (Env.put e d v) σ' K⟩) (aop (.len k x) e σ):=by simp only[aN,iL,bO]
theorem V8(n b:Nat)(x y:AOpd)(d:Option Nat)(os:List AOper)(e:Env)(σ:St)(K:Env->St->Prop):aN T (⟨d,.append n b x y,none⟩::os) e σ K=bO (K:=⟨fun v σ'=>aN T os (Env.put e d v) σ' K⟩) (aop (.append n b x y) e σ):=by simp only[aN,iL,bO]
theorem aFW(n b:Nat)(x y:AOpd)(d:Option Nat)(os:List AOper)(e:Env)(σ:St)(K:Env->St->Prop):aN T (⟨d,.apref n b x y,none⟩::os) e σ K=bO (K:=⟨fun v σ'=>aN T os (Env.put e d v) σ' K⟩) (aop (.apref n b x y) e σ):=by simp only[aN,iL,bO]
theorem aKN(n:Nat)(x y:AOpd)(d:Option Nat)(os:List AOper)(e:Env)(σ:St)(K:Env->St->Prop):aN T (⟨d,.copy n x y,none⟩::os) e σ K=bO (K:=⟨fun v σ'=>aN T os (Env.put e d v) σ' K⟩) (aop (.copy n x y) e σ):=by simp only[aN,iL,bO]
theorem aPJ(xs:List AOpd)(d:Option Nat)(os:List AOper)(e:Env)(σ:St)(K:Env->St->Prop):aN T (⟨d,.min xs,none⟩::os) e σ K=bO (K:=⟨fun v σ'=>aN T os (Env.put e d v) σ' K⟩) (aop (.min xs) e σ):=by simp only[aN,iL,bO]
theorem aOF(xs:List AOpd)(d:Option Nat)(os:List AOper)(e:Env)(σ:St)(K:Env->St->Prop):aN T (⟨d,.max xs,none⟩::os) e σ K=bO (K:=⟨fun v σ'=>aN T os (Env.put e d v) σ' K⟩) (aop (.max xs) e σ):=by simp only[aN,iL,bO]
theorem aAT(x:AOpd)(d:Option Nat)(os:List AOper)(e:Env)(σ:St)(K:Env->St->Prop):aN T (⟨d,.srange x,none⟩::os) e σ K=bO (K:=⟨fun v σ'=>aN T os (Env.put e d v) σ' K⟩) (aop (.srange x) e σ):=by simp only[aN,iL,bO]
theorem aG4(x:AOpd)(d:Option Nat)(os:List AOper)(e:Env)(σ:St)(K:Env->St->Prop):aN T (⟨d,.snext x,none⟩::os) e σ K=bO (K:=⟨fun v σ'=>aN T os (Env.put e d v) σ' K⟩) (aop (.snext x) e σ):=by simp only[aN,iL,bO]
theorem aMF(f:AOpd)(xs:List AOpd)(d:Option Nat)(os:List AOper)(e:Env)(σ:St)(K:Env->St->Prop):aN T (⟨d,.call f xs,none⟩::os) e σ K=cK (K:=⟨fun v σ'=>aN T os (Env.put e d v) σ' K⟩) T (f.ev e) (evs e xs) σ:=by simp only[aN,iL,n7,cK]
theorem aGY(b:Bool)(A B:HP Prop):bB (.bool b) (A:=A) (B:=B)=B1 (A:=A) (B:=B) b:=by cases b<;>simp[bB,C4,B1]
theorem aDC(b:Bool)(A B:HP Prop):bG (.bool b) true (A:=A) (B:=B)=B1 (A:=A) (B:=B) b:=by cases b<;>simp[bG,qB,B1]
theorem YG(b:Bool)(A B:HP Prop):bG (.bool b) false (A:=A) (B:=B)=B1 (A:=B) (B:=A) b:=by cases b<;>simp[bG,qB,B1]
theorem V9(w:Bool)(A:HP Prop)(B:Prop):bG (.tuple []) w (A:=A) (B:=⟨B⟩)=B:=by simp[bG,qB]
theorem aE5(d:Option Nat)(q:AOp)(t:Nat)(want:Bool)(os:List AOper)(e:Env)(σ:St)(K:Env->St->Prop):aN T (⟨d,q,some (t,want)⟩::os) e σ K =
  bG (A:=⟨aN T (⟨d,q,none⟩::os) e σ K⟩) (B:=⟨aN T os (Env.put e d (.tuple [])) σ K⟩) (Env.get e t) want:=by simp only[aN,bG]
theorem aO1(ds:List ADOper)(e:Env)(σ:St)(K:KJ):wp T (.dreg ds) e σ K=rK (K:=⟨K⟩) T (.dreg ds) e σ:=by simp only[wp,rK]
theorem QQ{ds:List ADOper}{e:Env}{σ:St}{K:KJ}(h:wpD T ds e (σ++eI ds) σ.length [σ++eI ds] [] fun e σ=>K none e σ):rK (K:=⟨K⟩) T (.dreg ds) e σ:=.dreg (lX h fun e σ hk=>hk)
theorem aOR(e:Env)(σ:St)(next:Nat)(hist:List St)(reads:List ARead)(K:Env->St->Prop):wpD T [] e σ next hist reads K=(sE reads hist/\K e σ):=by simp only[wpD]
theorem aJ4(f:AOpd)(xs:List AOpd)(d:Option Nat)(lo hi:Nat)(ds:List ADOper)(e:Env)(σ:St)(next:Nat)(hist:List St)(reads:List ARead)(K:Env->St->Prop):
  wpD T (⟨⟨d,.call f xs,none⟩,lo,hi⟩::ds) e σ next hist reads K=cD (K:=⟨fun v σ'=>wpD T ds (Env.put e d v) σ' next (hist++[σ']) reads K⟩) T (f.ev e) (evs e xs) σ:=by simp only[wpD,n7,cD]
theorem aHB(z:List AV)(d:Option Nat)(lo hi:Nat)(ds:List ADOper)(e:Env)(σ:St)(next:Nat)(hist:List St)(reads:List ARead)(K:Env->St->Prop):
  wpD T (⟨⟨d,.alloc z,none⟩,lo,hi⟩::ds) e σ next hist reads K=wpD T ds (Env.put e d (.ptr next 0)) σ (next+1) hist reads K:=by simp only[wpD]
def wF(lo hi:Nat)(q:AOp)(e:Env)(v:AV):List St->Nat->Prop
 |[],_=>True
 |s::ss,j=>(if lo<=j/\j<=hi then aop q e s=some (v,s) else True)/\wF lo hi q e v ss (j+1)
theorem JU(r:ARead):∀ (ss:List St) (j:Nat),wF r.lo r.hi r.op r.env r.v ss j=GN r ss j
 |[],j=>by simp only[wF,GN]
 |s::ss,j=>by simp only[wF,GN,JU r ss (j+1)]
theorem U7(hist:List St):sE [] hist=True:=by simp only[sE]
theorem Z8(lo hi:Nat)(q:AOp)(e:Env)(v:AV)(rs:List ARead)(hist:List St):sE (⟨lo,hi,q,e,v⟩::rs) hist=(wF lo hi q e v hist 0/\sE rs hist):=by
 simp only[sE];rw[<-JU]
theorem aD8(lo hi:Nat)(q:AOp)(e:Env)(v:AV)(j:Nat):wF lo hi q e v [] j=True:=by simp only[wF]
theorem aFZ(lo hi:Nat)(q:AOp)(e:Env)(v:AV)(s:St)(ss:List St)(j:Nat):wF lo hi q e v (s::ss) j=((if lo<=j/\j<=hi then aop q e s=some (v,s) else True)/\wF lo hi q e v ss (j+1)):=by simp only[wF]
theorem aO8(x:AOpd)(d:Option Nat)(wl wh:Nat)(ds:List ADOper)(e:Env)(σ:St)(next:Nat)(hist:List St)(reads:List ARead)(K:Env->St->Prop):wpD T (⟨⟨d,.mov x,none⟩,wl,wh⟩::ds) e σ next hist reads K=bO (K:=⟨fun v σ'=>σ'=σ/\wpD T ds (Env.put e d v) σ next hist reads K⟩) (aop (.mov x) e σ):=by
 simp only[wpD,bO,AOp.acts,AOp.reads,if_true,Bool.false_eq_true,if_false]
theorem aKT(c x y:AOpd)(d:Option Nat)(wl wh:Nat)(ds:List ADOper)(e:Env)(σ:St)(next:Nat)(hist:List St)(reads:List ARead)(K:Env->St->Prop):wpD T (⟨⟨d,.pick c x y,none⟩,wl,wh⟩::ds) e σ next hist reads K=bO (K:=⟨fun v σ'=>σ'=σ/\wpD T ds (Env.put e d v) σ next hist reads K⟩) (aop (.pick c x y) e σ):=by
 simp only[wpD,bO,AOp.acts,AOp.reads,if_true,Bool.false_eq_true,if_false]
theorem aP0(n:Nat)(x:AOpd)(d:Option Nat)(wl wh:Nat)(ds:List ADOper)(e:Env)(σ:St)(next:Nat)(hist:List St)(reads:List ARead)(K:Env->St->Prop):wpD T (⟨⟨d,.box n x,none⟩,wl,wh⟩::ds) e σ next hist reads K=bO (K:=⟨fun v σ'=>wpD T ds (Env.put e d v) σ' next (hist++[σ']) reads K⟩) (aop (.box n x) e σ):=by
 simp only[wpD,bO,AOp.acts,AOp.reads,if_true,Bool.false_eq_true,if_false]
theorem aG2(z:List AV)(ps:List (Nat×Nat×AOpd))(d:Option Nat)(wl wh:Nat)(ds:List ADOper)(e:Env)(σ:St)(next:Nat)(hist:List St)(reads:List ARead)(K:Env->St->Prop):wpD T (⟨⟨d,.build z ps,none⟩,wl,wh⟩::ds) e σ next hist reads K=bO (K:=⟨fun v σ'=>σ'=σ/\wpD T ds (Env.put e d v) σ next hist reads K⟩) (aop (.build z ps) e σ):=by
 simp only[wpD,bO,AOp.acts,AOp.reads,if_true,Bool.false_eq_true,if_false]
theorem aF4(n:Nat)(xs:List AOpd)(d:Option Nat)(wl wh:Nat)(ds:List ADOper)(e:Env)(σ:St)(next:Nat)(hist:List St)(reads:List ARead)(K:Env->St->Prop):wpD T (⟨⟨d,.mklit n xs,none⟩,wl,wh⟩::ds) e σ next hist reads K=bO (K:=⟨fun v σ'=>σ'=σ/\wpD T ds (Env.put e d v) σ next hist reads K⟩) (aop (.mklit n xs) e σ):=by
 simp only[wpD,bO,AOp.acts,AOp.reads,if_true,Bool.false_eq_true,if_false]
theorem aE3(n:Nat)(xs:List AOpd)(d:Option Nat)(wl wh:Nat)(ds:List ADOper)(e:Env)(σ:St)(next:Nat)(hist:List St)(reads:List ARead)(K:Env->St->Prop):wpD T (⟨⟨d,.mkref n xs,none⟩,wl,wh⟩::ds) e σ next hist reads K=bO (K:=⟨fun v σ'=>wpD T ds (Env.put e d v) σ' next (hist++[σ']) reads K⟩) (aop (.mkref n xs) e σ):=by
 simp only[wpD,bO,AOp.acts,AOp.reads,if_true,Bool.false_eq_true,if_false]
theorem aJP(sh:Option Nat)(x:AOpd)(d:Option Nat)(wl wh:Nat)(ds:List ADOper)(e:Env)(σ:St)(next:Nat)(hist:List St)(reads:List ARead)(K:Env->St->Prop):wpD T (⟨⟨d,.load sh x,none⟩,wl,wh⟩::ds) e σ next hist reads K=bO (K:=⟨fun v σ'=>σ'=σ/\wpD T ds (Env.put e d v) σ next hist (⟨wl,wh,.load sh x,e,v⟩::reads) K⟩) (aop (.load sh x) e σ):=by
 simp only[wpD,bO,AOp.acts,AOp.reads,if_true,Bool.false_eq_true,if_false]
theorem aGA(n:Nat)(x y:AOpd)(d:Option Nat)(wl wh:Nat)(ds:List ADOper)(e:Env)(σ:St)(next:Nat)(hist:List St)(reads:List ARead)(K:Env->St->Prop):wpD T (⟨⟨d,.store n x y,none⟩,wl,wh⟩::ds) e σ next hist reads K=bO (K:=⟨fun v σ'=>wpD T ds (Env.put e d v) σ' next (hist++[σ']) reads K⟩) (aop (.store n x y) e σ):=by
 simp only[wpD,bO,AOp.acts,AOp.reads,if_true,Bool.false_eq_true,if_false]
theorem M7(x:AOpd)(d:Option Nat)(wl wh:Nat)(ds:List ADOper)(e:Env)(σ:St)(next:Nat)(hist:List St)(reads:List ARead)(K:Env->St->Prop):wpD T (⟨⟨d,.nilCheck x,none⟩,wl,wh⟩::ds) e σ next hist reads K=bO (K:=⟨fun v σ'=>σ'=σ/\wpD T ds (Env.put e d v) σ next hist reads K⟩) (aop (.nilCheck x) e σ):=by
 simp only[wpD,bO,AOp.acts,AOp.reads,if_true,Bool.false_eq_true,if_false]
theorem aPM(op:BinOp)(x y:AOpd)(d:Option Nat)(wl wh:Nat)(ds:List ADOper)(e:Env)(σ:St)(next:Nat)(hist:List St)(reads:List ARead)(K:Env->St->Prop):wpD T (⟨⟨d,.bin op x y,none⟩,wl,wh⟩::ds) e σ next hist reads K=bO (K:=⟨fun v σ'=>σ'=σ/\wpD T ds (Env.put e d v) σ next hist reads K⟩) (aop (.bin op x y) e σ):=by
 simp only[wpD,bO,AOp.acts,AOp.reads,if_true,Bool.false_eq_true,if_false]
theorem aNT(sh:EqTy)(n:Bool)(x y:AOpd)(d:Option Nat)(wl wh:Nat)(ds:List ADOper)(e:Env)(σ:St)(next:Nat)(hist:List St)(reads:List ARead)(K:Env->St->Prop):wpD T (⟨⟨d,.eql sh n x y,none⟩,wl,wh⟩::ds) e σ next hist reads K=bO (K:=⟨fun v σ'=>σ'=σ/\wpD T ds (Env.put e d v) σ next hist reads K⟩) (aop (.eql sh n x y) e σ):=by
 simp only[wpD,bO,AOp.acts,AOp.reads,if_true,Bool.false_eq_true,if_false]
theorem aO6(x:AOpd)(d:Option Nat)(wl wh:Nat)(ds:List ADOper)(e:Env)(σ:St)(next:Nat)(hist:List St)(reads:List ARead)(K:Env->St->Prop):wpD T (⟨⟨d,.not x,none⟩,wl,wh⟩::ds) e σ next hist reads K=bO (K:=⟨fun v σ'=>σ'=σ/\wpD T ds (Env.put e d v) σ next hist reads K⟩) (aop (.not x) e σ):=by
 simp only[wpD,bO,AOp.acts,AOp.reads,if_true,Bool.false_eq_true,if_false]
theorem aND(x:AOpd)(d:Option Nat)(wl wh:Nat)(ds:List ADOper)(e:Env)(σ:St)(next:Nat)(hist:List St)(reads:List ARead)(K:Env->St->Prop):wpD T (⟨⟨d,.neg x,none⟩,wl,wh⟩::ds) e σ next hist reads K=bO (K:=⟨fun v σ'=>σ'=σ/\wpD T ds (Env.put e d v) σ next hist reads K⟩) (aop (.neg x) e σ):=by
 simp only[wpD,bO,AOp.acts,AOp.reads,if_true,Bool.false_eq_true,if_false]
theorem aJD(k:IntKind)(x:AOpd)(d:Option Nat)(wl wh:Nat)(ds:List ADOper)(e:Env)(σ:St)(next:Nat)(hist:List St)(reads:List ARead)(K:Env->St->Prop):wpD T (⟨⟨d,.conv k x,none⟩,wl,wh⟩::ds) e σ next hist reads K=bO (K:=⟨fun v σ'=>σ'=σ/\wpD T ds (Env.put e d v) σ next hist reads K⟩) (aop (.conv k x) e σ):=by
 simp only[wpD,bO,AOp.acts,AOp.reads,if_true,Bool.false_eq_true,if_false]
theorem aE9(f:FuncId)(xs ys:List AOpd)(d:Option Nat)(wl wh:Nat)(ds:List ADOper)(e:Env)(σ:St)(next:Nat)(hist:List St)(reads:List ARead)(K:Env->St->Prop):wpD T (⟨⟨d,.mkfun f xs ys,none⟩,wl,wh⟩::ds) e σ next hist reads K=bO (K:=⟨fun v σ'=>σ'=σ/\wpD T ds (Env.put e d v) σ next hist reads K⟩) (aop (.mkfun f xs ys) e σ):=by
 simp only[wpD,bO,AOp.acts,AOp.reads,if_true,Bool.false_eq_true,if_false]
theorem aEH(d:Option Nat)(wl wh:Nat)(ds:List ADOper)(e:Env)(σ:St)(next:Nat)(hist:List St)(reads:List ARead)(K:Env->St->Prop):wpD T (⟨⟨d,.mkmap,none⟩,wl,wh⟩::ds) e σ next hist reads K=bO (K:=⟨fun v σ'=>wpD T ds (Env.put e d v) σ' next (hist++[σ']) reads K⟩) (aop (.mkmap) e σ):=by
 simp only[wpD,bO,AOp.acts,AOp.reads,if_true,Bool.false_eq_true,if_false]
theorem TX(z:List AV)(b:Nat)(x y:AOpd)(d:Option Nat)(wl wh:Nat)(ds:List ADOper)(e:Env)(σ:St)(next:Nat)(hist:List St)(reads:List ARead)(K:Env->St->Prop):wpD T (⟨⟨d,.mkslice z b x y,none⟩,wl,wh⟩::ds) e σ next hist reads K=bO (K:=⟨fun v σ'=>wpD T ds (Env.put e d v) σ' next (hist++[σ']) reads K⟩) (aop (.mkslice z b x y) e σ):=by
 simp only[wpD,bO,AOp.acts,AOp.reads,if_true,Bool.false_eq_true,if_false]
theorem aCZ(n:Nat)(x:AOpd)(lo hi mx:Option AOpd)(d:Option Nat)(wl wh:Nat)(ds:List ADOper)(e:Env)(σ:St)(next:Nat)(hist:List St)(reads:List ARead)(K:Env->St->Prop):wpD T (⟨⟨d,.slicev n x lo hi mx,none⟩,wl,wh⟩::ds) e σ next hist reads K=bO (K:=⟨fun v σ'=>σ'=σ/\wpD T ds (Env.put e d v) σ next hist (⟨wl,wh,.slicev n x lo hi mx,e,v⟩::reads) K⟩) (aop (.slicev n x lo hi mx) e σ):=by
 simp only[wpD,bO,AOp.acts,AOp.reads,if_true,Bool.false_eq_true,if_false]
theorem VS(n s:Nat)(x:AOpd)(lo hi:Option AOpd)(d:Option Nat)(wl wh:Nat)(ds:List ADOper)(e:Env)(σ:St)(next:Nat)(hist:List St)(reads:List ARead)(K:Env->St->Prop):wpD T (⟨⟨d,.slicea n s x lo hi,none⟩,wl,wh⟩::ds) e σ next hist reads K=bO (K:=⟨fun v σ'=>σ'=σ/\wpD T ds (Env.put e d v) σ next hist reads K⟩) (aop (.slicea n s x lo hi) e σ):=by
 simp only[wpD,bO,AOp.acts,AOp.reads,if_true,Bool.false_eq_true,if_false]
theorem aGG(x:AOpd)(o:Nat)(d:Option Nat)(wl wh:Nat)(ds:List ADOper)(e:Env)(σ:St)(next:Nat)(hist:List St)(reads:List ARead)(K:Env->St->Prop):wpD T (⟨⟨d,.faddr x o,none⟩,wl,wh⟩::ds) e σ next hist reads K=bO (K:=⟨fun v σ'=>σ'=σ/\wpD T ds (Env.put e d v) σ next hist reads K⟩) (aop (.faddr x o) e σ):=by
 simp only[wpD,bO,AOp.acts,AOp.reads,if_true,Bool.false_eq_true,if_false]
theorem aEG(x:AOpd)(o:Nat)(sh:Option Nat)(d:Option Nat)(wl wh:Nat)(ds:List ADOper)(e:Env)(σ:St)(next:Nat)(hist:List St)(reads:List ARead)(K:Env->St->Prop):wpD T (⟨⟨d,.field x o sh,none⟩,wl,wh⟩::ds) e σ next hist reads K=bO (K:=⟨fun v σ'=>σ'=σ/\wpD T ds (Env.put e d v) σ next hist reads K⟩) (aop (.field x o sh) e σ):=by
 simp only[wpD,bO,AOp.acts,AOp.reads,if_true,Bool.false_eq_true,if_false]
theorem aGS(a:Option Nat)(s:Nat)(x i:AOpd)(d:Option Nat)(wl wh:Nat)(ds:List ADOper)(e:Env)(σ:St)(next:Nat)(hist:List St)(reads:List ARead)(K:Env->St->Prop):wpD T (⟨⟨d,.iaddr a s x i,none⟩,wl,wh⟩::ds) e σ next hist reads K=bO (K:=⟨fun v σ'=>σ'=σ/\wpD T ds (Env.put e d v) σ next hist reads K⟩) (aop (.iaddr a s x i) e σ):=by
 simp only[wpD,bO,AOp.acts,AOp.reads,if_true,Bool.false_eq_true,if_false]
theorem aFL(n s:Nat)(sh:Option Nat)(x i:AOpd)(d:Option Nat)(wl wh:Nat)(ds:List ADOper)(e:Env)(σ:St)(next:Nat)(hist:List St)(reads:List ARead)(K:Env->St->Prop):wpD T (⟨⟨d,.index n s sh x i,none⟩,wl,wh⟩::ds) e σ next hist reads K=bO (K:=⟨fun v σ'=>σ'=σ/\wpD T ds (Env.put e d v) σ next hist reads K⟩) (aop (.index n s sh x i) e σ):=by
 simp only[wpD,bO,AOp.acts,AOp.reads,if_true,Bool.false_eq_true,if_false]
theorem VQ(x i:AOpd)(d:Option Nat)(wl wh:Nat)(ds:List ADOper)(e:Env)(σ:St)(next:Nat)(hist:List St)(reads:List ARead)(K:Env->St->Prop):wpD T (⟨⟨d,.sindex x i,none⟩,wl,wh⟩::ds) e σ next hist reads K=bO (K:=⟨fun v σ'=>σ'=σ/\wpD T ds (Env.put e d v) σ next hist reads K⟩) (aop (.sindex x i) e σ):=by
 simp only[wpD,bO,AOp.acts,AOp.reads,if_true,Bool.false_eq_true,if_false]
theorem W0(sh:EqTy)(ok:Bool)(z:AV)(m k:AOpd)(d:Option Nat)(wl wh:Nat)(ds:List ADOper)(e:Env)(σ:St)(next:Nat)(hist:List St)(reads:List ARead)(K:Env->St->Prop):wpD T (⟨⟨d,.lookup sh ok z m k,none⟩,wl,wh⟩::ds) e σ next hist reads K=bO (K:=⟨fun v σ'=>σ'=σ/\wpD T ds (Env.put e d v) σ next hist (⟨wl,wh,.lookup sh ok z m k,e,v⟩::reads) K⟩) (aop (.lookup sh ok z m k) e σ):=by
 simp only[wpD,bO,AOp.acts,AOp.reads,if_true,Bool.false_eq_true,if_false]
theorem UK(sh:EqTy)(m k v:AOpd)(d:Option Nat)(wl wh:Nat)(ds:List ADOper)(e:Env)(σ:St)(next:Nat)(hist:List St)(reads:List ARead)(K:Env->St->Prop):wpD T (⟨⟨d,.mapset sh m k v,none⟩,wl,wh⟩::ds) e σ next hist reads K=bO (K:=⟨fun v σ'=>wpD T ds (Env.put e d v) σ' next (hist++[σ']) reads K⟩) (aop (.mapset sh m k v) e σ):=by
 simp only[wpD,bO,AOp.acts,AOp.reads,if_true,Bool.false_eq_true,if_false]
theorem aP4(x:AOpd)(i:Nat)(d:Option Nat)(wl wh:Nat)(ds:List ADOper)(e:Env)(σ:St)(next:Nat)(hist:List St)(reads:List ARead)(K:Env->St->Prop):wpD T (⟨⟨d,.ext x i,none⟩,wl,wh⟩::ds) e σ next hist reads K=bO (K:=⟨fun v σ'=>σ'=σ/\wpD T ds (Env.put e d v) σ next hist reads K⟩) (aop (.ext x i) e σ):=by
 simp only[wpD,bO,AOp.acts,AOp.reads,if_true,Bool.false_eq_true,if_false]
theorem aPV(k:Nat)(x:AOpd)(d:Option Nat)(wl wh:Nat)(ds:List ADOper)(e:Env)(σ:St)(next:Nat)(hist:List St)(reads:List ARead)(K:Env->St->Prop):wpD T (⟨⟨d,.len k x,none⟩,wl,wh⟩::ds) e σ next hist reads K=bO (K:=⟨fun v σ'=>σ'=σ/\wpD T ds (Env.put e d v) σ next hist (⟨wl,wh,.len k x,e,v⟩::reads) K⟩) (aop (.len k x) e σ):=by
 simp only[wpD,bO,AOp.acts,AOp.reads,if_true,Bool.false_eq_true,if_false]
theorem Z1(n b:Nat)(x y:AOpd)(d:Option Nat)(wl wh:Nat)(ds:List ADOper)(e:Env)(σ:St)(next:Nat)(hist:List St)(reads:List ARead)(K:Env->St->Prop):wpD T (⟨⟨d,.append n b x y,none⟩,wl,wh⟩::ds) e σ next hist reads K=bO (K:=⟨fun v σ'=>wpD T ds (Env.put e d v) σ' next (hist++[σ']) reads K⟩) (aop (.append n b x y) e σ):=by
 simp only[wpD,bO,AOp.acts,AOp.reads,if_true,Bool.false_eq_true,if_false]
theorem aGT(n b:Nat)(x y:AOpd)(d:Option Nat)(wl wh:Nat)(ds:List ADOper)(e:Env)(σ:St)(next:Nat)(hist:List St)(reads:List ARead)(K:Env->St->Prop):wpD T (⟨⟨d,.apref n b x y,none⟩,wl,wh⟩::ds) e σ next hist reads K=bO (K:=⟨fun v σ'=>wpD T ds (Env.put e d v) σ' next (hist++[σ']) reads K⟩) (aop (.apref n b x y) e σ):=by
 simp only[wpD,bO,AOp.acts,AOp.reads,if_true,Bool.false_eq_true,if_false]
theorem aMH(n:Nat)(x y:AOpd)(d:Option Nat)(wl wh:Nat)(ds:List ADOper)(e:Env)(σ:St)(next:Nat)(hist:List St)(reads:List ARead)(K:Env->St->Prop):wpD T (⟨⟨d,.copy n x y,none⟩,wl,wh⟩::ds) e σ next hist reads K=bO (K:=⟨fun v σ'=>wpD T ds (Env.put e d v) σ' next (hist++[σ']) reads K⟩) (aop (.copy n x y) e σ):=by
 simp only[wpD,bO,AOp.acts,AOp.reads,if_true,Bool.false_eq_true,if_false]
theorem aMT(xs:List AOpd)(d:Option Nat)(wl wh:Nat)(ds:List ADOper)(e:Env)(σ:St)(next:Nat)(hist:List St)(reads:List ARead)(K:Env->St->Prop):wpD T (⟨⟨d,.min xs,none⟩,wl,wh⟩::ds) e σ next hist reads K=bO (K:=⟨fun v σ'=>σ'=σ/\wpD T ds (Env.put e d v) σ next hist reads K⟩) (aop (.min xs) e σ):=by
 simp only[wpD,bO,AOp.acts,AOp.reads,if_true,Bool.false_eq_true,if_false]
theorem aMX(xs:List AOpd)(d:Option Nat)(wl wh:Nat)(ds:List ADOper)(e:Env)(σ:St)(next:Nat)(hist:List St)(reads:List ARead)(K:Env->St->Prop):wpD T (⟨⟨d,.max xs,none⟩,wl,wh⟩::ds) e σ next hist reads K=bO (K:=⟨fun v σ'=>σ'=σ/\wpD T ds (Env.put e d v) σ next hist reads K⟩) (aop (.max xs) e σ):=by
 simp only[wpD,bO,AOp.acts,AOp.reads,if_true,Bool.false_eq_true,if_false]
theorem aBJ(x:AOpd)(d:Option Nat)(wl wh:Nat)(ds:List ADOper)(e:Env)(σ:St)(next:Nat)(hist:List St)(reads:List ARead)(K:Env->St->Prop):wpD T (⟨⟨d,.srange x,none⟩,wl,wh⟩::ds) e σ next hist reads K=bO (K:=⟨fun v σ'=>wpD T ds (Env.put e d v) σ' next (hist++[σ']) reads K⟩) (aop (.srange x) e σ):=by
 simp only[wpD,bO,AOp.acts,AOp.reads,if_true,Bool.false_eq_true,if_false]
theorem aEI(x:AOpd)(d:Option Nat)(wl wh:Nat)(ds:List ADOper)(e:Env)(σ:St)(next:Nat)(hist:List St)(reads:List ARead)(K:Env->St->Prop):wpD T (⟨⟨d,.snext x,none⟩,wl,wh⟩::ds) e σ next hist reads K=bO (K:=⟨fun v σ'=>wpD T ds (Env.put e d v) σ' next (hist++[σ']) reads K⟩) (aop (.snext x) e σ):=by
 simp only[wpD,bO,AOp.acts,AOp.reads,if_true,Bool.false_eq_true,if_false]
theorem X0(f:AOpd)(xs:List AOpd)(t:Nat)(want:Bool)(d:Option Nat)(wl wh:Nat)(ds:List ADOper)(e:Env)(σ:St)(next:Nat)(hist:List St)(reads:List ARead)(K:Env->St->Prop):wpD T (⟨⟨d,.call f xs,some (t,want)⟩,wl,wh⟩::ds) e σ next hist reads K =
  bG (A:=⟨wpD T (⟨⟨d,.call f xs,none⟩,wl,wh⟩::ds) e σ next hist reads K⟩) (B:=⟨wpD T ds (Env.put e d (.tuple [])) σ next (hist++[σ]) reads K⟩) (Env.get e t) want:=by simp only[wpD,bG]
theorem aOT(x:AOpd)(t:Nat)(want:Bool)(d:Option Nat)(wl wh:Nat)(ds:List ADOper)(e:Env)(σ:St)(next:Nat)(hist:List St)(reads:List ARead)(K:Env->St->Prop):wpD T (⟨⟨d,.mov x,some (t,want)⟩,wl,wh⟩::ds) e σ next hist reads K =
  bG (A:=⟨wpD T (⟨⟨d,.mov x,none⟩,wl,wh⟩::ds) e σ next hist reads K⟩) (B:=⟨wpD T ds (Env.put e d (.tuple [])) σ next hist reads K⟩) (Env.get e t) want:=by
 simp only[wpD,bG,AOp.allocs,AOp.acts,true_and,if_true,Bool.false_eq_true,if_false]
theorem aJN(c x y:AOpd)(t:Nat)(want:Bool)(d:Option Nat)(wl wh:Nat)(ds:List ADOper)(e:Env)(σ:St)(next:Nat)(hist:List St)(reads:List ARead)(K:Env->St->Prop):wpD T (⟨⟨d,.pick c x y,some (t,want)⟩,wl,wh⟩::ds) e σ next hist reads K =
  bG (A:=⟨wpD T (⟨⟨d,.pick c x y,none⟩,wl,wh⟩::ds) e σ next hist reads K⟩) (B:=⟨wpD T ds (Env.put e d (.tuple [])) σ next hist reads K⟩) (Env.get e t) want:=by
 simp only[wpD,bG,AOp.allocs,AOp.acts,true_and,if_true,Bool.false_eq_true,if_false]
theorem aOK(n:Nat)(x:AOpd)(t:Nat)(want:Bool)(d:Option Nat)(wl wh:Nat)(ds:List ADOper)(e:Env)(σ:St)(next:Nat)(hist:List St)(reads:List ARead)(K:Env->St->Prop):wpD T (⟨⟨d,.box n x,some (t,want)⟩,wl,wh⟩::ds) e σ next hist reads K =
  bG (A:=⟨wpD T (⟨⟨d,.box n x,none⟩,wl,wh⟩::ds) e σ next hist reads K⟩) (B:=⟨wpD T ds (Env.put e d (.tuple [])) σ next (hist++[σ]) reads K⟩) (Env.get e t) want:=by
 simp only[wpD,bG,AOp.allocs,AOp.acts,true_and,if_true,Bool.false_eq_true,if_false]
theorem aEK(z:List AV)(ps:List (Nat×Nat×AOpd))(t:Nat)(want:Bool)(d:Option Nat)(wl wh:Nat)(ds:List ADOper)(e:Env)(σ:St)(next:Nat)(hist:List St)(reads:List ARead)(K:Env->St->Prop):wpD T (⟨⟨d,.build z ps,some (t,want)⟩,wl,wh⟩::ds) e σ next hist reads K =
  bG (A:=⟨wpD T (⟨⟨d,.build z ps,none⟩,wl,wh⟩::ds) e σ next hist reads K⟩) (B:=⟨wpD T ds (Env.put e d (.tuple [])) σ next hist reads K⟩) (Env.get e t) want:=by
 simp only[wpD,bG,AOp.allocs,AOp.acts,true_and,if_true,Bool.false_eq_true,if_false]
theorem aG1(n:Nat)(xs:List AOpd)(t:Nat)(want:Bool)(d:Option Nat)(wl wh:Nat)(ds:List ADOper)(e:Env)(σ:St)(next:Nat)(hist:List St)(reads:List ARead)(K:Env->St->Prop):wpD T (⟨⟨d,.mklit n xs,some (t,want)⟩,wl,wh⟩::ds) e σ next hist reads K =
  bG (A:=⟨wpD T (⟨⟨d,.mklit n xs,none⟩,wl,wh⟩::ds) e σ next hist reads K⟩) (B:=⟨wpD T ds (Env.put e d (.tuple [])) σ next hist reads K⟩) (Env.get e t) want:=by
 simp only[wpD,bG,AOp.allocs,AOp.acts,true_and,if_true,Bool.false_eq_true,if_false]
theorem aFQ(n:Nat)(xs:List AOpd)(t:Nat)(want:Bool)(d:Option Nat)(wl wh:Nat)(ds:List ADOper)(e:Env)(σ:St)(next:Nat)(hist:List St)(reads:List ARead)(K:Env->St->Prop):wpD T (⟨⟨d,.mkref n xs,some (t,want)⟩,wl,wh⟩::ds) e σ next hist reads K =
  bG (A:=⟨wpD T (⟨⟨d,.mkref n xs,none⟩,wl,wh⟩::ds) e σ next hist reads K⟩) (B:=⟨wpD T ds (Env.put e d (.tuple [])) σ next (hist++[σ]) reads K⟩) (Env.get e t) want:=by
 simp only[wpD,bG,AOp.allocs,AOp.acts,true_and,if_true,Bool.false_eq_true,if_false]
theorem aIX(sh:Option Nat)(x:AOpd)(t:Nat)(want:Bool)(d:Option Nat)(wl wh:Nat)(ds:List ADOper)(e:Env)(σ:St)(next:Nat)(hist:List St)(reads:List ARead)(K:Env->St->Prop):wpD T (⟨⟨d,.load sh x,some (t,want)⟩,wl,wh⟩::ds) e σ next hist reads K =
  bG (A:=⟨wpD T (⟨⟨d,.load sh x,none⟩,wl,wh⟩::ds) e σ next hist reads K⟩) (B:=⟨wpD T ds (Env.put e d (.tuple [])) σ next hist reads K⟩) (Env.get e t) want:=by
 simp only[wpD,bG,AOp.allocs,AOp.acts,true_and,if_true,Bool.false_eq_true,if_false]
theorem aFU(n:Nat)(x y:AOpd)(t:Nat)(want:Bool)(d:Option Nat)(wl wh:Nat)(ds:List ADOper)(e:Env)(σ:St)(next:Nat)(hist:List St)(reads:List ARead)(K:Env->St->Prop):wpD T (⟨⟨d,.store n x y,some (t,want)⟩,wl,wh⟩::ds) e σ next hist reads K =
  bG (A:=⟨wpD T (⟨⟨d,.store n x y,none⟩,wl,wh⟩::ds) e σ next hist reads K⟩) (B:=⟨wpD T ds (Env.put e d (.tuple [])) σ next (hist++[σ]) reads K⟩) (Env.get e t) want:=by
 simp only[wpD,bG,AOp.allocs,AOp.acts,true_and,if_true,Bool.false_eq_true,if_false]
theorem PF(x:AOpd)(t:Nat)(want:Bool)(d:Option Nat)(wl wh:Nat)(ds:List ADOper)(e:Env)(σ:St)(next:Nat)(hist:List St)(reads:List ARead)(K:Env->St->Prop):wpD T (⟨⟨d,.nilCheck x,some (t,want)⟩,wl,wh⟩::ds) e σ next hist reads K =
  bG (A:=⟨wpD T (⟨⟨d,.nilCheck x,none⟩,wl,wh⟩::ds) e σ next hist reads K⟩) (B:=⟨wpD T ds (Env.put e d (.tuple [])) σ next hist reads K⟩) (Env.get e t) want:=by
 simp only[wpD,bG,AOp.allocs,AOp.acts,true_and,if_true,Bool.false_eq_true,if_false]
theorem aPQ(op:BinOp)(x y:AOpd)(t:Nat)(want:Bool)(d:Option Nat)(wl wh:Nat)(ds:List ADOper)(e:Env)(σ:St)(next:Nat)(hist:List St)(reads:List ARead)(K:Env->St->Prop):wpD T (⟨⟨d,.bin op x y,some (t,want)⟩,wl,wh⟩::ds) e σ next hist reads K =
  bG (A:=⟨wpD T (⟨⟨d,.bin op x y,none⟩,wl,wh⟩::ds) e σ next hist reads K⟩) (B:=⟨wpD T ds (Env.put e d (.tuple [])) σ next hist reads K⟩) (Env.get e t) want:=by
 simp only[wpD,bG,AOp.allocs,AOp.acts,true_and,if_true,Bool.false_eq_true,if_false]
theorem aNQ(sh:EqTy)(n:Bool)(x y:AOpd)(t:Nat)(want:Bool)(d:Option Nat)(wl wh:Nat)(ds:List ADOper)(e:Env)(σ:St)(next:Nat)(hist:List St)(reads:List ARead)(K:Env->St->Prop):wpD T (⟨⟨d,.eql sh n x y,some (t,want)⟩,wl,wh⟩::ds) e σ next hist reads K =
  bG (A:=⟨wpD T (⟨⟨d,.eql sh n x y,none⟩,wl,wh⟩::ds) e σ next hist reads K⟩) (B:=⟨wpD T ds (Env.put e d (.tuple [])) σ next hist reads K⟩) (Env.get e t) want:=by
 simp only[wpD,bG,AOp.allocs,AOp.acts,true_and,if_true,Bool.false_eq_true,if_false]
theorem aO3(x:AOpd)(t:Nat)(want:Bool)(d:Option Nat)(wl wh:Nat)(ds:List ADOper)(e:Env)(σ:St)(next:Nat)(hist:List St)(reads:List ARead)(K:Env->St->Prop):wpD T (⟨⟨d,.not x,some (t,want)⟩,wl,wh⟩::ds) e σ next hist reads K =
  bG (A:=⟨wpD T (⟨⟨d,.not x,none⟩,wl,wh⟩::ds) e σ next hist reads K⟩) (B:=⟨wpD T ds (Env.put e d (.tuple [])) σ next hist reads K⟩) (Env.get e t) want:=by
 simp only[wpD,bG,AOp.allocs,AOp.acts,true_and,if_true,Bool.false_eq_true,if_false]
theorem aPK(x:AOpd)(t:Nat)(want:Bool)(d:Option Nat)(wl wh:Nat)(ds:List ADOper)(e:Env)(σ:St)(next:Nat)(hist:List St)(reads:List ARead)(K:Env->St->Prop):wpD T (⟨⟨d,.neg x,some (t,want)⟩,wl,wh⟩::ds) e σ next hist reads K =
  bG (A:=⟨wpD T (⟨⟨d,.neg x,none⟩,wl,wh⟩::ds) e σ next hist reads K⟩) (B:=⟨wpD T ds (Env.put e d (.tuple [])) σ next hist reads K⟩) (Env.get e t) want:=by
 simp only[wpD,bG,AOp.allocs,AOp.acts,true_and,if_true,Bool.false_eq_true,if_false]
theorem aKI(k:IntKind)(x:AOpd)(t:Nat)(want:Bool)(d:Option Nat)(wl wh:Nat)(ds:List ADOper)(e:Env)(σ:St)(next:Nat)(hist:List St)(reads:List ARead)(K:Env->St->Prop):wpD T (⟨⟨d,.conv k x,some (t,want)⟩,wl,wh⟩::ds) e σ next hist reads K =
  bG (A:=⟨wpD T (⟨⟨d,.conv k x,none⟩,wl,wh⟩::ds) e σ next hist reads K⟩) (B:=⟨wpD T ds (Env.put e d (.tuple [])) σ next hist reads K⟩) (Env.get e t) want:=by
 simp only[wpD,bG,AOp.allocs,AOp.acts,true_and,if_true,Bool.false_eq_true,if_false]
theorem aD1(f:FuncId)(xs ys:List AOpd)(t:Nat)(want:Bool)(d:Option Nat)(wl wh:Nat)(ds:List ADOper)(e:Env)(σ:St)(next:Nat)(hist:List St)(reads:List ARead)(K:Env->St->Prop):wpD T (⟨⟨d,.mkfun f xs ys,some (t,want)⟩,wl,wh⟩::ds) e σ next hist reads K =
  bG (A:=⟨wpD T (⟨⟨d,.mkfun f xs ys,none⟩,wl,wh⟩::ds) e σ next hist reads K⟩) (B:=⟨wpD T ds (Env.put e d (.tuple [])) σ next hist reads K⟩) (Env.get e t) want:=by
 simp only[wpD,bG,AOp.allocs,AOp.acts,true_and,if_true,Bool.false_eq_true,if_false]
theorem aE1(t:Nat)(want:Bool)(d:Option Nat)(wl wh:Nat)(ds:List ADOper)(e:Env)(σ:St)(next:Nat)(hist:List St)(reads:List ARead)(K:Env->St->Prop):wpD T (⟨⟨d,.mkmap,some (t,want)⟩,wl,wh⟩::ds) e σ next hist reads K =
  bG (A:=⟨wpD T (⟨⟨d,.mkmap,none⟩,wl,wh⟩::ds) e σ next hist reads K⟩) (B:=⟨wpD T ds (Env.put e d (.tuple [])) σ next (hist++[σ]) reads K⟩) (Env.get e t) want:=by
 simp only[wpD,bG,AOp.allocs,AOp.acts,true_and,if_true,Bool.false_eq_true,if_false]
theorem SF(z:List AV)(b:Nat)(x y:AOpd)(t:Nat)(want:Bool)(d:Option Nat)(wl wh:Nat)(ds:List ADOper)(e:Env)(σ:St)(next:Nat)(hist:List St)(reads:List ARead)(K:Env->St->Prop):wpD T (⟨⟨d,.mkslice z b x y,some (t,want)⟩,wl,wh⟩::ds) e σ next hist reads K =
  bG (A:=⟨wpD T (⟨⟨d,.mkslice z b x y,none⟩,wl,wh⟩::ds) e σ next hist reads K⟩) (B:=⟨wpD T ds (Env.put e d (.tuple [])) σ next (hist++[σ]) reads K⟩) (Env.get e t) want:=by
 simp only[wpD,bG,AOp.allocs,AOp.acts,true_and,if_true,Bool.false_eq_true,if_false]
theorem aAA(n:Nat)(x:AOpd)(lo hi mx:Option AOpd)(t:Nat)(want:Bool)(d:Option Nat)(wl wh:Nat)(ds:List ADOper)(e:Env)(σ:St)(next:Nat)(hist:List St)(reads:List ARead)(K:Env->St->Prop):wpD T (⟨⟨d,.slicev n x lo hi mx,some (t,want)⟩,wl,wh⟩::ds) e σ next hist reads K =
  bG (A:=⟨wpD T (⟨⟨d,.slicev n x lo hi mx,none⟩,wl,wh⟩::ds) e σ next hist reads K⟩) (B:=⟨wpD T ds (Env.put e d (.tuple [])) σ next hist reads K⟩) (Env.get e t) want:=by
 simp only[wpD,bG,AOp.allocs,AOp.acts,true_and,if_true,Bool.false_eq_true,if_false]
theorem V3(n s:Nat)(x:AOpd)(lo hi:Option AOpd)(t:Nat)(want:Bool)(d:Option Nat)(wl wh:Nat)(ds:List ADOper)(e:Env)(σ:St)(next:Nat)(hist:List St)(reads:List ARead)(K:Env->St->Prop):wpD T (⟨⟨d,.slicea n s x lo hi,some (t,want)⟩,wl,wh⟩::ds) e σ next hist reads K =
  bG (A:=⟨wpD T (⟨⟨d,.slicea n s x lo hi,none⟩,wl,wh⟩::ds) e σ next hist reads K⟩) (B:=⟨wpD T ds (Env.put e d (.tuple [])) σ next hist reads K⟩) (Env.get e t) want:=by
 simp only[wpD,bG,AOp.allocs,AOp.acts,true_and,if_true,Bool.false_eq_true,if_false]
theorem aD0(x:AOpd)(o:Nat)(t:Nat)(want:Bool)(d:Option Nat)(wl wh:Nat)(ds:List ADOper)(e:Env)(σ:St)(next:Nat)(hist:List St)(reads:List ARead)(K:Env->St->Prop):wpD T (⟨⟨d,.faddr x o,some (t,want)⟩,wl,wh⟩::ds) e σ next hist reads K =
  bG (A:=⟨wpD T (⟨⟨d,.faddr x o,none⟩,wl,wh⟩::ds) e σ next hist reads K⟩) (B:=⟨wpD T ds (Env.put e d (.tuple [])) σ next hist reads K⟩) (Env.get e t) want:=by
 simp only[wpD,bG,AOp.allocs,AOp.acts,true_and,if_true,Bool.false_eq_true,if_false]
theorem aDS(x:AOpd)(o:Nat)(sh:Option Nat)(t:Nat)(want:Bool)(d:Option Nat)(wl wh:Nat)(ds:List ADOper)(e:Env)(σ:St)(next:Nat)(hist:List St)(reads:List ARead)(K:Env->St->Prop):wpD T (⟨⟨d,.field x o sh,some (t,want)⟩,wl,wh⟩::ds) e σ next hist reads K =
  bG (A:=⟨wpD T (⟨⟨d,.field x o sh,none⟩,wl,wh⟩::ds) e σ next hist reads K⟩) (B:=⟨wpD T ds (Env.put e d (.tuple [])) σ next hist reads K⟩) (Env.get e t) want:=by
 simp only[wpD,bG,AOp.allocs,AOp.acts,true_and,if_true,Bool.false_eq_true,if_false]
theorem aG0(a:Option Nat)(s:Nat)(x i:AOpd)(t:Nat)(want:Bool)(d:Option Nat)(wl wh:Nat)(ds:List ADOper)(e:Env)(σ:St)(next:Nat)(hist:List St)(reads:List ARead)(K:Env->St->Prop):wpD T (⟨⟨d,.iaddr a s x i,some (t,want)⟩,wl,wh⟩::ds) e σ next hist reads K =
  bG (A:=⟨wpD T (⟨⟨d,.iaddr a s x i,none⟩,wl,wh⟩::ds) e σ next hist reads K⟩) (B:=⟨wpD T ds (Env.put e d (.tuple [])) σ next hist reads K⟩) (Env.get e t) want:=by
 simp only[wpD,bG,AOp.allocs,AOp.acts,true_and,if_true,Bool.false_eq_true,if_false]
theorem aED(n s:Nat)(sh:Option Nat)(x i:AOpd)(t:Nat)(want:Bool)(d:Option Nat)(wl wh:Nat)(ds:List ADOper)(e:Env)(σ:St)(next:Nat)(hist:List St)(reads:List ARead)(K:Env->St->Prop):wpD T (⟨⟨d,.index n s sh x i,some (t,want)⟩,wl,wh⟩::ds) e σ next hist reads K =
  bG (A:=⟨wpD T (⟨⟨d,.index n s sh x i,none⟩,wl,wh⟩::ds) e σ next hist reads K⟩) (B:=⟨wpD T ds (Env.put e d (.tuple [])) σ next hist reads K⟩) (Env.get e t) want:=by
 simp only[wpD,bG,AOp.allocs,AOp.acts,true_and,if_true,Bool.false_eq_true,if_false]
theorem X4(x i:AOpd)(t:Nat)(want:Bool)(d:Option Nat)(wl wh:Nat)(ds:List ADOper)(e:Env)(σ:St)(next:Nat)(hist:List St)(reads:List ARead)(K:Env->St->Prop):wpD T (⟨⟨d,.sindex x i,some (t,want)⟩,wl,wh⟩::ds) e σ next hist reads K =
  bG (A:=⟨wpD T (⟨⟨d,.sindex x i,none⟩,wl,wh⟩::ds) e σ next hist reads K⟩) (B:=⟨wpD T ds (Env.put e d (.tuple [])) σ next hist reads K⟩) (Env.get e t) want:=by
 simp only[wpD,bG,AOp.allocs,AOp.acts,true_and,if_true,Bool.false_eq_true,if_false]
theorem WZ(sh:EqTy)(ok:Bool)(z:AV)(m k:AOpd)(t:Nat)(want:Bool)(d:Option Nat)(wl wh:Nat)(ds:List ADOper)(e:Env)(σ:St)(next:Nat)(hist:List St)(reads:List ARead)(K:Env->St->Prop):wpD T (⟨⟨d,.lookup sh ok z m k,some (t,want)⟩,wl,wh⟩::ds) e σ next hist reads K =
  bG (A:=⟨wpD T (⟨⟨d,.lookup sh ok z m k,none⟩,wl,wh⟩::ds) e σ next hist reads K⟩) (B:=⟨wpD T ds (Env.put e d (.tuple [])) σ next hist reads K⟩) (Env.get e t) want:=by
 simp only[wpD,bG,AOp.allocs,AOp.acts,true_and,if_true,Bool.false_eq_true,if_false]
theorem aBV(sh:EqTy)(m k v:AOpd)(t:Nat)(want:Bool)(d:Option Nat)(wl wh:Nat)(ds:List ADOper)(e:Env)(σ:St)(next:Nat)(hist:List St)(reads:List ARead)(K:Env->St->Prop):wpD T (⟨⟨d,.mapset sh m k v,some (t,want)⟩,wl,wh⟩::ds) e σ next hist reads K =
  bG (A:=⟨wpD T (⟨⟨d,.mapset sh m k v,none⟩,wl,wh⟩::ds) e σ next hist reads K⟩) (B:=⟨wpD T ds (Env.put e d (.tuple [])) σ next (hist++[σ]) reads K⟩) (Env.get e t) want:=by
 simp only[wpD,bG,AOp.allocs,AOp.acts,true_and,if_true,Bool.false_eq_true,if_false]
theorem aM8(x:AOpd)(i:Nat)(t:Nat)(want:Bool)(d:Option Nat)(wl wh:Nat)(ds:List ADOper)(e:Env)(σ:St)(next:Nat)(hist:List St)(reads:List ARead)(K:Env->St->Prop):wpD T (⟨⟨d,.ext x i,some (t,want)⟩,wl,wh⟩::ds) e σ next hist reads K =
  bG (A:=⟨wpD T (⟨⟨d,.ext x i,none⟩,wl,wh⟩::ds) e σ next hist reads K⟩) (B:=⟨wpD T ds (Env.put e d (.tuple [])) σ next hist reads K⟩) (Env.get e t) want:=by
 simp only[wpD,bG,AOp.allocs,AOp.acts,true_and,if_true,Bool.false_eq_true,if_false]
theorem aMW(k:Nat)(x:AOpd)(t:Nat)(want:Bool)(d:Option Nat)(wl wh:Nat)(ds:List ADOper)(e:Env)(σ:St)(next:Nat)(hist:List St)(reads:List ARead)(K:Env->St->Prop):wpD T (⟨⟨d,.len k x,some (t,want)⟩,wl,wh⟩::ds) e σ next hist reads K =
  bG (A:=⟨wpD T (⟨⟨d,.len k x,none⟩,wl,wh⟩::ds) e σ next hist reads K⟩) (B:=⟨wpD T ds (Env.put e d (.tuple [])) σ next hist reads K⟩) (Env.get e t) want:=by
 simp only[wpD,bG,AOp.allocs,AOp.acts,true_and,if_true,Bool.false_eq_true,if_false]
theorem aBP(n b:Nat)(x y:AOpd)(t:Nat)(want:Bool)(d:Option Nat)(wl wh:Nat)(ds:List ADOper)(e:Env)(σ:St)(next:Nat)(hist:List St)(reads:List ARead)(K:Env->St->Prop):wpD T (⟨⟨d,.append n b x y,some (t,want)⟩,wl,wh⟩::ds) e σ next hist reads K =
  bG (A:=⟨wpD T (⟨⟨d,.append n b x y,none⟩,wl,wh⟩::ds) e σ next hist reads K⟩) (B:=⟨wpD T ds (Env.put e d (.tuple [])) σ next (hist++[σ]) reads K⟩) (Env.get e t) want:=by
 simp only[wpD,bG,AOp.allocs,AOp.acts,true_and,if_true,Bool.false_eq_true,if_false]
theorem aEW(n b:Nat)(x y:AOpd)(t:Nat)(want:Bool)(d:Option Nat)(wl wh:Nat)(ds:List ADOper)(e:Env)(σ:St)(next:Nat)(hist:List St)(reads:List ARead)(K:Env->St->Prop):wpD T (⟨⟨d,.apref n b x y,some (t,want)⟩,wl,wh⟩::ds) e σ next hist reads K =
  bG (A:=⟨wpD T (⟨⟨d,.apref n b x y,none⟩,wl,wh⟩::ds) e σ next hist reads K⟩) (B:=⟨wpD T ds (Env.put e d (.tuple [])) σ next (hist++[σ]) reads K⟩) (Env.get e t) want:=by
 simp only[wpD,bG,AOp.allocs,AOp.acts,true_and,if_true,Bool.false_eq_true,if_false]
theorem aLU(n:Nat)(x y:AOpd)(t:Nat)(want:Bool)(d:Option Nat)(wl wh:Nat)(ds:List ADOper)(e:Env)(σ:St)(next:Nat)(hist:List St)(reads:List ARead)(K:Env->St->Prop):wpD T (⟨⟨d,.copy n x y,some (t,want)⟩,wl,wh⟩::ds) e σ next hist reads K =
  bG (A:=⟨wpD T (⟨⟨d,.copy n x y,none⟩,wl,wh⟩::ds) e σ next hist reads K⟩) (B:=⟨wpD T ds (Env.put e d (.tuple [])) σ next (hist++[σ]) reads K⟩) (Env.get e t) want:=by
 simp only[wpD,bG,AOp.allocs,AOp.acts,true_and,if_true,Bool.false_eq_true,if_false]
theorem aN1(xs:List AOpd)(t:Nat)(want:Bool)(d:Option Nat)(wl wh:Nat)(ds:List ADOper)(e:Env)(σ:St)(next:Nat)(hist:List St)(reads:List ARead)(K:Env->St->Prop):wpD T (⟨⟨d,.min xs,some (t,want)⟩,wl,wh⟩::ds) e σ next hist reads K =
  bG (A:=⟨wpD T (⟨⟨d,.min xs,none⟩,wl,wh⟩::ds) e σ next hist reads K⟩) (B:=⟨wpD T ds (Env.put e d (.tuple [])) σ next hist reads K⟩) (Env.get e t) want:=by
 simp only[wpD,bG,AOp.allocs,AOp.acts,true_and,if_true,Bool.false_eq_true,if_false]
theorem aNX(xs:List AOpd)(t:Nat)(want:Bool)(d:Option Nat)(wl wh:Nat)(ds:List ADOper)(e:Env)(σ:St)(next:Nat)(hist:List St)(reads:List ARead)(K:Env->St->Prop):wpD T (⟨⟨d,.max xs,some (t,want)⟩,wl,wh⟩::ds) e σ next hist reads K =
  bG (A:=⟨wpD T (⟨⟨d,.max xs,none⟩,wl,wh⟩::ds) e σ next hist reads K⟩) (B:=⟨wpD T ds (Env.put e d (.tuple [])) σ next hist reads K⟩) (Env.get e t) want:=by
 simp only[wpD,bG,AOp.allocs,AOp.acts,true_and,if_true,Bool.false_eq_true,if_false]
theorem aB7(x:AOpd)(t:Nat)(want:Bool)(d:Option Nat)(wl wh:Nat)(ds:List ADOper)(e:Env)(σ:St)(next:Nat)(hist:List St)(reads:List ARead)(K:Env->St->Prop):wpD T (⟨⟨d,.srange x,some (t,want)⟩,wl,wh⟩::ds) e σ next hist reads K =
  bG (A:=⟨wpD T (⟨⟨d,.srange x,none⟩,wl,wh⟩::ds) e σ next hist reads K⟩) (B:=⟨wpD T ds (Env.put e d (.tuple [])) σ next (hist++[σ]) reads K⟩) (Env.get e t) want:=by
 simp only[wpD,bG,AOp.allocs,AOp.acts,true_and,if_true,Bool.false_eq_true,if_false]
theorem aFC(x:AOpd)(t:Nat)(want:Bool)(d:Option Nat)(wl wh:Nat)(ds:List ADOper)(e:Env)(σ:St)(next:Nat)(hist:List St)(reads:List ARead)(K:Env->St->Prop):wpD T (⟨⟨d,.snext x,some (t,want)⟩,wl,wh⟩::ds) e σ next hist reads K =
  bG (A:=⟨wpD T (⟨⟨d,.snext x,none⟩,wl,wh⟩::ds) e σ next hist reads K⟩) (B:=⟨wpD T ds (Env.put e d (.tuple [])) σ next (hist++[σ]) reads K⟩) (Env.get e t) want:=by
 simp only[wpD,bG,AOp.allocs,AOp.acts,true_and,if_true,Bool.false_eq_true,if_false]
end Go.Am
namespace Go.Am
variable {T:FuncId->Option AFunc}
structure KeepS (σ σ':St) (lo:Nat):Prop where
 len:σ.length<=σ'.length
 low:∀ i,i<lo->i<σ.length->σ'[i]? = σ[i]?
 loops:∀ (i:Nat) (st:LS) (pe:Option AJump) (env:Env) (ps:List Nat) (a b:ACode),i<σ.length->σ'[i]? = some (.loop st pe env ps a b)->∃ st' pe',σ[i]? = some (.loop st' pe' env ps a b)
theorem KeepS.refl(σ:St)(lo:Nat):KeepS σ σ lo:=⟨Nat.le_refl _,fun _ _ _=>rfl,fun i st pe env ps a b _ h=>⟨st,pe,h⟩⟩
theorem KeepS.weak{σ σ':St}{lo l:Nat}(h:KeepS σ σ' lo)(hl:l<=lo):KeepS σ σ' l:=⟨h.len,fun i hi=>h.low i (by omega),h.loops⟩
theorem KeepS.trans{σ σ1 σ2:St}{l1 l2:Nat}(h:KeepS σ σ1 l1)(k:KeepS σ1 σ2 l2):KeepS σ σ2 (Nat.min l1 l2) where
 len:=Nat.le_trans h.len k.len
 low i hi hlt:=by
  have h1:i<l1:=Nat.lt_of_lt_of_le hi (Nat.min_le_left _ _);have h2:i<l2:=Nat.lt_of_lt_of_le hi (Nat.min_le_right _ _);rw[k.low i h2 (Nat.lt_of_lt_of_le hlt h.len),h.low i h1 hlt]
 loops i st pe env ps a b hlt e:=by
  obtain⟨st1,pe1,e1⟩:=k.loops i st pe env ps a b (Nat.lt_of_lt_of_le hlt h.len) e;exact h.loops i st1 pe1 env ps a b hlt e1
theorem KeepS.app(σ:St)(τ:St)(lo:Nat):KeepS σ (σ++τ) lo :=
 ⟨by simp,fun i _ hi=>List.getElem?_append_left hi,fun i st pe env ps a b hi e=>⟨st,pe,by rw[<-List.getElem?_append_left (l₂:=τ) hi];exact e⟩⟩
theorem KeepS.set{σ:St}{i:Nat}{x:ABlk}(hx:∀ st pe env ps a b,x≠.loop st pe env ps a b):KeepS σ (σ.set i x) i where
 len:=by simp
 low j hj _:=List.getElem?_set_ne (by omega)
 loops j st pe env ps a b hj e:=by
  by_cases h:i=j
  ·subst h;rw[List.getElem?_set_self hj] at e;cases e;exact absurd rfl (hx _ _ _ _ _ _)
  ·rw[List.getElem?_set_ne h] at e;exact⟨st,pe,e⟩
end Go.Am
namespace Go.Am
variable {T:FuncId->Option AFunc}
theorem KeepS.step{σ σ1 σ2:St}{l lo lo':Nat}(h:KeepS σ σ1 l)(k:lo'<=Nat.min lo l/\KeepS σ1 σ2 lo'):lo'<=lo/\KeepS σ σ2 lo':=by
 have h1:lo'<=l:=Nat.le_trans k.1 (Nat.min_le_right _ _);refine⟨Nat.le_trans k.1 (Nat.min_le_left _ _),(h.trans k.2).weak ?_⟩;exact Nat.le_min.2 ⟨h1,Nat.le_refl _⟩
end Go.Am
namespace Go.Am
variable {T:FuncId->Option AFunc}
theorem aL3(e:Env):evs e []=[]:=by simp only[evs]
theorem aJF(e:Env)(x:AOpd)(xs:List AOpd):evs e (x::xs)=x.ev e::evs e xs:=by simp only[evs]
theorem aKU(e:Env):ovs e none=none:=by simp only[ovs]
theorem aJQ(e:Env)(x:AOpd):ovs e (some x)=some (x.ev e):=by simp only[ovs]
theorem aIE{α β:Type}(f:α->β)(a:α):Option.map f (some a)=some (f a):=by simp
theorem aCG{α β:Type}(f:α->Option β)(a:α):(some a).bind f=f a:=by simp
theorem aLB(i o:Nat):LK (.ptr i o)=some (.ptr i o):=by simp only[LK]
theorem aJX(xs:List AV)(i o:Nat)(t:Option Nat):LK (.lptr xs i o t)=some (.lptr xs i o t):=by simp only[LK]
theorem aL5(f:FuncId)(a b:List AV):LK (.func f a b)=some (.func f a b):=by simp only[LK]
theorem aD4(o:Nat)(sh:Option Nat)(cs:List AV):I1 o sh (.agg cs)=fG sh cs o:=by simp only[I1]
theorem aK8(k k':IntKind)(n:Int):QL k (.int k' n)=some (.int k (k.wrap n)):=by simp only[QL]
theorem aNG(k:IntKind)(n:Int):aE2 (.int k n)=some (.int k (k.wrap (0-n))):=by simp only[aE2]
theorem aDZ(x y:AV):GK (.bool true) x y=some x:=by simp only[GK]
theorem aFR(x y:AV):GK (.bool false) x y=some y:=by simp only[GK]
theorem aPO(s:ByteArray):aEM (.str s)=some s:=by simp only[aEM]
theorem XB(k:IntKind)(a b:Int):iK .i (.int k a) (.int k b)=some (a==b):=by simp[iK]
theorem aOL(a b:Bool):iK .b (.bool a) (.bool b)=some (a==b):=by simp[iK]
theorem aNU(a b:ByteArray):iK .s (.str a) (.str b)=some (a.toList==b.toList):=by simp[iK]
def aD5:Option Bool->Option Bool->Option Bool
 |some p,some q=>some (p&&q)
 |_,_=>none
theorem PA(p q:Bool):aD5 (some p) (some q)=some (p&&q):=by simp only[aD5]
theorem XK:bQ [] [] []=some true:=by simp[bQ]
theorem M5(k:SK)(ks:List SK)(a b:AV)(x y:List AV):bQ (k::ks) (a::x) (b::y)=aD5 (iK k a b) (bQ ks x y):=by
 simp only[bQ,aD5];cases iK k a b<;>cases bQ ks x y<;>rfl
theorem aMO(k:SK)(x y:AV):EW (.one k) false x y=(iK k x y).map .bool:=by
 simp only[EW,jO];cases iK k x y<;>simp
theorem aO4(k:SK)(x y:AV):EW (.one k) true x y=(iK k x y).map fun b=>.bool !b:=by
 simp only[EW,jO];cases iK k x y<;>simp
theorem aOZ(ks:List SK)(x y:List AV):EW (.agg ks) false (.agg x) (.agg y)=(bQ ks x y).map .bool:=by
 simp only[EW,jO];cases bQ ks x y<;>simp
theorem aNE(ks:List SK)(x y:List AV):EW (.agg ks) true (.agg x) (.agg y)=(bQ ks x y).map fun b=>.bool !b:=by
 simp only[EW,jO];cases bQ ks x y<;>simp
theorem aP2(k:IntKind)(a b:Int):gA .add (.int k a) (.int k b)=some (.int k (k.wrap (a+b))):=by simp[gA,mA]
theorem aPP(k:IntKind)(a b:Int):gA .sub (.int k a) (.int k b)=some (.int k (k.wrap (a-b))):=by simp[gA,mA]
theorem aOD(k:IntKind)(a b:Int):gA .mul (.int k a) (.int k b)=some (.int k (k.wrap (a*b))):=by simp[gA,mA]
theorem aO0(k:IntKind)(a b:Int)(h:b≠0):gA .quo (.int k a) (.int k b)=some (.int k (k.wrap (a.tdiv b))):=by simp[gA,mA,h]
theorem WS(k:IntKind)(a b:Int)(h:b≠0):gA .rem (.int k a) (.int k b)=some (.int k (a.tmod b)):=by simp[gA,mA,h]
theorem aPY(k:IntKind)(a b:Int):gA .lss (.int k a) (.int k b)=some (.bool (decide (a<b))):=by simp[gA,mA]
theorem aOX(k:IntKind)(a b:Int):gA .leq (.int k a) (.int k b)=some (.bool (decide (a<=b))):=by simp[gA,mA]
theorem aNA(k:IntKind)(a b:Int):gA .gtr (.int k a) (.int k b)=some (.bool (decide (b<a))):=by simp[gA,mA]
theorem aNW(k:IntKind)(a b:Int):gA .geq (.int k a) (.int k b)=some (.bool (decide (b<=a))):=by simp[gA,mA]
theorem cC{x:Int}(h:-9223372036854775808<=x/\x<=9223372036854775807):IntKind.i64.wrap x=x:=by
 simp only[IntKind.wrap,IntKind.signed,IntKind.bits];first
  |(rw[Int.bmod_eq_of_le]<;>omega)
  |(simp;omega)
theorem aN3(σ:St)(xs:List AV)(f:Bool)(t:Option Nat):jI 1 σ (.lit xs f t)=some xs.length:=by simp only[jI]
theorem aKD(σ:St)(s:ByteArray):jI 0 σ (.str s)=some s.size:=by simp only[jI]
theorem ZA(σ:St)(id off len sz:Nat):jI 1 σ (.ref id off len sz)=some len:=by simp only[jI]
theorem aHM(sh:Option Nat)(σ:St)(id off:Nat):kB sh σ (.ptr id off)=(aD σ id).bind fun cs=>fG sh cs off:=by
 simp only[kB];cases aD σ id<;>simp
theorem YF(sh:Option Nat)(σ:St)(xs:List AV)(i off:Nat)(t:Option Nat):kB sh σ (.lptr xs i off t)=(xs[i]?).bind fun x=>fG sh x.cells off:=by
 simp only[kB];cases xs[i]?<;>simp
theorem XO(b:List AV)(τ:St):aD (.cells b::τ) 0=some b:=by simp[aD]
theorem tR(b:ABlk)(τ:St)(k:Nat):aD (b::τ) (k+1)=aD τ k:=by simp[aD]
theorem mF(σ τ:St)(k:Nat):aD (σ++τ) (σ.length+k)=aD τ k:=by simp only[aD,rE]
theorem jY(σ τ:St):aD (σ++τ) σ.length=aD τ 0:=mF σ τ 0
theorem aP3(cs:List AV)(off:Nat):fG none cs off=cs[off]?:=by simp[fG]
theorem aIL(n:Nat)(cs:List AV)(off:Nat):fG (some n) cs off=if off+n<=cs.length then some (.agg ((cs.drop off).take n)) else none:=by simp[fG]
theorem aET(n:Nat)(σ:St)(id off:Nat)(v:AV):qT n σ (.ptr id off) v=(sQ n v).bind fun us=>(aD σ id).bind fun cs=>(gO cs off us).map fun cs'=>σ.set id (.cells cs'):=by
 simp only[qT,sQ];split
 ·simp only[Option.bind_some];cases aD σ id with
  |none=>simp
  |some cs=>simp only[Option.bind_some];cases gO cs off v.cells<;>simp
 ·simp
theorem aNK(cs us:List AV)(off:Nat):gO cs off us=if off+us.length<=cs.length then some (cs.take off++us++cs.drop (off+us.length)) else none:=by simp only[gO]
def bI(n:Nat)(v:AV):Bool:=v.cells.length==n&&v.cells.all (·.cell)
theorem aHC(n:Nat)(v:AV):sQ n v=if bI n v=true then some v.cells else none:=by unfold sQ bI;rfl
theorem WT(k:IntKind)(n:Int):bI 1 (.int k n)=true:=by simp[bI,AV.cells,AV.cell]
theorem XG(b:Bool):bI 1 (.bool b)=true:=by simp[bI,AV.cells,AV.cell]
theorem UN(b:ByteArray):bI 1 (.str b)=true:=by simp[bI,AV.cells,AV.cell]
theorem aHO(xs:List AV)(f:Bool)(t:Option Nat):bI 1 (.lit xs f t)=true:=by simp[bI,AV.cells,AV.cell]
theorem aO2(a b c d:Nat):bI 1 (.ref a b c d)=true:=by simp[bI,AV.cells,AV.cell]
theorem aPD(a b:Nat):bI 1 (.ptr a b)=true:=by simp[bI,AV.cells,AV.cell]
theorem aJH(f:FuncId)(a b:List AV):bI 1 (.func f a b)=true:=by simp[bI,AV.cells,AV.cell]
theorem aPU(i:Nat):bI 1 (.map i)=true:=by simp[bI,AV.cells,AV.cell]
theorem WK:bI 1 .nilPtr=true:=by simp[bI,AV.cells,AV.cell]
theorem SH:bI 1 .nilFunc=true:=by simp[bI,AV.cells,AV.cell]
def bZ:List AV->Bool
 |[]=>true
 |v::vs=>v.cell&&bZ vs
theorem aN8(n:Nat)(cs:List AV):bI n (.agg cs)=(cs.length==n&&bZ cs):=by
 simp only[bI,AV.cells]
 congr 1
 induction cs with
 |nil=>rfl
 |cons c cs ih=>simp only[List.all_cons,bZ,ih]
theorem C_0:bZ []=true:=by simp only[bZ]
theorem aLL(k:IntKind)(n:Int)(cs:List AV):bZ (.int k n::cs)=bZ cs:=by simp[bZ,AV.cell]
theorem aFE(b:Bool)(cs:List AV):bZ (.bool b::cs)=bZ cs:=by simp[bZ,AV.cell]
theorem aIZ(b:ByteArray)(cs:List AV):bZ (.str b::cs)=bZ cs:=by simp[bZ,AV.cell]
theorem aLG(xs:List AV)(f:Bool)(t:Option Nat)(cs:List AV):bZ (.lit xs f t::cs)=bZ cs:=by simp[bZ,AV.cell]
theorem aJS(a b c d:Nat)(cs:List AV):bZ (.ref a b c d::cs)=bZ cs:=by simp[bZ,AV.cell]
theorem aJ3(a b:Nat)(cs:List AV):bZ (.ptr a b::cs)=bZ cs:=by simp[bZ,AV.cell]
theorem aFH(f:FuncId)(a b:List AV)(cs:List AV):bZ (.func f a b::cs)=bZ cs:=by simp[bZ,AV.cell]
theorem aJ7(i:Nat)(cs:List AV):bZ (.map i::cs)=bZ cs:=by simp[bZ,AV.cell]
theorem TT(cs:List AV):bZ (.nilPtr::cs)=bZ cs:=by simp[bZ,AV.cell]
theorem OS(cs:List AV):bZ (.nilFunc::cs)=bZ cs:=by simp[bZ,AV.cell]
theorem aJ2{α:Type}(enc:α->AV)(l:List α)(h:∀ x,(enc x).cell=true):bZ (l.map enc)=true:=by
 induction l with
 |nil=>rfl
 |cons x l ih=>simp[bZ,h,ih]
theorem aMP(k:IntKind)(n:Int):(AV.int k n).cells=[.int k n]:=by simp[AV.cells]
theorem aLQ(b:Bool):(AV.bool b).cells=[.bool b]:=by simp[AV.cells]
theorem aMV(b:ByteArray):(AV.str b).cells=[.str b]:=by simp[AV.cells]
theorem aPB(xs:List AV)(f:Bool)(t:Option Nat):(AV.lit xs f t).cells=[.lit xs f t]:=by simp[AV.cells]
theorem aN5(a b c d:Nat):(AV.ref a b c d).cells=[.ref a b c d]:=by simp[AV.cells]
theorem aNF(a b:Nat):(AV.ptr a b).cells=[.ptr a b]:=by simp[AV.cells]
theorem aMA(f:FuncId)(a b:List AV):(AV.func f a b).cells=[.func f a b]:=by simp[AV.cells]
theorem aN9(i:Nat):(AV.map i).cells=[.map i]:=by simp[AV.cells]
theorem aNI(cs:List AV):(AV.agg cs).cells=cs:=by simp[AV.cells]
theorem WY:AV.nilPtr.cells=[.nilPtr]:=by simp[AV.cells]
theorem TK:AV.nilFunc.cells=[.nilFunc]:=by simp[AV.cells]
theorem aO5(e:Env)(cs:List AV):cX e cs []=some cs:=by simp only[cX]
theorem aM5(e:Env)(cs:List AV)(off n:Nat)(x:AOpd)(rest:List (Nat×Nat×AOpd)):
  cX e cs ((off,n,x)::rest)=((sQ n (x.ev e)).bind fun us=>gO cs off us).bind fun cs=>cX e cs rest:=aPT e cs off n x rest
theorem WV(n:Nat):aI n []=true:=by simp[aI]
theorem ZY(n:Nat)(x:AV)(xs:List AV):aI n (x::xs)=(bI n x&&aI n xs):=by simp[aI,bI]
theorem mJ{α:Type}(n:Nat)(enc:α->AV)(l:List α)(h:∀ x,bI n (enc x)=true):aI n (l.map enc)=true:=by
 induction l with
 |nil=>exact WV n
 |cons x l ih=>rw[List.map_cons,ZY,h,ih];rfl
theorem aOY(n:Nat)(xs:List AV):SZ n xs=if aI n xs=true then some (.lit xs true none) else none:=by simp only[SZ]
def IZ(sz:Nat)(xs:List AV)(j:Int)(t:Option Nat):Option AV:=(xs[j.toNat]?).bind fun y=>if 0<=j/\y.cells.length=sz then some (.lptr xs j.toNat 0 t) else none
theorem aHR(sz:Nat)(xs:List AV)(f:Bool)(t:Option Nat)(k:IntKind)(j:Int):lU none sz (.lit xs f t) (.int k j)=IZ sz xs j t:=by
 simp only[lU,gG,IZ];cases xs[j.toNat]?<;>simp
theorem aNL(n sz id off:Nat)(k:IntKind)(j:Int):lU (some n) sz (.ptr id off) (.int k j)=if 0<=j/\j<n then some (.ptr id (off+j.toNat*sz)) else none:=by simp only[lU,gG]
theorem aJE(n sz q off:Nat)(xs:List AV)(t:Option Nat)(k:IntKind)(j:Int):lU (some n) sz (.lptr xs q off t) (.int k j)=if 0<=j/\j<n then some (.lptr xs q (off+j.toNat*sz) t) else none:=by simp only[lU,gG]
theorem aH3(sz id off len sz':Nat)(k:IntKind)(j:Int):lU none sz (.ref id off len sz') (.int k j)=if 0<=j/\j<len/\sz'=sz then some (.ptr id (off+j.toNat*sz)) else none:=by simp only[lU,gG]
def MJ(sz b:Nat)(xs ys:List AV):Prop:=aI sz xs=true/\aI sz ys=true/\(xs.length+ys.length)*b<=room/\xs.length+ys.length<=room
theorem LJ{sz b:Nat}{σ:St}{xs ys:List AV}{tk t:Option Nat}{f:Bool}(h:MJ sz b xs ys)(h0:ys.length≠0):
  dH sz b σ (.lit xs true tk) (.lit ys f t)=some (.lit (xs++ys) false (some σ.length),σ++[.tok sz (xs.length+ys.length) true]):=by
 obtain⟨h1,h2,h3,h4⟩:=h;simp[dH,j6,wE,h0,h1,h2,h3,h4]
theorem vF{sz b:Nat}{σ:St}{xs ys:List AV}{t:Nat}{tk:Option Nat}{f ex:Bool}(h:MJ sz b xs ys)(h0:ys.length≠0)(ht:σ[t]? = some (.tok sz xs.length ex)):
  dH sz b σ (.lit xs false (some t)) (.lit ys f tk)=some (.lit (xs++ys) false (some t),σ.set t (.tok sz (xs.length+ys.length) true)):=by
 obtain⟨h1,h2,h3,h4⟩:=h;simp[dH,j6,wE,h0,h1,h2,h3,h4,ht]
theorem aE4{sz b:Nat}{σ:St}{xs:List AV}{tk t:Option Nat}{f f':Bool}:dH sz b σ (.lit xs f' tk) (.lit [] f t)=some (.lit xs f' tk,σ):=by
 simp[dH,j6]
def bJ(σ:St)(m d:Nat)(v:AV):Option AV:=(snap σ m d v).map clr
def cB(σ:St)(m d:Nat)(vs:List AV):Option (List AV):=(snaps σ m d vs).map clrs
theorem ZT(σ:St)(m d:Nat)(k:IntKind)(n:Int):bJ σ m d (.int k n)=some (.int k n):=by simp[bJ,snap,clr]
theorem HR(σ:St)(m d:Nat)(b:Bool):bJ σ m d (.bool b)=some (.bool b):=by simp[bJ,snap,clr]
theorem VH(σ:St)(m d:Nat)(b:ByteArray):bJ σ m d (.str b)=some (.str b):=by simp[bJ,snap,clr]
theorem VN(σ:St)(m d:Nat):bJ σ m d .nilPtr=some .nilPtr:=by simp[bJ,snap,clr]
theorem S1(σ:St)(m d:Nat):bJ σ m d .nilFunc=some .nilFunc:=by simp[bJ,snap,clr]
theorem aIM(σ:St)(m d id off:Nat):bJ σ m d (.ptr id off)=if id<m then some (.ptr id off) else none:=by
 simp only[bJ,snap];split<;>simp[clr]
theorem aM0(σ:St)(m d id:Nat):bJ σ m d (.map id)=if id<m then some (.map id) else none:=by
 simp only[bJ,snap];split<;>simp[clr]
theorem P2(σ:St)(m d:Nat):cB σ m d []=some []:=by simp[cB,snaps,clrs]
theorem EQ(σ:St)(m d:Nat)(v:AV)(vs:List AV):cB σ m d (v::vs)=(bJ σ m d v).bind fun a=>(cB σ m d vs).map (a::·):=by
 simp only[cB,bJ,snaps];cases snap σ m d v<;>cases snaps σ m d vs<;>simp[clrs]
theorem aGP(σ:St)(m d:Nat)(vs:List AV):bJ σ m d (.tuple vs)=(cB σ m d vs).map .tuple:=by
 simp only[cB,bJ,snap];cases snaps σ m d vs<;>simp[clr]
theorem Y7(σ:St)(m d:Nat)(vs:List AV):bJ σ m d (.agg vs)=(cB σ m d vs).map .agg:=by
 simp only[cB,bJ,snap];cases snaps σ m d vs<;>simp[clr]
theorem CP(σ:St)(m d:Nat)(vs:List AV)(f:Bool):bJ σ m d (.lit vs f none)=(cB σ m d vs).map fun ys=>.lit ys false none:=by
 simp only[cB,bJ,snap];cases snaps σ m d vs<;>simp[clr]
theorem NM(σ:St)(m d t:Nat)(vs:List AV)(f:Bool):bJ σ m d (.lit vs f (some t))=(cB σ m d vs).map fun ys=>if t<m then .lit ys f (some t) else .lit ys false none:=by
 simp only[cB,bJ,snap];cases snaps σ m d vs<;>by_cases h:t<m<;>simp[clr,h,Option.filter]
theorem I8(σ:St)(m d:Nat)(f:FuncId)(a b:List AV):bJ σ m d (.func f a b)=(cB σ m d a).bind fun x=>(cB σ m d b).map fun y=>.func f x y:=by
 simp only[cB,bJ,snap];cases snaps σ m d a<;>cases snaps σ m d b<;>simp[clr]
theorem HB(σ:St)(m d id off len sz:Nat):bJ σ m (d+1) (.ref id off len sz) =
  if id<m then some (.ref id off len sz) else (j6 σ (.ref id off len sz)).bind fun xs=>if (decide (0<sz)&&aI sz xs)=true then (cB σ m d xs).map fun ys=>.lit ys false none else none:=by
 simp only[bJ,snap];split
 ·simp[clr]
 ·cases j6 σ (.ref id off len sz) with
  |none=>simp
  |some xs =>
   simp only[Option.bind_some];split
   ·simp only[cB];cases snaps σ m d xs<;>simp[clr]
   ·simp
def kZ(v:AV):Prop:=okV 0 v/\clr v=v
def nF(vs:List AV):Prop:=okVs 0 vs/\clrs vs=vs
mutual
theorem snap_ok0 (σ:St) (m d:Nat):∀ (v:AV),okV 0 v->snap σ m d v=some v
 |.func f first cap,h=>by simp only[okV] at h;simp only[snap,snaps_ok0 σ m d first h.1,snaps_ok0 σ m d cap h.2]
 |.yield _,h|.ptr _ _,h|.ref _ _ _ _,h|.map _,h=>by simp[okV] at h
 |.lptr xs i o tk,h=>by
  simp only[okV] at h;cases tk with
  |none=>simp[snap,snaps_ok0 σ m d xs h.2]
  |some t=>exact absurd (h.1 t rfl) (by omega)
 |.lit xs f tk,h=>by
  simp only[okV] at h;cases tk with
  |none=>simp[snap,snaps_ok0 σ m d xs h.2]
  |some t=>exact absurd (h.1 t rfl) (by omega)
 |.agg cs,h=>by simp only[okV] at h;simp[snap,snaps_ok0 σ m d cs h]
 |.tuple cs,h=>by simp only[okV] at h;simp[snap,snaps_ok0 σ m d cs h]
 |.undef,_|.int _ _,_|.bool _,_|.str _,_|.nilFunc,_|.nilPtr,_|.nilMap,_=>by simp[snap]
theorem snaps_ok0 (σ:St) (m d:Nat):∀ (vs:List AV),okVs 0 vs->snaps σ m d vs=some vs
 |[],_=>by simp[snaps]
 |v::vs,h=>by simp only[okVs] at h;simp[snaps,snap_ok0 σ m d v h.1,snaps_ok0 σ m d vs h.2]
end
theorem aKC{v:AV}(h:kZ v)(σ:St)(m d:Nat):bJ σ m d v=some v:=by simp[bJ,snap_ok0 σ m d v h.1,h.2]
theorem gJ{vs:List AV}(h:nF vs)(σ:St)(m d:Nat):cB σ m d vs=some vs:=by simp[cB,snaps_ok0 σ m d vs h.1,h.2]
theorem aY(k:IntKind)(n:Int):kZ (.int k n):=⟨trivial,rfl⟩
theorem vT(b:Bool):kZ (.bool b):=⟨trivial,rfl⟩
theorem uL(b:ByteArray):kZ (.str b):=⟨trivial,rfl⟩
theorem aZ:nF []:=⟨trivial,rfl⟩
theorem aL{v:AV}{vs:List AV}(h:kZ v)(hs:nF vs):nF (v::vs):=⟨⟨h.1,hs.1⟩,by simp[clrs,h.2,hs.2]⟩
theorem gS{vs:List AV}(h:nF vs):kZ (.agg vs):=⟨h.1,by simp[clr,h.2]⟩
theorem NT{vs:List AV}(h:nF vs):kZ (.tuple vs):=⟨h.1,by simp[clr,h.2]⟩
theorem MK{vs:List AV}(h:nF vs):kZ (.lit vs false none):=⟨⟨(fun t e=>by cases e),h.1⟩,by simp[clr,h.2]⟩
theorem bD{α:Type}{enc:α->AV}(h:∀ x,kZ (enc x))(l:List α):nF (l.map enc):=by
 induction l with
 |nil=>exact aZ
 |cons x l ih=>exact aL (h x) ih
theorem gK{α:Type}{enc:α->AV}(h:∀ x,kZ (enc x))(l:List α):kZ (.lit (l.map enc) false none):=MK (bD h l)
def MX(o:Option AV)(σ:St)(v:AV):Prop:=∃ v0,o=some v0/\bJ σ 0 20 v0=some v
@[congr] theorem aKL{o o':Option AV}{σ σ':St}{v:AV}(h:o=o')(h2:σ=σ'):MX o σ v=MX o' σ' v:=by rw[h,h2]
theorem aJZ(v0:AV)(σ:St)(v:AV):MX (some v0) σ v=(bJ σ 0 20 v0=some v):=by simp[MX]
def OJ(rs:List ARes)(v:AV):KJ:=fun j e σ=>(j=none\/j=some .ret)/\MX (gZ rs e σ) σ v
theorem aKW(rs:List ARes)(v:AV)(e:Env)(σ:St):OJ rs v none e σ=MX (gZ rs e σ) σ v:=by simp[OJ]
theorem aOU(rs:List ARes)(v:AV)(e:Env)(σ:St):OJ rs v (some .ret) e σ=MX (gZ rs e σ) σ v:=by simp[OJ]
theorem aQ{f:FuncId}{args:List AV}{v:AV}{af:AFunc}(hf:T f=some af)(hn:args.length<=af.ntmps)(hk:nF args)(h:wp T af.body (fM 0 args) [] (OJ af.results v)):cP T f args v:=by
 intro σ;refine .frame hk.1 (.inl rfl) (R:=fun o=>o.v=v/\o.σ=[]) (.call hf hn (fO h fun o ho=>ho) fun o ho=>?_) fun o ho=>⟨ho.2,ho.1,rfl⟩
 obtain⟨h1,v0,h2,h3⟩:=ho;refine⟨h1,v0,h2,?_⟩;unfold bJ at h3;cases hs:snap o.σ 0 20 v0 with
 |none=>rw[hs] at h3;cases h3
 |some v1 =>
  rw[hs] at h3;simp at h3;exact .inr ⟨20,v1,v,hs,.inr h3.symm,fun i hi=>absurd hi (by simp),by simp,rfl,by simp⟩
theorem Q5{f:FuncId}{args args0:List AV}{v:AV}(h:cP T f args0 v)(ha:clrs args=args0)(hk:okVs 0 args)(σ:St):Run T (.call f args σ) fun o=>o.v=v/\o.σ=σ :=
 .frame hk (.inr ha.symm) (h []) fun o ho=>⟨ho.2,ho.1,rfl⟩
theorem LD{f:FuncId}{first cap args args0:List AV}{v:AV}{σ:St}{K:AV->St->Prop}(h:cP T f args0 v)(ha:clrs (first++args++cap)=args0)(hk:okVs 0 (first++args++cap))(k:K v σ):cK (K:=⟨K⟩) T (.func f first cap) args σ :=
 .callf (.mono (Q5 h ha hk σ) fun o ho=>by rw[ho.1,ho.2];exact k)
theorem K9{f:FuncId}{first cap args args0:List AV}{v:AV}{σ:St}{K:AV->St->Prop}(h:cP T f args0 v)(ha:clrs (first++args++cap)=args0)(hk:okVs 0 (first++args++cap))(k:K v σ):cD (K:=⟨K⟩) T (.func f first cap) args σ :=
 ⟨v,σ,.callf (Q5 h ha hk σ),k⟩
theorem aC{f:FuncId}{args args0:List AV}{v:AV}{σ:St}{K:AV->St->Prop}(h:cP T f args0 v)(ha:args=args0)(hk:nF args0)(k:K v σ):cK (K:=⟨K⟩) T (.func f [] []) args σ:=by
 subst ha;exact LD h (by simpa using hk.2) (by simpa using hk.1) k
theorem aS{f:FuncId}{args args0:List AV}{v:AV}{σ:St}{K:AV->St->Prop}(h:cP T f args0 v)(ha:args=args0)(hk:nF args0)(k:K v σ):cD (K:=⟨K⟩) T (.func f [] []) args σ:=by
 subst ha;exact K9 h (by simpa using hk.2) (by simpa using hk.1) k
theorem JL{f:FuncId}{args args0:List AV}{v:AV}{σ:St}(h:cP T f args0 v)(ha:cB σ 0 20 args=some args0)(hv:Scal v):Run T (.call f args σ) fun o=>o.v=v/\o.σ=σ:=by
 unfold cB at ha;cases hs:snaps σ 0 20 args with
 |none=>rw[hs] at ha;cases ha
 |some as1 =>
  rw[hs] at ha;simp at ha;exact .frameS hs (.inr ha.symm) (h []) fun o ho=>⟨ho.2,by rw[ho.1];exact hv,ho.1,rfl⟩
theorem sU{f:FuncId}{first cap args args0:List AV}{v:AV}{σ:St}{K:AV->St->Prop}(h:cP T f args0 v)(ha:cB σ 0 20 (first++args++cap)=some args0)(hv:Scal v)(k:K v σ):cK (K:=⟨K⟩) T (.func f first cap) args σ :=
 .callf (.mono (JL h ha hv) fun o ho=>by rw[ho.1,ho.2];exact k)
theorem xV{f:FuncId}{first cap args args0:List AV}{v:AV}{σ:St}{K:AV->St->Prop}(h:cP T f args0 v)(ha:cB σ 0 20 (first++args++cap)=some args0)(hv:Scal v)(k:K v σ):cD (K:=⟨K⟩) T (.func f first cap) args σ :=
 ⟨v,σ,.callf (JL h ha hv),k⟩
def InK(rs:List ARes)(K:AV->St->Prop):KJ:=fun j e σ=>(j=none\/j=some .ret)/\∃ v,gZ rs e σ=some v/\K v σ
def InR(o:Option AV)(σ:St)(K:AV->St->Prop):Prop:=∃ v,o=some v/\K v σ
@[congr] theorem aMK{o o':Option AV}{σ σ':St}{K:AV->St->Prop}(h:o=o')(h2:σ=σ'):InR o σ K=InR o' σ' K:=by rw[h,h2]
theorem aIY(v:AV)(σ:St)(K:AV->St->Prop):InR (some v) σ K=K v σ:=by simp[InR]
theorem aJ6(rs:List ARes)(K:AV->St->Prop)(e:Env)(σ:St):InK rs K none e σ=InR (gZ rs e σ) σ K:=by simp[InK,InR]
theorem aNC(rs:List ARes)(K:AV->St->Prop)(e:Env)(σ:St):InK rs K (some .ret) e σ=InR (gZ rs e σ) σ K:=by simp[InK,InR]
theorem iC{f:FuncId}{first cap args:List AV}{af:AFunc}{σ:St}{K:AV->St->Prop}(hf:T f=some af)(hn:(first++args++cap).length<=af.ntmps)(h:wp T af.body (fM 0 (first++args++cap)) σ (InK af.results K)):
  cK (K:=⟨K⟩) T (.func f first cap) args σ :=
 .callf (.call hf hn (fO h fun o ho=>ho) fun o ho=>⟨ho.1,ho.2.choose,ho.2.choose_spec.1,.inl ho.2.choose_spec.2⟩)
def EqE(σ:St)(m:Nat)(e:Env):Env->Prop
 |[]=>True
 |(t,v)::e'=>bJ σ m 20 (Env.get e t)=some v/\EqE σ m e e'
theorem aTZ(σ:St)(m:Nat)(e:Env):EqE σ m e []=True:=by simp only[EqE]
theorem aRG(σ:St)(m:Nat)(e:Env)(t:Nat)(v:AV)(e':Env):EqE σ m e ((t,v)::e')=(bJ σ m 20 (Env.get e t)=some v/\EqE σ m e e'):=by simp only[EqE]
theorem MQ{σ:St}{m:Nat}{e:Env}:∀ {e':Env},EqE σ m e e'->QX σ m e e'
 |[],_=>trivial
 |(t,v)::e',h=>by
  refine⟨.inr ?_,MQ h.2⟩;have h1:=h.1;unfold bJ at h1;cases hs:snap σ m 20 (Env.get e t) with
  |none=>rw[hs] at h1;cases h1
  |some v1=>rw[hs] at h1;simp at h1;exact⟨20,v1,hs,.inr h1.symm⟩
def EqS(m:Nat):St->St->St->Prop
 |_,_,[]=>True
 |s::ss,b::bs,c::cs=>(c=b/\(b=s\/aJ m b))/\EqS m ss bs cs
 |[],b::bs,c::cs=>(c=b/\aJ m b)/\EqS m [] bs cs
 |_,[],_::_=>False
theorem aRI(m:Nat)(a b:St):EqS m a b []=True:=by cases a<;>cases b<;>simp only[EqS]
theorem aQU(m:Nat)(s b c:ABlk)(ss bs cs:St):EqS m (s::ss) (b::bs) (c::cs)=((c=b/\(b=s\/aJ m b))/\EqS m ss bs cs):=by simp only[EqS]
theorem aR6(m:Nat)(b c:ABlk)(bs cs:St):EqS m [] (b::bs) (c::cs)=((c=b/\aJ m b)/\EqS m [] bs cs):=by simp only[EqS]
theorem EJ{m:Nat}:∀ {σ σ' σ'':St},EqS m σ σ' σ''->∀ i c,σ''[i]? = some c->σ'[i]? = some c/\((i<σ.length/\σ'[i]? = σ[i]?)\/aJ m c)
 |_,_,[],_,i,c,h=>by simp at h
 |s::ss,b::bs,x::cs,h,i,c,hc=>by
  obtain⟨⟨h1,h2⟩,h3⟩:=h;cases i with
  |zero =>
   simp at hc;subst hc;subst h1;refine⟨rfl,?_⟩;rcases h2 with h2|h2
   ·left;simp[h2]
   ·right;exact h2
  |succ i =>
   obtain⟨q1,q2⟩:=EJ h3 i c (by simpa using hc);refine⟨by simpa using q1,?_⟩;rcases q2 with⟨q2,q3⟩|q2
   ·left;exact⟨by simp;omega,by simpa using q3⟩
   ·right;exact q2
 |[],b::bs,x::cs,h,i,c,hc=>by
  obtain⟨⟨h1,h2⟩,h3⟩:=h;cases i with
  |zero =>
   simp at hc;subst hc;subst h1;exact⟨rfl,.inr h2⟩
  |succ i =>
   obtain⟨q1,q2⟩:=EJ h3 i c (by simpa using hc);refine⟨by simpa using q1,?_⟩;rcases q2 with⟨q2,q3⟩|q2
   ·simp at q2
   ·right;exact q2
def aB(σ:St)(e':Env)(σ':St)(e'':Env)(σ'':St):Prop:=σ.length<=σ''.length/\σ''.length<=σ'.length/\EqE σ' σ''.length e' e''/\EqS σ''.length σ σ' σ''
@[congr] theorem aH8{σ σ1:St}{e' e1:Env}{σ' σ1':St}{e'':Env}{σ'':St}(h1:σ=σ1)(h2:e'=e1)(h3:σ'=σ1'):aB σ e' σ' e'' σ''=aB σ1 e1 σ1' e'' σ'':=by rw[h1,h2,h3]
theorem XN{σ:St}{e':Env}{σ':St}{e'':Env}{σ'':St}(h:aB σ e' σ' e'' σ''):tY σ e' σ' e'' σ'':=by
 obtain⟨h1,h2,h3,h4⟩:=h;refine⟨h1,h2,MQ h3,fun i hi=>?_⟩;obtain⟨c,hc⟩:∃ c,σ''[i]? = some c:=⟨_,List.getElem?_eq_getElem hi⟩;obtain⟨q1,q2⟩:=EJ h4 i c hc;refine⟨c,hc,?_⟩;rcases q2 with⟨q2,q3⟩|q2
 ·left;exact⟨q2,.inl q3,q1⟩
 ·right;left;exact⟨q1,q2⟩
def HD{S:Type}(P:S->Prop)(μ:S->Nat)(IE:S->Env)(IS:S->St)(s:S)(K:KJ):KJ:=fun j e σ =>
 match j with
 |none=>∃ s',P s'/\μ s'<μ s/\aB (IS s) e σ (IE s') (IS s')
 |some j=>K (some j) e σ
theorem X6{S:Type}(P:S->Prop)(μ:S->Nat)(IE:S->Env)(IS:S->St)(s:S)(K:KJ)(e:Env)(σ:St):HD P μ IE IS s K none e σ = ∃ s',P s'/\μ s'<μ s/\aB (IS s) e σ (IE s') (IS s'):=by simp only[HD]
theorem aIK{S:Type}(P:S->Prop)(μ:S->Nat)(IE:S->Env)(IS:S->St)(s:S)(K:KJ)(j:AJump)(e:Env)(σ:St):HD P μ IE IS s K (some j) e σ=K (some j) e σ:=by simp only[HD]
def EqW(e:Env):Env->Prop
 |[]=>True
 |(t,v)::e'=>(Env.get e t=v\/clr (Env.get e t)=v)/\EqW e e'
theorem aRJ(e:Env):EqW e []=True:=by simp only[EqW]
theorem aTF(e:Env)(t:Nat)(v:AV)(e':Env):EqW e ((t,v)::e')=((Env.get e t=v\/clr (Env.get e t)=v)/\EqW e e'):=by simp only[EqW]
theorem LA{e:Env}:∀ {e':Env},EqW e e'->∀ t,Env.get e' t = .undef\/Env.get e' t=Env.get e t\/Env.get e' t=clr (Env.get e t)
 |[],_,t=>.inl rfl
 |(k,v)::e',h,t=>by
  by_cases hk:k=t
  ·subst hk;right;rcases h.1 with h|h
   ·left;simp[Env.get,h]
   ·right;simp[Env.get,h]
  ·simpa[Env.get,hk] using LA h.2 t
theorem aOJ{S:Type}(P:S->Prop)(μ:S->Nat)(IE:S->Env)(IS:S->St){b:ACode}{K:KJ}(step:∀ s,P s->wp T b (IE s) (IS s) (HD P μ IE IS s K)):∀ n s,μ s=n->P s->T4 T (.loop b) (IE s) (IS s) K:=by
 intro n
 induction n using Nat.strongRecOn with
 |_ n ih =>
  intro s hs hp;have h1:Run T (.code b (IE s) (IS s)) fun o=>(o.j=none/\∃ s',P s'/\μ s'<μ s/\o.env=IE s'/\o.σ=IS s')\/(o.j≠none/\K o.j o.env o.σ):=by
   refine .trim2 (fO (step s hp) fun o ho=>ho) fun o ho=>?_
   cases hj:o.j with
   |none =>
    rw[hj,X6] at ho;obtain⟨s',h1,h2,h3⟩:=ho;exact .inr ⟨_,_,XN h3,.inl ⟨rfl,s',h1,h2,rfl,rfl⟩⟩
   |some j =>
    rw[hj,aIK] at ho;exact .inl (.inr ⟨by simp,ho⟩)
  refine .loop h1 (fun o ho hj=>?_) fun o ho hj=>?_
  ·rcases ho with⟨_,s',q1,q2,q3,q4⟩|⟨q1,_⟩
   ·rw[q3,q4];exact ih _ (by omega) s' rfl q1
   ·exact absurd hj q1
  ·rcases ho with⟨q,_⟩|⟨_,q⟩
   ·exact absurd q hj
   ·exact q
theorem bS{S:Type}(s0:S)(P:S->Prop)(μ:S->Nat)(IE:S->Env)(IS:S->St){b:ACode}{e:Env}{σ:St}{K:KJ}(hP:P s0)(hσ:σ=IS s0)(hE:EqW e (IE s0))(step:∀ s,P s->wp T b (IE s) (IS s) (HD P μ IE IS s K)):rK (K:=⟨K⟩) T (.loop b) e σ:=by
 subst hσ;exact .weak (LA hE) (aOJ P μ IE IS step _ s0 rfl hP)
theorem kT{c:ACode}{e:Env}{σ:St}{K:KJ}(t sz:Nat)(xs:List AV)(ht:Env.get e t = .lit xs true none)(h:rK (K:=⟨K⟩) T c ((t,.lit xs false (some σ.length))::e) (σ++[.tok sz xs.length false])):rK (K:=⟨K⟩) T c e σ :=
 .ghost t sz xs ht h
end Go.Am
namespace Go.Am
variable {T:FuncId->Option AFunc}
def BW(e:Env)(σ:St):ARes->Option AV
 |.tmp t=>some (Env.get e t)
 |.cell t sh=>kB sh σ (Env.get e t)
def qJ(e:Env)(σ:St):List ARes->Option (List AV)
 |[]=>some []
 |r::rs=>(BW e σ r).bind fun v=>(qJ e σ rs).map (v::·)
theorem xY(e:Env)(σ:St):∀ rs,n5 e σ rs=qJ e σ rs
 |[]=>rfl
 |.tmp t::rs=>by simp[n5,qJ,BW,xY e σ rs]
 |.cell t sh::rs=>by
  simp only[n5,qJ,BW,xY e σ rs];cases kB sh σ (Env.get e t)<;>cases qJ e σ rs<;>simp
theorem aK5(e:Env)(σ:St):gZ [] e σ=some (.tuple []):=by simp[gZ,n5]
theorem aJL(r:ARes)(e:Env)(σ:St):gZ [r] e σ=BW e σ r:=by
 simp only[gZ,xY,qJ];cases BW e σ r<;>simp
theorem aLP(r s:ARes)(rs:List ARes)(e:Env)(σ:St):gZ (r::s::rs) e σ=(qJ e σ (r::s::rs)).map .tuple:=by
 simp only[gZ,xY,qJ];cases BW e σ r<;>cases BW e σ s<;>cases qJ e σ rs<;>simp
theorem aM3(e:Env)(σ:St):qJ e σ []=some []:=by simp only[qJ]
theorem aPS(r:ARes)(rs:List ARes)(e:Env)(σ:St):qJ e σ (r::rs)=(BW e σ r).bind fun v=>(qJ e σ rs).map (v::·):=by simp only[qJ]
theorem aT2(t:Nat)(e:Env)(σ:St):BW e σ (.tmp t)=some (Env.get e t):=by simp only[BW]
theorem aP8(t:Nat)(sh:Option Nat)(e:Env)(σ:St):BW e σ (.cell t sh)=kB sh σ (Env.get e t):=by simp only[BW]
theorem aTI(id:Nat)(K:KJ)(e:Env)(σ:St):mN id K none e σ=K none e σ:=by simp only[mN]
theorem aRX(id:Nat)(K:KJ)(e:Env)(σ:St):mN id K (some .ret) e σ=K (some .ret) e σ:=by simp only[mN]
theorem aOM(id:Nat)(K:KJ)(e:Env)(σ:St):mN id K (some (.exit id)) e σ=K none e σ:=by simp[mN]
theorem aOO(id i:Nat)(K:KJ)(e:Env)(σ:St)(h:i≠id):mN id K (some (.exit i)) e σ=K (some (.exit i)) e σ:=by simp[mN,h]
theorem aCQ{α:Type}{sz:Nat}{enc:α->AV}{l:List α}{k:Nat}{t:Option Nat}(h:k<l.length)(hs:∀ x,(enc x).cells.length=sz):IZ sz (l.map enc) (k:Int) t=some (.lptr (l.map enc) k 0 t):=by
 simp[IZ,List.getElem?_map,h,hs]
theorem YS{α:Type}{enc:α->AV}{l:List α}{k:Nat}(h:k<l.length):(l.map enc)[k]? = some (enc l[k]):=by simp[List.getElem?_map,h]
theorem rd0{ds:List ADOper}{e:Env}{σ:St}{K:KJ}(hz:eI ds=[])(h:wpD T ds e σ σ.length [σ] [] fun e σ=>K none e σ):rK (K:=⟨K⟩) T (.dreg ds) e σ:=by
 refine QQ ?_;rw[hz,List.append_nil];exact h
theorem pH{ds:List ADOper}{e:Env}{σ:St}{K:KJ}(zs:St)(hz:eI ds=zs)(h:wpD T ds e (σ++zs) σ.length [σ++zs] [] fun e σ=>K none e σ):rK (K:=⟨K⟩) T (.dreg ds) e σ:=by
 subst hz;exact QQ h
theorem bL{k n:Nat}(h:k<n)(hn:n<9223372036854775808):IntKind.i64.wrap ((k:Int)+1)=((k+1:Nat):Int):=by rw[cC ⟨by omega,by omega⟩];omega
def ints(l:List Int):AV:=.lit (l.map (.int .i64)) false none
theorem lK(l:List Int):kZ (ints l):=gK (aY .i64) l
theorem sO(σ:St)(m d:Nat)(k:IntKind)(l:List Int):cB σ m d (l.map (.int k))=some (l.map (.int k)):=gJ (bD (aY k) l) σ m d
theorem aLV(σ:St)(m d:Nat)(l:List ByteArray):cB σ m d (l.map .str)=some (l.map .str):=gJ (bD uL l) σ m d
theorem aIA(σ:St)(m d:Nat):∀ xs ys:List AV,cB σ m d (xs++ys)=(cB σ m d xs).bind fun a=>(cB σ m d ys).map (a++·)
 |[],ys=>by rw[P2];simp
 |x::xs,ys=>by
  rw[List.cons_append,EQ,EQ,aIA σ m d xs ys];cases bJ σ m d x<;>simp;cases cB σ m d xs<;>simp;cases cB σ m d ys<;>simp
def bR(l:List (List Int)):AV:=.lit (l.map ints) false none
theorem xO(l:List (List Int)):kZ (bR l):=gK lK l
theorem aI8(σ:St)(m d:Nat)(l:List Int):bJ σ m d (ints l)=some (ints l):=aKC (lK l) σ m d
theorem VP(σ:St)(m d:Nat)(l:List (List Int)):cB σ m d (l.map ints)=some (l.map ints):=gJ (bD lK l) σ m d
theorem aI3(k:IntKind)(a b:Int):BR [.int k a,.int k b]=some (.int k (min a b)):=by
 simp only[BR,vN,if_true,Option.some.injEq,AV.int.injEq,true_and];split<;>omega
theorem AC(k:IntKind)(a b:Int):A1 [.int k a,.int k b]=some (.int k (max a b)):=by
 simp only[A1,v6,if_true,Option.some.injEq,AV.int.injEq,true_and];split<;>omega
def eW(s:ByteArray)(k:Nat):Int:=(((s[k]?).getD 0).toNat:Int)
theorem FN(s:ByteArray)(k:Nat):0<=eW s k/\eW s k<256:=by
 have:=((s[k]?).getD 0).toNat_lt;unfold eW;omega
theorem aKR{s:ByteArray}{k:Nat}(h:k<s.size):CC (.str s) (.int .i64 (k:Int))=some (.int .u8 (eW s k)):=by
 simp[CC,gG,eW,h]
structure Span where
 lo:Int
 hi:Int
 deriving DecidableEq
def cV(s:Span):AV:=.agg [.int .i64 s.lo,.int .i64 s.hi]
theorem aG(s:Span):cV s = .agg [.int .i64 s.lo,.int .i64 s.hi]:=by simp only[cV]
theorem mZ(s:Span):kZ (cV s):=gS (aL (aY _ _) (aL (aY _ _) aZ))
def O9(l:List ByteArray):AV:=.lit (l.map .str) false none
theorem S2(l:List ByteArray):kZ (O9 l):=gK uL l
end Go.Am
namespace Go.Am
variable {T:FuncId->Option AFunc}
def gH(T:FuncId->Option AFunc)(f:AV)(args:List AV)(σ:St)(v:AV):Prop:=Run T (.callv f args σ) fun o=>o.v=v/\o.σ=σ
def CJ(o:Option AV)(σ0 σ:St)(v:AV):Prop:=∃ v0 τ,o=some v0/\σ=σ0++τ/\bJ σ σ0.length 20 v0=some v
@[congr] theorem aIB{o o':Option AV}{σ0 σ σ':St}{v:AV}(h:o=o')(h2:σ=σ'):CJ o σ0 σ v=CJ o' σ0 σ' v:=by rw[h,h2]
def KD(rs:List ARes)(σ0:St)(v:AV):KJ:=fun j e σ=>(j=none\/j=some .ret)/\CJ (gZ rs e σ) σ0 σ v
theorem aMJ(rs:List ARes)(σ0:St)(v:AV)(e:Env)(σ:St):KD rs σ0 v none e σ=CJ (gZ rs e σ) σ0 σ v:=by simp[KD]
theorem aPI(rs:List ARes)(σ0:St)(v:AV)(e:Env)(σ:St):KD rs σ0 v (some .ret) e σ=CJ (gZ rs e σ) σ0 σ v:=by simp[KD]
theorem dN{v0:AV}{σ0 σ:St}{v:AV}(τ:St)(h1:σ=σ0++τ)(h2:bJ σ σ0.length 20 v0=some v):CJ (some v0) σ0 σ v:=⟨v0,τ,rfl,h1,h2⟩
theorem dA{f:FuncId}{first cap args:List AV}{σ:St}{af:AFunc}{v:AV}(hf:T f=some af)(hn:(first++args++cap).length<=af.ntmps)(h:wp T af.body (fM 0 (first++args++cap)) σ (KD af.results σ v)):gH T (.func f first cap) args σ v:=by
 refine .callf (.call hf hn (fO h fun o ho=>ho) fun o ho=>?_);obtain⟨h1,v0,τ,h2,h3,h4⟩:=ho;refine⟨h1,v0,h2,?_⟩;unfold bJ at h4;cases hs:snap o.σ σ.length 20 v0 with
 |none=>rw[hs] at h4;cases h4
 |some v1 =>
  rw[hs] at h4;simp at h4;exact .inr ⟨20,v1,v,hs,.inr h4.symm,fun i hi=>.inl (by rw[h3];exact List.getElem?_append_left hi),by rw[h3];simp,rfl,by rw[h3];simp⟩
theorem aV{f:AV}{args:List AV}{v:AV}{σ:St}{K:AV->St->Prop}(h:gH T f args σ v)(k:K v σ):cK (K:=⟨K⟩) T f args σ:=.mono h fun o ho=>by rw[ho.1,ho.2];exact k
theorem fD{f:AV}{args:List AV}{v:AV}{σ:St}{K:AV->St->Prop}(h:gH T f args σ v)(k:K v σ):cD (K:=⟨K⟩) T f args σ:=⟨v,σ,h,k⟩
def tL(σ:St)(v:AV):Prop:=∀ τ,bJ (σ++τ) σ.length 20 v=some v
theorem tL.nil{σ:St}{v:AV}(h:tL σ v):bJ σ σ.length 20 v=some v:=by simpa using h []
theorem aKG(m:Nat):∀ (σ τ:St),EqS m σ (σ++τ) σ=True
 |[],τ=>by cases τ<;>simp[EqS]
 |b::σ,τ=>by simp[EqS,aKG m σ τ]
theorem aMS(m:Nat)(σ:St):EqS m σ σ σ=True:=by simpa using aKG m σ []
theorem aJJ(σ τ υ:St):σ++τ++υ=σ++(τ++υ):=List.append_assoc _ _ _
theorem aA6{s:ByteArray}{k:Nat}(h:k<s.size):AU [.siter s k] (.ptr 0 0)=some (.tuple [.bool true,.int .i64 k,.int .i32 (Utf8.decode s k).1],[.siter s (k+(Utf8.decode s k).2)]):=by
 simp[AU,h]
theorem YR{s:ByteArray}{k:Nat}(h:¬k<s.size):AU [.siter s k] (.ptr 0 0)=some (.tuple [.bool false],[.siter s k]):=by
 simp[AU,h]
theorem xP{s:ByteArray}{k:Nat}(h:k<s.size)(hb:eW s k<128):Utf8.decode s k=((eW s k).toNat,1):=by
 have e:eW s k=((s[k]'h).toNat:Int):=by simp[eW,h]
 rw[decode_ascii s k h (by omega),e];simp
theorem JD{s:ByteArray}{k:Nat}(h:k<s.size)(hb:128<=eW s k):128<=(Utf8.decode s k).1:=by
 have e:eW s k=((s[k]'h).toNat:Int):=by simp[eW,h]
 exact (decode_high s k h (by omega)).1
theorem aBD{α:Type}{sz:Nat}{enc:α->AV}{l:List α}{i:Nat}{σ:St}{t:Option Nat}(hi:i<=l.length)(hs:∀ x,(enc x).cells.length=sz):xU sz σ (.lit (l.map enc) false t) none (some (.int .i64 (i:Int))) none=some (.lit ((l.take i).map enc) false t):=by
 have hc:B6 sz (l.map enc) 0 (i:Int)=true:=by
  unfold B6;by_cases h0:i=0
  ·subst h0;simp
  ·cases l with
   |nil=>simp at hi;omega
   |cons x l=>simp[hs]
 simp only[xU,jI,rD,Option.map_none,gG,oR];rw[if_pos ⟨by omega,by omega,by simp;omega,hc⟩];simp[List.map_take]
theorem bM{f:FuncId}{args args0:List AV}{v:AV}{σ:St}{K:AV->St->Prop}(h:cP T f args0 v)(ha:clrs args=args0)(hk:okVs 0 args)(k:K v σ):cK (K:=⟨K⟩) T (.func f [] []) args σ :=
 LD h (by simpa using ha) (by simpa using hk) k
theorem oV{f:FuncId}{args args0:List AV}{v:AV}{σ:St}{K:AV->St->Prop}(h:cP T f args0 v)(ha:clrs args=args0)(hk:okVs 0 args)(k:K v σ):cD (K:=⟨K⟩) T (.func f [] []) args σ :=
 K9 h (by simpa using ha) (by simpa using hk) k
end Go.Am
namespace Go.Am
def QV:=zz @aPO (zz @kD (zz @QU (zz @aJJ (zz @aKR (zz @aI3 (zz @AC (zz @aM9 (zz @aKE (zz @aCS (zz @QK (zz @aM7 (zz @aNN (zz @aMC (zz @aGY (zz @aDC (zz @YG (zz @V9 (zz @vR (zz @sF (zz @aL3 (zz @aJF (zz @aKU (zz @aJQ (zz @aKF (zz @aIE (zz @aCG (zz @aLB (zz @aJX (zz @aL5 (zz @aD4 (zz @aK8 (zz @aNG (zz @aDZ (zz @aFR (zz @XB (zz @aOL (zz @aNU (zz @PA (zz @XK (zz @M5 (zz @aMO (zz @aO4 (zz @aOZ (zz @aNE (zz @aP2 (zz @aPP (zz @aOD (zz @aPY (zz @aOX (zz @aNA (zz @aNW (zz @aN3 (zz @aKD (zz @ZA (zz @YN (zz @ZQ (zz @aK7 (zz @aLX (zz @aHM (zz @YF (zz @XO (zz @tR (zz @mF (zz @jY (zz @aP3 (zz @aIL (zz @aET (zz @aNK (zz @aHC (zz @WT (zz @XG (zz @UN (zz @aHO (zz @aO2 (zz @aPD (zz @aJH (zz @aPU (zz @WK (zz @SH (zz @aN8 (zz @C_0 (zz @aLL (zz @aFE (zz @aIZ (zz @aLG (zz @aJS (zz @aJ3 (zz @aFH (zz @aJ7 (zz @TT (zz @OS (zz @aMP (zz @aLQ (zz @aMV (zz @aPB (zz @aN5 (zz @aNF (zz @aMA (zz @aN9 (zz @aNI (zz @WY (zz @TK (zz @aO5 (zz @aM5 (zz @WV (zz @ZY (zz @aOY (zz @aHR (zz @aNL (zz @aJE (zz @aH3 (zz @aK5 (zz @aJL (zz @aLP (zz @aM3 (zz @aPS (zz @aT2 (zz @aP8 (zz @aJZ (zz @aIY (zz @aOQ (zz @aKZ (zz @aEV (zz @aN6 (zz @aGN (zz @aEJ (zz @aEX (zz @aLE (zz @aFX (zz @NP (zz @aPX (zz @aOH (zz @aM1 (zz @aMU (zz @aI4 (zz @aF5 (zz @aGM (zz @S8 (zz @aA3 (zz @Z5 (zz @aFG (zz @aDO (zz @aHF (zz @aFK (zz @WA (zz @XP (zz @ZU (zz @aPL (zz @aP1 (zz @aCJ (zz @aEQ (zz @aI0 (zz @aMZ (zz @aNJ (zz @W7 (@aDL))))))))))))))))))))))))))))))))))))))))))))))))))))))))))))))))))))))))))))))))))))))))))))))))))))))))))))))))))))))))))))))))))))))))))))))))))))))))))))
def QP:=zz @aMJ (zz @aPI (zz @aNV (zz @aNM (zz @aJY (zz @aI1 (zz @aD3 (zz @aLA (zz @aHE (zz @aGL (zz @aPC (zz @aTI (zz @aRX (zz @aOM (zz @aOO (zz @aCQ (zz @YS (zz @aMF (zz @aE5 (zz @aL8 (zz @aLH (zz @aEF (zz @aO1 (zz @aKW (zz @aOU (zz @aJ6 (zz @aNC (zz @X6 (zz @aIK (zz @aPZ (zz @aL2 (zz @aGK (zz @aPE (zz @aHA (zz @aFT (zz @aGB (zz @aK0 (zz @aEB (zz @PQ (zz @aN0 (zz @aN2 (zz @aOW (zz @aNS (zz @aJI (zz @aEC (zz @aDV (zz @R2 (zz @V0 (zz @WL (zz @aD6 (zz @aGV (zz @aEP (zz @aE0 (zz @VL (zz @aCM (zz @aAC (zz @aOC (zz @aMR (zz @V8 (zz @aFW (zz @aKN (zz @aPJ (zz @aOF (zz @aAT (@aG4))))))))))))))))))))))))))))))))))))))))))))))))))))))))))))))))
def QD:=zz @aOR (zz @aJ4 (zz @aHB (zz @X0 (zz @aO8 (zz @aKT (zz @aP0 (zz @aG2 (zz @aF4 (zz @aE3 (zz @aJP (zz @aGA (zz @M7 (zz @aPM (zz @aNT (zz @aO6 (zz @aND (zz @aJD (zz @aE9 (zz @aEH (zz @TX (zz @aCZ (zz @VS (zz @aGG (zz @aEG (zz @aGS (zz @aFL (zz @VQ (zz @W0 (zz @UK (zz @aP4 (zz @aPV (zz @Z1 (zz @aGT (zz @aMH (zz @aMT (zz @aMX (zz @aBJ (zz @aEI (zz @aOT (zz @aJN (zz @aOK (zz @aEK (zz @aG1 (zz @aFQ (zz @aIX (zz @aFU (zz @PF (zz @aPQ (zz @aNQ (zz @aO3 (zz @aPK (zz @aKI (zz @aD1 (zz @aE1 (zz @SF (zz @aAA (zz @V3 (zz @aD0 (zz @aDS (zz @aG0 (zz @aED (zz @X4 (zz @WZ (zz @aBV (zz @aM8 (zz @aMW (zz @aBP (zz @aEW (zz @aLU (zz @aN1 (zz @aNX (zz @aB7 (@aFC)))))))))))))))))))))))))))))))))))))))))))))))))))))))))))))))))))))))))
def QS:=zz @VP (zz @aI8 (zz @aIA (zz @sO (zz @aLV (zz @ZT (zz @HR (zz @VH (zz @VN (zz @S1 (zz @aIM (zz @aM0 (zz @P2 (zz @EQ (zz @aGP (zz @Y7 (zz @CP (zz @NM (zz @I8 (zz @aIE (@aCG))))))))))))))))))))
def QR:=zz @U7 (zz @Z8 (zz @aD8 (@aFZ)))
def QT:=zz @aKG (zz @aMS (zz @aTZ (zz @aRG (zz @aRI (zz @aQU (zz @aR6 (zz @aRJ (zz @aTF (@aCS)))))))))
variable {T:FuncId->Option AFunc}
mutual
theorem okV_up {m:Nat}:∀ v,okV 0 v->okV m v
 |.func _ first cap,h=>⟨okVs_up first h.1,okVs_up cap h.2⟩
 |.lptr xs _ _ tk,h=>⟨fun t e=>absurd (h.1 t e) (by omega),okVs_up xs h.2⟩
 |.lit xs _ tk,h=>⟨fun t e=>absurd (h.1 t e) (by omega),okVs_up xs h.2⟩
 |.agg cs,h=>okVs_up cs h
 |.tuple vs,h=>okVs_up vs h
 |.yield _,h|.ptr _ _,h|.ref _ _ _ _,h|.map _,h=>absurd h (by simp[okV])
 |.undef,_|.int _ _,_|.bool _,_|.str _,_|.nilFunc,_|.nilPtr,_|.nilMap,_=>trivial
theorem okVs_up {m:Nat}:∀ vs,okVs 0 vs->okVs m vs
 |[],_=>trivial
 |v::vs,h=>⟨okV_up v h.1,okVs_up vs h.2⟩
end
theorem uB{σ:St}{m d id off len sz:Nat}(h:id<m):bJ σ m d (.ref id off len sz)=some (.ref id off len sz):=by
 cases d<;>simp[bJ,snap,h,clr]
theorem WI{f:FuncId}{args:List AV}{v:AV}{af:AFunc}(hf:T f=some af)(hn:args.length<=af.ntmps)(hk:nF args)(h:Run T (.code af.body (fM 0 args) []) fun o=>OJ af.results v o.j o.env o.σ):cP T f args v:=by
 intro σ;refine .frame hk.1 (.inl rfl) (R:=fun o=>o.v=v/\o.σ=[]) (.call hf hn h fun o ho=>?_) fun o ho=>⟨ho.2,ho.1,rfl⟩
 obtain⟨h1,v0,h2,h3⟩:=ho;refine⟨h1,v0,h2,?_⟩;unfold bJ at h3;cases hs:snap o.σ 0 20 v0 with
 |none=>rw[hs] at h3;cases h3
 |some v1 =>
  rw[hs] at h3;simp at h3;exact .inr ⟨20,v1,v,hs,.inr h3.symm,fun i hi=>absurd hi (by simp),by simp,rfl,by simp⟩
theorem MF{a:ACode}{e:Env}{σ:St}{K:KJ}(h:wp T a e σ K):Run T (.code a e σ) fun o=>K o.j o.env o.σ:=fO h fun o ho=>ho
end Go.Am
namespace Go.Am
theorem rQ(l:List Int):ints l = .lit (l.map (.int .i64)) false none:=by simp only[ints]
theorem aB2(l:List ByteArray):O9 l = .lit (l.map .str) false none:=by simp only[O9]
def QC:=zz @and_self (zz @and_true (zz @true_and (zz @true_or (zz @or_true (zz @rQ (zz @aB2 (zz @decide_true (zz @decide_false (zz @Nat.lt_irrefl (zz @Nat.le_refl (zz @List.length_cons.{0} (zz @List.length_nil.{0} (zz @List.cons_append.{0} (zz @List.nil_append.{0} (zz @List.append_nil.{0} (zz @List.getElem?_cons_zero.{0} (zz @List.getElem?_cons_succ.{0} (zz @List.take_zero.{0} (zz @List.drop_zero.{0} (zz @List.take_succ_cons.{0} (zz @List.drop_succ_cons.{0} (zz @List.take_nil.{0} (zz @List.drop_nil.{0} (zz @List.set_cons_zero.{0} (zz @List.set_cons_succ.{0} (zz @List.length_map.{0,0} (zz @Bool.and_true (zz @Bool.true_and (zz @Bool.and_self (zz @Bool.not_true (zz @Bool.not_false (zz @beq_self_eq_true.{0} (zz @Nat.zero_add (zz @implies_true.{0} (zz @implies_true.{1} (zz @forall_const.{0} (zz @forall_const.{1} (zz @ne_eq.{1} (zz @not_false_eq_true (@not_true_eq_false))))))))))))))))))))))))))))))))))))))))
def QA:=zz QP QD
def QB:=zz QR (zz QV (zz QS QC))
def QE:=zz QT (zz QS (zz @aCS (zz @List.length_append.{0} (zz @Nat.le_add_right QC))))
class Dat (v:AV):Prop where
 h:kZ v
class Dats (vs:List AV):Prop where
 h:nF vs
theorem dd{vs:List AV}[k:Dats vs]:nF vs:=k.h
instance:Dats []:=⟨aZ⟩
instance {v:AV} {vs:List AV} [a:Dat v] [b:Dats vs]:Dats (v::vs):=⟨aL a.h b.h⟩
instance (k:IntKind) (n:Int):Dat (.int k n):=⟨aY k n⟩
instance (b:Bool):Dat (.bool b):=⟨vT b⟩
instance (s:ByteArray):Dat (.str s):=⟨uL s⟩
instance (l:List Int):Dat (ints l):=⟨lK l⟩
instance (l:List (List Int)):Dat (bR l):=⟨xO l⟩
instance (l:List ByteArray):Dat (O9 l):=⟨S2 l⟩
instance (s:Span):Dat (cV s):=⟨mZ s⟩
instance {cs:List AV} [a:Dats cs]:Dat (.agg cs):=⟨gS a.h⟩
instance {cs:List AV} [a:Dats cs]:Dat (.tuple cs):=⟨NT a.h⟩
instance {cs:List AV} [a:Dats cs]:Dat (.lit cs false none):=⟨MK a.h⟩
instance (k:IntKind) (l:List Int):Dats (l.map (.int k)):=⟨bD (aY k) l⟩
end Go.Am
namespace Go.Am.Room
def inR(n lo hi:Int):Bool:=decide (lo<=n)&&decide (n<=hi)
theorem gP(n lo hi:Int):cP T 20 [.int .i64 n,.int .i64 lo,.int .i64 hi] (.bool (inR n lo hi)):=by
 refine aQ (af:=a20) rfl (by simp[a20]) dd ?_;try simp only[↓QA,QB,seval,a20]
 refine aE (fun h=>?_) fun h=>?_
 all_goals
  try simp only[↓QA,QB,seval,h]
  simp[inR,h]
theorem RT(n:Int)(s:Span):cP T 53 [.int .i64 n,cV s] (.bool (inR n s.lo s.hi)):=by
 refine aQ (af:=a53) rfl (by simp[a53]) dd ?_;try simp only[↓QA,QB,seval,a53,aG]
 refine aC (gP _ _ _) rfl dd ?_;try simp only[↓QA,QB,seval]
def kG(s:Span)(lo hi:Int):Int:=if !inR s.lo lo hi||!inR s.hi lo hi then 7 else if s.hi<s.lo then 2 else 0
theorem H4(s:Span)(lo hi:Int):cP T 29 [cV s,.int .i64 lo,.int .i64 hi] (.int .i64 (kG s lo hi)):=by
 refine aQ (af:=a29) rfl (by simp[a29]) dd ?_;try simp only[↓QA,QB,seval,a29,aG]
 refine aC (gP _ _ _) rfl dd ?_;try simp only[↓QA,QB,seval]
 cases h1:inR s.lo lo hi
 ·try simp only[↓QA,QB,seval]
  simp[kG,h1]
 ·try simp only[↓QA,QB,seval]
  refine aC (gP _ _ _) rfl dd ?_;try simp only[↓QA,QB,seval]
  cases h2:inR s.hi lo hi
  ·try simp only[↓QA,QB,seval]
   simp[kG,h1,h2]
  ·try simp only[↓QA,QB,seval]
   refine aE (fun h=>?_) fun h=>?_
   all_goals
    try simp only[↓QA,QB,seval,h]
    simp[kG,h1,h2];simpa using h
def mW(s:Span)(n:Int):Span:=⟨min s.lo n,max s.hi n⟩
theorem I9(l:List Int)(n:Int)(hl:l.length<9223372036854775808):cP T 64 [ints l,.int .i64 n] (.bool (l.contains n)):=by
 refine aQ (af:=a64) rfl (by simp[a64]) dd ?_;try simp only[↓QA,QB,seval,a64]
 refine bS (S:=Nat) 0 (·<=l.length) (fun k=>l.length-k) (fun k=>[(0,ints l),(1,.int .i64 n),(5,.bool ((l.take k).contains n)),(6,.int .i64 k)]) (fun _=>[]) (Nat.zero_le _) rfl ?_ fun k hk=>?_
 ·try simp only[aB,QE,seval]
  try simp
 ·try simp only[↓QA,QB,seval,aHX]
  refine aE (fun h=>?_) fun h=>?_
  ·have hk1:k<l.length:=by simpa using h
   try simp only[↓QA,QB,seval]
   refine aE (fun h2=>?_) fun h2=>?_
   all_goals
    try simp only[↓QA,QB,seval,h2,hk1]
    refine⟨k+1,by omega,by omega,?_⟩;try simp only[aB,QE,seval,bL hk1 hl]
    simp only[List.take_succ_eq_append_getElem hk1,List.contains_append,h2];simp;try (rw[Bool.eq_iff_iff];simp;exact eq_comm)
  ·have:k=l.length:=by simp at h;omega
   try simp only[↓QA,QB,seval]
   simp[this]
def less:List Int->List Int->Bool
 |_,[]=>false
 |[],_::_=>true
 |a::az,b::bs=>if a=b then less az bs else decide (a<b)
theorem SB{a b:List Int}{k:Nat}(ha:k<a.length)(hb:k<b.length)(h:a[k]=b[k]):less (a.drop (k+1)) (b.drop (k+1))=less (a.drop k) (b.drop k):=by
 rw[List.drop_eq_getElem_cons ha,List.drop_eq_getElem_cons hb];simp[less,h]
theorem Q2(a b:List Int)(ha:a.length<9223372036854775808)(hb:b.length<9223372036854775808):cP T 170 [ints a,ints b] (.bool (less a b)):=by
 refine aQ (af:=WD) rfl (by simp[WD]) dd ?_
 (repeat (first|simp only[↓QA,QB,seval,WD]|refine rd0 rfl ?_))
 refine bS (S:=Nat) 0 (fun k=>k<=a.length/\k<=b.length/\less (a.drop k) (b.drop k)=less a b) (fun k=>a.length-k) (fun k=>[(0,ints a),(1,ints b),(5,.int .i64 k)]) (fun _=>[]) ⟨Nat.zero_le _,Nat.zero_le _,rfl⟩ rfl ?_ fun k hk=>?_
 ·try simp only[aB,QE,seval]
  try simp
 ·obtain⟨hka,hkb,hl⟩:=hk
  (repeat (first|simp only[↓QA,QB,seval,W5]|refine rd0 rfl ?_))
  by_cases h1:k<a.length
  ·have g1:decide ((k:Int)<a.length)=true:=by simpa using h1
   by_cases h2:k<b.length
   ·have g2:decide ((k:Int)<b.length)=true:=by simpa using h2
    (repeat (first|simp only[↓QA,QB,seval,g1,g2,h1,h2]|refine rd0 rfl ?_))
    refine aE (fun h3=>?_) fun h3=>?_
    ·have h3':a[k]=b[k]:=by simpa using h3
     (repeat (first|simp only[↓QA,QB,seval,h3]|refine rd0 rfl ?_))
     refine⟨k+1,⟨by omega,by omega,(SB h1 h2 h3').trans hl⟩,by omega,?_⟩;try simp only[aB,QE,seval,bL h1 ha]
    ·have h3':a[k]≠b[k]:=by simpa using h3
     have e1:((k:Int)==b.length)=false:=by simp;omega
     have e2:((k:Int)==a.length)=false:=by simp;omega
     (repeat (first|simp only[↓QA,QB,seval,h3,e1,e2,h1,h2]|refine rd0 rfl ?_))
     rw[<-hl,List.drop_eq_getElem_cons h1,List.drop_eq_getElem_cons h2];simp[less,h3']
   ·have hkb':k=b.length:=by omega
    have g2:decide ((k:Int)<b.length)=false:=by simp;omega
    have e1:((k:Int)==b.length)=true:=by simp;omega
    (repeat (first|simp only[↓QA,QB,seval,g1,g2,e1]|refine rd0 rfl ?_))
    rw[<-hl,hkb',List.drop_length];cases List.drop b.length a<;>simp[less]
  ·have g1:decide ((k:Int)<a.length)=false:=by simp;omega
   have e2:((k:Int)==a.length)=true:=by simp;omega
   have hka':k=a.length:=by omega
   (repeat (first|simp only[↓QA,QB,seval,g1]|refine rd0 rfl ?_))
   refine aE (fun h3=>?_) fun h3=>?_
   ·have h3':k=b.length:=by simp at h3;omega
    (repeat (first|simp only[↓QA,QB,seval]|refine rd0 rfl ?_))
    rw[<-hl,h3',List.drop_length];cases List.drop b.length a<;>simp[less]
   ·have h3':k<b.length:=by simp at h3;omega
    (repeat (first|simp only[↓QA,QB,seval,h3,e2]|refine rd0 rfl ?_))
    rw[<-hl,hka',List.drop_length,List.drop_eq_getElem_cons (by omega)];simp[less]
theorem rZ:∀ a,less a a=false
 |[]=>rfl
 |a::az=>by simp[less,rZ az]
theorem CW:∀ a b,less a b=false->less b a=false->a=b
 |[],[],_,_=>rfl
 |[],b::bs,h,_=>by simp[less] at h
 |a::az,[],_,h=>by simp[less] at h
 |a::az,b::bs,h1,h2=>by
  by_cases hab:a=b
  ·subst hab;simp[less] at h1 h2;rw[CW az bs h1 h2]
  ·simp[less,hab,Ne.symm hab] at h1 h2;omega
theorem aGE(a b:Nat):((a:Int)==(b:Int))=decide (a=b):=by rw[Bool.eq_iff_iff];simp;omega
theorem mQ(a b:List Int)(ha:a.length<9223372036854775808)(hb:b.length<9223372036854775808):cP T 44 [ints a,ints b] (.bool (decide (a=b))):=by
 refine aQ (af:=a44) rfl (by simp[a44]) dd ?_;try simp only[↓QA,QB,seval,a44]
 refine aE (fun h=>?_) fun h=>?_
 ·try simp only[↓QA,QB,seval,h]
  refine aC (Q2 a b ha hb) rfl dd ?_;try simp only[↓QA,QB,seval,h]
  cases h1:less a b
  ·try simp only[↓QA,QB,seval,h]
   refine aC (Q2 b a hb ha) rfl dd ?_;try simp only[↓QA,QB,seval,h]
   cases h2:less b a
   ·rw[CW a b h1 h2];simp
   ·have:a≠b:=by rintro rfl;rw[rZ] at h2;cases h2
    simp[this]
  ·have:a≠b:=by rintro rfl;rw[rZ] at h1;cases h1
   try simp only[↓QA,QB,seval,h]
   simp[this]
 ·have:a≠b:=by rintro rfl;simp at h
  try simp only[↓QA,QB,seval,h]
  simp[this]
def g7(a b:List Int):Bool:=if a.length=b.length then less a b else decide (a.length<b.length)
theorem CD(a b:ByteArray):(a.toList==b.toList)=decide (a=b):=by
 rw[Bool.eq_iff_iff];simp;constructor
 ·intro h;rw[Go.Lib.toList_data,Go.Lib.toList_data] at h;exact ByteArray.ext (Array.toList_inj.1 h)
 ·rintro rfl;rfl
def kR(s:ByteArray):List ByteArray->Nat
 |[]=>0
 |x::xs=>if x=s then 0 else kR s xs+1
def DR(s:ByteArray)(l:List ByteArray):Int:=if kR s l=l.length then -1 else kR s l
theorem OQ{s:ByteArray}{l:List ByteArray}{k:Nat}(h:k<l.length)(hx:l[k]≠s):k+kR s (l.drop k)=k+1+kR s (l.drop (k+1)):=by
 rw[List.drop_eq_getElem_cons h];simp[kR,hx];omega
theorem aA1(l:List ByteArray)(s:ByteArray)(hl:l.length<9223372036854775808):cP T 220 [O9 l,.str s] (.int .i64 (DR s l)):=by
 refine aQ (af:=ZZ) rfl (by simp[ZZ]) dd ?_;try simp only[↓QA,QB,seval,ZZ]
 refine bS (S:=Nat) 0 (fun k=>k<=l.length/\k+kR s (l.drop k)=kR s l) (fun k=>l.length-k) (fun k=>[(0,O9 l),(1,.str s),(5,.int .i64 k)]) (fun _=>[]) ⟨Nat.zero_le _,by simp⟩ rfl ?_ fun k hk=>?_
 ·try simp only[aB,QE,seval]
  try simp
 ·obtain⟨hkl,ha⟩:=hk;try simp only[↓QA,QB,seval,YB,CD]
  refine aE (fun h=>?_) fun h=>?_
  ·have hk1:k<l.length:=by simpa using h
   have e2:((k:Int)==l.length)=false:=by simp;omega
   try simp only[↓QA,QB,seval,h,hk1,CD]
   refine aE (fun h3=>?_) fun h3=>?_
   ·have h3':l[k]≠s:=by simpa using h3
    try simp only[↓QA,QB,seval,h3]
    refine⟨k+1,⟨by omega,by rw[<-OQ hk1 h3'];exact ha⟩,by omega,?_⟩;try simp only[aB,QE,seval,bL hk1 hl]
   ·have h3':l[k]=s:=by simpa using h3
    have h4:kR s (l.drop k)=0:=by rw[List.drop_eq_getElem_cons hk1];simp[kR,h3']
    try simp only[↓QA,QB,seval,h3,e2]
    simp only[DR];rw[if_neg (by omega)];simp;omega
  ·have hk1:k=l.length:=by simp at h;omega
   have e2:((k:Int)==l.length)=true:=by simp;omega
   have h4:kR s (l.drop k)=0:=by rw[hk1,List.drop_length];rfl
   try simp only[↓QA,QB,seval,h,e2]
   simp only[DR];rw[if_pos (by omega)]
def DA(i:Nat)(b:Int):Bool:=inR b 97 122||(decide (0<i)&&(b==46||inR b 48 57))
def iZ(s:ByteArray):Nat->Bool
 |0=>true
 |k+1=>iZ s k&&DA k (eW s k)
def pP(s:ByteArray):Bool:=inR s.size 1 16&&iZ s s.size
theorem RJ(s:ByteArray)(hs:s.size<9223372036854775808):cP T 221 [.str s] (.bool (pP s)):=by
 refine aQ (af:=VF) rfl (by simp[VF]) dd ?_;try simp only[↓QA,QB,seval,VF]
 (refine aC (gP _ _ _) rfl dd ?_;try simp only[↓QA,QB,seval])
 refine bS (S:=Nat) 0 (fun k=>k<=s.size) (fun k=>s.size-k) (fun k=>[(0,.str s),(3,.bool (inR s.size 1 16&&iZ s k)),(4,.int .i64 k)]) (fun _=>[]) (Nat.zero_le _) rfl ?_ fun k hk=>?_
 ·try simp only[aB,QE,seval,iZ]
  try simp
 ·try simp only[↓QA,QB,seval,aC3]
  refine aE (fun h=>?_) fun h=>?_
  ·have hk1:k<s.size:=by simpa using h
   have hb:=FN s k;have hw:IntKind.i64.wrap (eW s k)=eW s k:=cC ⟨by omega,by omega⟩;have fin:∀ (later:Bool),later=(decide (0<k)&&(eW s k==46||inR (eW s k) 48 57))->(inR s.size 1 16&&iZ s k&&(inR (eW s k) 97 122||later))=(inR s.size 1 16&&iZ s (k+1)):=by
    rintro _ rfl;simp only[iZ,DA,Bool.and_assoc]
   have tail:∀ (later:Bool) (e:Env),later=(decide (0<k)&&(eW s k==46||inR (eW s k) 48 57))->True:=fun _ _ _=>trivial
   try simp only[↓QA,QB,seval,hk1,hw]
   cases h0:decide ((0:Int)<k)
   ·have h0':decide (0<k)=false:=by simpa using h0
    try simp only[↓QA,QB,seval,hk1,hw]
    cases hf:(inR s.size 1 16&&iZ s k)
    ·try simp only[↓QA,QB,seval,hk1,hw,hf]
     refine⟨k+1,by omega,by omega,?_⟩;try simp only[aB,QE,seval,bL hk1 hs,<-fin false (by simp[h0']),hf]
     try simp
    ·try simp only[↓QA,QB,seval,hk1,hw,hf]
     (refine aC (gP _ _ _) rfl dd ?_;try simp only[↓QA,QB,seval])
     cases h2:inR (eW s k) 97 122;all_goals
      try simp only[↓QA,QB,seval,hk1,hw,hf]
      refine⟨k+1,by omega,by omega,?_⟩;try simp only[aB,QE,seval,bL hk1 hs,<-fin false (by simp[h0']),hf,h2]
      try simp
   ·have h0':decide (0<k)=true:=by simpa using h0
    try simp only[↓QA,QB,seval,hk1,hw]
    cases h1:(eW s k==46)
    ·try simp only[↓QA,QB,seval,hk1,hw]
     (refine aC (gP _ _ _) rfl dd ?_;try simp only[↓QA,QB,seval])
     cases hf:(inR s.size 1 16&&iZ s k)
     ·try simp only[↓QA,QB,seval,hk1,hw,hf]
      refine⟨k+1,by omega,by omega,?_⟩;try simp only[aB,QE,seval,bL hk1 hs,<-fin _ rfl,hf]
      try simp
     ·try simp only[↓QA,QB,seval,hk1,hw,hf]
      (refine aC (gP _ _ _) rfl dd ?_;try simp only[↓QA,QB,seval])
      cases h2:inR (eW s k) 97 122;all_goals
       try simp only[↓QA,QB,seval,hk1,hw,hf]
       refine⟨k+1,by omega,by omega,?_⟩;try simp only[aB,QE,seval,bL hk1 hs,<-fin _ rfl,hf,h2,h0',h1]
       try simp
    ·try simp only[↓QA,QB,seval,hk1,hw]
     cases hf:(inR s.size 1 16&&iZ s k)
     ·try simp only[↓QA,QB,seval,hk1,hw,hf]
      refine⟨k+1,by omega,by omega,?_⟩;try simp only[aB,QE,seval,bL hk1 hs,<-fin _ rfl,hf]
      try simp
     ·try simp only[↓QA,QB,seval,hk1,hw,hf]
      (refine aC (gP _ _ _) rfl dd ?_;try simp only[↓QA,QB,seval])
      cases h2:inR (eW s k) 97 122;all_goals
       try simp only[↓QA,QB,seval,hk1,hw,hf]
       refine⟨k+1,by omega,by omega,?_⟩;try simp only[aB,QE,seval,bL hk1 hs,<-fin _ rfl,hf,h2,h0',h1]
       try simp
  ·have hk1:k=s.size:=by simp at h;omega
   try simp only[↓QA,QB,seval]
   simp[pP,hk1]
def fresh(s:ByteArray)(before:List ByteArray):Int:=if pP s=false then 6 else if kR s before=before.length then 0 else 5
theorem KE(s:ByteArray)(l:List ByteArray)(hs:s.size<9223372036854775808)(hl:l.length<9223372036854775808):cP T 67 [.str s,O9 l] (.int .i64 (fresh s l)):=by
 refine aQ (af:=a67) rfl (by simp[a67]) dd ?_;try simp only[↓QA,QB,seval,a67]
 (refine aC (aA1 l s hl) rfl dd ?_;try simp only[↓QA,QB,seval])
 refine aE (fun h=>?_) fun h=>?_
 ·have hin:kR s l≠l.length:=by
   intro e;simp[DR,e] at h
  try simp only[↓QA,QB,seval]
  (refine aC (RJ s hs) rfl dd ?_;try simp only[↓QA,QB,seval])
  cases hn:pP s;all_goals
   try simp only[↓QA,QB,seval]
   simp[fresh,hn,hin]
 ·have hin:kR s l=l.length:=by
   simp only[DR] at h;split at h
   ·assumption
   ·simp at h
  try simp only[↓QA,QB,seval]
  (refine aC (RJ s hs) rfl dd ?_;try simp only[↓QA,QB,seval])
  cases hn:pP s;all_goals
   try simp only[↓QA,QB,seval]
   simp[fresh,hn,hin]
def aR(a:Int):Nat->List Int
 |0=>[]
 |n+1=>a::aR (a+1) n
theorem jF:∀ n a,(aR a n).length=n
 |0,_=>rfl
 |n+1,a=>by simp[aR,jF n]
theorem cL:∀ n a x,x∈aR a n↔a<=x/\x<a+n
 |0,a,x=>by simp[aR]
 |n+1,a,x=>by simp[aR,cL n];omega
def least(i:Nat)(c:List Int):Int:=if 0<i then (c[i-1]?).getD 0+1 else 0
def Q1(below i:Nat)(c:List Int):List (List Int):=(aR (least i c) ((below:Int)-least i c).toNat).map fun n=>c++[n]
def eJ(below:Nat):Nat->List (List Int)
 |0=>[[]]
 |i+1=>(eJ below i).flatMap (Q1 below i)
theorem oJ(below:Nat):∀ i c,c∈eJ below i->c.length=i/\∀ x∈c,0<=x/\x<below
 |0,c,h=>by simp[eJ] at h;subst h;simp
 |i+1,c,h=>by
  simp only[eJ,List.mem_flatMap] at h;obtain⟨d,h1,h2⟩:=h;obtain⟨q1,q2⟩:=oJ below i d h1;simp only[Q1,List.mem_map,cL] at h2;obtain⟨n,h3,rfl⟩:=h2;refine⟨by simp[q1],fun x hx=>?_⟩;rcases List.mem_append.1 hx with hx|hx
  ·exact q2 x hx
  ·simp at hx;subst hx;have:0<=least i d:=by
    unfold least;split
    ·rename_i hi;have hlt:i-1<d.length:=by omega
     have:=q2 d[i-1] (List.getElem_mem hlt);simp[hlt];omega
    ·omega
   omega
theorem B2{α β:Type}(f:α->List β)(b:Nat):∀ l:List α,(∀ x∈l,(f x).length<=b)->(l.flatMap f).length<=l.length*b
 |[],_=>by simp
 |x::l,h=>by
  have h1:=h x (by simp);have h2:=B2 f b l fun y hy=>h y (List.mem_cons_of_mem _ hy)
  simp only[List.flatMap_cons,List.length_append,List.length_cons,Nat.add_mul];omega
theorem nA(l:List (List Int)):aI 1 (l.map ints)=true:=mJ 1 ints l fun x=>aHO _ _ _
theorem kQ(l:List Int):aI 1 (l.map (.int .i64))=true:=mJ 1 _ l fun x=>WT _ _
theorem sY{a:Int}{below:Nat}(h:a<below):aR a ((below:Int)-a).toNat=a::aR (a+1) ((below:Int)-(a+1)).toNat:=by
 rw[show ((below:Int)-a).toNat=((below:Int)-(a+1)).toNat+1 by omega];rfl
theorem sH{a:Int}{below:Nat}(h:¬a<below):aR a ((below:Int)-a).toNat=[]:=by
 rw[show ((below:Int)-a).toNat=0 by omega];rfl
theorem w5:∀ {a b c:List Int},less a b=true->less b c=true->less a c=true
 |a,b,[],h1,h2=>by cases b<;>simp[less] at h2
 |a,[],c::cs,h1,h2=>by cases a<;>simp[less] at h1
 |[],b::bs,c::cs,h1,h2=>by simp[less]
 |a::az,b::bs,c::cs,h1,h2=>by
  simp only[less] at *;by_cases hab:a=b
  ·subst hab;by_cases hac:a=c
   ·subst hac;simp only[if_true] at *;exact w5 h1 h2
   ·simp only[hac,if_false,if_true] at *;exact h2
  ·by_cases hbc:b=c
   ·subst hbc;simp only[hab,if_false,if_true,decide_eq_true_eq] at *;exact h1
   ·simp only[hab,hbc,if_false,decide_eq_true_eq] at *;rw[if_neg (by omega)];simp;omega
theorem zG(a:List Int):g7 a a=false:=by simp[g7,rZ]
theorem A3{a b c:List Int}(h1:g7 a b=true)(h2:g7 b c=true):g7 a c=true:=by
 simp only[g7] at *;by_cases e1:a.length=b.length<;>by_cases e2:b.length=c.length
 ·simp only[e1,e2,if_true] at *;exact w5 h1 h2
 ·simp only[e1,e2,if_true,if_false,decide_eq_true_eq] at *;exact h2
 ·rw[if_neg e1] at h1;rw[if_neg (by omega)];simp at h1 ⊢;omega
 ·simp only[e1,e2,if_false,decide_eq_true_eq] at *;rw[if_neg (by omega)];simp;omega
theorem G7{a b:List Int}(h1:g7 a b=false)(h2:g7 b a=false):a=b:=by
 simp only[g7] at *;by_cases e1:a.length=b.length
 ·simp only[e1,if_true] at *;exact CW a b h1 h2
 ·rw[if_neg e1] at h1;rw[if_neg (Ne.symm e1)] at h2;simp at h1 h2;omega
theorem II{a b c:List Int}(h1:g7 b a=false)(h2:g7 c b=false):g7 c a=false:=by
 rw[Bool.eq_false_iff];intro h;by_cases hab:g7 a b=true
 ·rw[A3 h hab] at h2;cases h2
 ·have:=G7 (by simpa using hab) h1;subst this;rw[h] at h2;cases h2
def lst(n s:Nat):List Int:=(aR 0 n).filter fun i=>decide (s/2^i.toNat%2=1)
theorem aKH:∀ n:Fin 7,∀ s:Fin 64,s.val<2^n.val->lst n s∈eJ n (lst n s).length:=by decide +kernel
theorem WM:∀ n m:Fin 7,∀ c∈eJ n m,∃ s:Fin 64,s.val<2^n.val/\lst n s=c:=by decide +kernel
theorem ER:∀ n m:Fin 7,(eJ n m).Pairwise fun a b=>less a b=true:=by decide +kernel
theorem LP:∀ n:Fin 7,(eJ n n).length=1:=by decide +kernel
theorem RN(n s:Nat):(lst n s).length<=n:=by
 have:=List.length_filter_le (fun i:Int=>decide (s/2^i.toNat%2=1)) (aR 0 n);rw[jF] at this;exact this
def eQ(f:List Int->Bool)(n:Nat):Nat->Nat->Option (List Int)
 |0,_=>none
 |k+1,m=>match (eJ n m).find? f with
  |some l=>some l
  |none=>eQ f n k (m+1)
theorem IF:∀ n:Fin 7,∀ c∈eJ n n,∀ j:Fin 7,j.val<n.val->c.contains ((j.val:Nat):Int)=true:=by decide +kernel
def kL(f:List Int->Bool)(o:Option (List Int))(l:List Int):Option (List Int):=match o with
 |none=>if f l=true then some l else none
 |some b=>if g7 b l=true then some b else if f l=true then some l else some b
def oT(f:List Int->Bool)(n:Nat):Nat->Nat->Option (List Int)->Option (List Int)
 |0,_,o=>o
 |k+1,s,o=>oT f n k (s+1) (kL f o (lst n s))
theorem yU(f:List Int->Bool)(n:Nat):∀ k s o,(∀ w,o=some w->f w=true/\∃ t,t<s/\w=lst n t/\∀ t',t'<s->f (lst n t')=true->g7 (lst n t') w=false)->(o=none->∀ t,t<s->f (lst n t)=false) ->
  (∀ w,oT f n k s o=some w->f w=true/\∃ t,t<s+k/\w=lst n t/\∀ t',t'<s+k->f (lst n t')=true->g7 (lst n t') w=false)/\(oT f n k s o=none->∀ t,t<s+k->f (lst n t)=false)
 |0,s,o,h1,h2=>⟨h1,h2⟩
 |k+1,s,o,h1,h2=>by
  have ih:=yU f n k (s+1) (kL f o (lst n s));rw[show s+1+k=s+(k+1) by omega] at ih;simp only[oT];have last:∀ (w:List Int) t',t'<s+1->(∀ t'',t''<s->f (lst n t'')=true->g7 (lst n t'') w=false)->(f (lst n s)=true->g7 (lst n s) w=false)->f (lst n t')=true->g7 (lst n t') w=false:=by
   intro w t' ht h3 h4 hs;by_cases he:t'=s
   ·subst he;exact h4 hs
   ·exact h3 t' (by omega) hs
  refine ih (fun w hw=>?_) fun hn t ht=>?_
  ·cases o with
   |none =>
    simp only[kL] at hw;split at hw
    ·rename_i hs;simp only[Option.some.injEq] at hw;subst hw;refine⟨hs,s,by omega,rfl,fun t' ht hst=>last _ t' ht (fun t'' h4 h5=>by rw[h2 rfl t'' h4] at h5;cases h5) (fun _=>zG _) hst⟩
    ·cases hw
   |some b =>
    obtain⟨q1,t,q2,q3,q4⟩:=h1 b rfl;simp only[kL] at hw;split at hw
    ·rename_i hf;simp only[Option.some.injEq] at hw;subst hw;refine⟨q1,t,by omega,q3,fun t' ht hst=>last _ t' ht q4 (fun _=>?_) hst⟩;rw[Bool.eq_false_iff];intro h5;have:=A3 hf h5;rw[zG] at this;cases this
    ·rename_i hf;split at hw
     ·rename_i hs;simp only[Option.some.injEq] at hw;subst hw;refine⟨hs,s,by omega,rfl,fun t' ht hst=>last _ t' ht (fun t'' h4 h5=>?_) (fun _=>zG _) hst⟩;exact II (by simpa using hf) (q4 t'' h4 h5)
     ·rename_i hs;simp only[Option.some.injEq] at hw;subst hw;exact⟨q1,t,by omega,q3,fun t' ht hst=>last _ t' ht q4 (fun h5=>absurd h5 hs) hst⟩
  ·cases o with
   |none =>
    simp only[kL] at hn;split at hn
    ·cases hn
    ·rename_i hs;by_cases he:t=s
     ·subst he;simpa using hs
     ·exact h2 rfl t (by omega)
   |some b =>
    simp only[kL] at hn;split at hn
    ·cases hn
    ·split at hn<;>cases hn
theorem w4:∀ {n i:Nat} {c:List Int},c∈eJ n i->i<=n:=by
 intro n i;cases i with
 |zero=>intros;omega
 |succ i =>
  intro c hc;simp only[eJ,List.mem_flatMap,Q1,List.mem_map,cL] at hc;obtain⟨d,hd,x,hx,rfl⟩:=hc;have key:∀ j (d:List Int),d∈eJ n j->(j:Int)<=least j d:=by
   intro j
   induction j with
   |zero=>intro d _;simp[least]
   |succ j ih =>
    intro d hd;simp only[eJ,List.mem_flatMap,Q1,List.mem_map,cL] at hd;obtain⟨d',hd',y,hy,rfl⟩:=hd;have h5:=ih d' hd';have h6:=(oJ n j d' hd').1;simp only[least,Nat.succ_pos,if_true,Nat.add_sub_cancel];rw[List.getElem?_append_right (by omega),h6,Nat.sub_self];simp only[List.getElem?_cons_zero,Option.getD_some];omega
  have:=key i d hd;omega
theorem uV(f:List Int->Bool)(n:Nat)(hN:n<=6):∀ k m,(∀ m',m'<m->∀ c∈eJ n m',f c=false) ->
  (∀ l,eQ f n k m=some l->l∈eJ n l.length/\f l=true/\∀ m',∀ c∈eJ n m',f c=true->g7 c l=false)/\(eQ f n k m=none->∀ m',m'<m+k->∀ c∈eJ n m',f c=false)
 |0,m,hlow=>⟨fun l h=>by simp[eQ] at h,fun _ m' h c hc=>hlow m' (by omega) c hc⟩
 |k+1,m,hlow=>by
  simp only[eQ];cases hf:(eJ n m).find? f with
  |none =>
   simp only;have ih:=uV f n hN k (m+1) fun m' hm' c hc=>by
    by_cases he:m'=m
    ·subst he;rw[List.find?_eq_none] at hf;simpa using hf c hc
    ·exact hlow m' (by omega) c hc
   exact⟨ih.1,fun h m' hm'=>ih.2 h m' (by omega)⟩
  |some l =>
   simp only;refine⟨fun l' h=>?_,fun h=>by cases h⟩;cases h;have hmem:=List.mem_of_find?_eq_some hf;have hs:=List.find?_some hf;have hlen:=(oJ _ _ _ hmem).1;rw[hlen];refine⟨hmem,hs,fun m' c hc hsc=>?_⟩;have hcl:=(oJ _ _ _ hc).1;by_cases h1:m'<m
   ·rw[hlow m' h1 c hc] at hsc;cases hsc
   ·by_cases he:m'=m
    ·subst he;rw[Bool.eq_false_iff];intro hlt;simp only[g7,hcl,hlen,if_true] at hlt;obtain⟨pre,post,e1,e2⟩:=(List.find?_eq_some_iff_append.1 hf).2;have hmn:=w4 hmem;have hpw:=ER ⟨n,by omega⟩ ⟨m',by omega⟩;simp only at hpw;rw[e1] at hc hpw;rcases List.mem_append.1 hc with hc|hc
     ·have:=e2 c hc;rw[hsc] at this;cases this
     ·rcases List.mem_cons.1 hc with rfl|hc
      ·rw[rZ] at hlt;cases hlt
      ·have:=(List.pairwise_append.1 hpw).2.1;have:=(List.pairwise_cons.1 this).1 c hc;have h3:=w5 hlt this;rw[rZ] at h3;cases h3
    ·simp only[g7];rw[if_neg (by omega)];simp;omega
theorem aJU(f:List Int->Bool)(n:Nat)(hN:n<=6):oT f n (2^n) 0 none=eQ f n (n+1) 0:=by
 have hp:2^n<=2^6:=Nat.pow_le_pow_right (by omega) hN;obtain⟨w1,w2⟩:=uV f n hN (n+1) 0 (fun m' h=>by omega);obtain⟨s1,s2⟩:=yU f n (2^n) 0 none (fun w h=>by cases h) (fun _ t h=>by omega);rw[Nat.zero_add] at s1 s2;cases hf:oT f n (2^n) 0 none with
 |none =>
  cases hg:eQ f n (n+1) 0 with
  |none=>rfl
  |some l =>
   obtain⟨a,b,c⟩:=w1 l hg;have hle:=w4 a;obtain⟨t,ht,hlt⟩:=WM ⟨n,by omega⟩ ⟨l.length,by omega⟩ l a;have:=s2 hf t.val ht;rw[show lst n t.val=l from hlt,b] at this;cases this
 |some w =>
  obtain⟨q1,t',q2,q3,q4⟩:=s1 w hf;have hin:=aKH ⟨n,by omega⟩ ⟨t',by omega⟩ q2;simp only at hin;rw[<-q3] at hin;have hle:w.length<=n:=by rw[q3];exact RN _ _
  cases hg:eQ f n (n+1) 0 with
  |none =>
   have:=w2 hg w.length (by omega) w hin;rw[q1] at this;cases this
  |some l =>
   obtain⟨a,b,c⟩:=w1 l hg;have hll:=w4 a;obtain⟨t,ht,hlt⟩:=WM ⟨n,by omega⟩ ⟨l.length,by omega⟩ l a;have a1:=q4 t.val ht (by rw[show lst n t.val=l from hlt];exact b);rw[show lst n t.val=l from hlt] at a1;have a2:=c w.length w hin q1;rw[G7 a1 a2]
open Go
variable {P:Program}
def lT(P:Program)(t:TypeId)(ts:List TypeId):Prop:=∃ fs,P.underlying t=some (.struct fs)/\fs.toList.map Field.type=ts
theorem xI{n:Nat}{t:TypeId}{ts:List TypeId}{cs:List AV}(hu:lT P t ts)(h:Typ P (n+1) t cs):mkV P t cs = .agg cs/\Q8 P n ts cs:=by
 obtain⟨fs,h1,h2⟩:=hu;have:=NC h1 h;rw[h2] at this;exact⟨M0 h1,this⟩
theorem NQ{t:TypeId}{a:AV}{d:TypeDesc}(hu:P.underlying t=some d)(hd:∀ fs,d≠.struct fs:=by intro fs h;cases h)(hd2:∀ k e,d≠.array k e:=by intro k e h;cases h):mkV P t [a]=a:=aGC (by rw[hu];intro fs e;cases e;exact hd _ rfl) (by rw[hu];intro k e h;cases h;exact hd2 _ _ rfl)
theorem IY{n:Nat}{i t:TypeId}{cs:List AV}(hi:P.underlying i=some (.int .i64))(hs:lT P t [i,i])(h:Typ P (n+2) t cs):∃ s:Span,cs=[.int .i64 s.lo,.int .i64 s.hi]:=by
 obtain⟨_,a,b,rfl,h1,c,d,rfl,h2,rfl⟩:=xI hs h;obtain⟨x,rfl,_⟩:=iH hi h1;obtain⟨y,rfl,_⟩:=iH hi h2;exact⟨⟨x,y⟩,rfl⟩
theorem aJB{n:Nat}{t:TypeId}{cs:List AV}(hi:P.underlying t=some (.int .i64))(h:Typ P (n+1) t cs):∃ x:Int,mkV P t cs = .int .i64 x/\True:=by
 obtain⟨x,rfl,_⟩:=iH hi h;exact⟨x,NQ hi,trivial⟩
theorem aDU{n:Nat}{t i:TypeId}{cs:List AV}(hi:P.underlying i=some (.int .i64))(hs:P.underlying t=some (.slice i))(h:Typ P (n+2) t cs):∃ l:List Int,mkV P t cs=Go.Am.ints l/\cs=[Go.Am.ints l]/\l.length<9223372036854775808:=by
 obtain⟨l,rfl,⟨h1,_⟩,_⟩:=rX (f:=fun x:Int=>AV.int .i64 x) hs h fun y hy=>aJB hi hy
 exact⟨l,NQ hs,rfl,h1⟩
end Go.Am.Room
namespace Go.Am.Room
def bC{α:Type}(f:Nat->α->Int):List α->Nat->Option (Nat×Int)
 |[],_=>none
 |x::xs,i=>if f i x=0 then bC f xs (i+1) else some (i,f i x)
theorem iM{α:Type}{f:Nat->α->Int}{l:List α}{k:Nat}(h:k<l.length):bC f (l.drop k) k=if f k l[k]=0 then bC f (l.drop (k+1)) (k+1) else some (k,f k l[k]):=by
 rw[List.drop_eq_getElem_cons h];rfl
theorem jK{α:Type}{f:Nat->α->Int}{l:List α}{k:Nat}(h:k=l.length):bC f (l.drop k) k=none:=by
 rw[h,List.drop_length];rfl
theorem wM{α:Type}{f:Nat->α->Int}:∀ {l:List α} {k:Nat},bC f l k=none->∀ i (h:i<l.length),f (k+i) l[i]=0
 |[],_,_,i,h=>by simp at h
 |x::xs,k,hn,i,h=>by
  simp only[bC] at hn;split at hn
  ·rename_i h0;cases i with
   |zero=>simpa using h0
   |succ j=>have:=wM hn j (by simpa using h);simpa[Nat.add_assoc,Nat.add_comm 1 j] using this
  ·simp at hn
def iD:List Int->Span
 |[]=>⟨0,0⟩
 |x::xs=>xs.foldl mW ⟨x,x⟩
def fA(yes all:Nat):Int:=if yes=all then 1 else if yes=0 then 2 else 0
theorem cQ{n lo hi:Int}:inR n lo hi=true↔lo<=n/\n<=hi:=by simp[inR]
theorem vQ{s:Span}{lo hi:Int}(h:kG s lo hi=0):lo<=s.lo/\s.lo<=s.hi/\s.hi<=hi:=by
 unfold kG at h;split at h
 ·omega
 ·rename_i h1;split at h
  ·omega
  ·simp[inR] at h1;omega
theorem aFO{s:Span}{lo hi:Int}(h:lo<=s.lo/\s.lo<=s.hi/\s.hi<=hi):kG s lo hi=0:=by
 unfold kG;rw[cQ.2 ⟨h.1,by omega⟩,cQ.2 ⟨by omega,h.2.2⟩];simp;omega
theorem mM{α:Type}{f:Nat->α->Int}:∀ {l:List α} {i:Nat},bC f l i=none->∀ k (h:k<l.length),f (i+k) l[k]=0
 |[],_,_,k,h=>by simp at h
 |x::xs,i,h,k,hk=>by
  simp only[bC] at h;split at h
  ·rename_i h0;cases k with
   |zero=>exact h0
   |succ k =>
    have:=mM h k (by simpa using hk);simpa[Nat.add_assoc,Nat.add_comm 1 k] using this
  ·cases h
theorem jH{α:Type}{f:Nat->α->Int}:∀ {l:List α} {i j:Nat} {e:Int},bC f l i=some (j,e)->e≠0
 |[],_,_,_,h=>by cases h
 |x::xs,i,j,e,h=>by
  simp only[bC] at h;split at h
  ·exact jH h
  ·rename_i hn;simp at h;rw[<-h.2];exact hn
theorem yT:∀ (n:Nat) (a:Int),aR a (n+1)=aR a n++[a+n]
 |0,a=>by simp[aR]
 |n+1,a=>by
  rw[aR,yT n (a+1)];simp only[aR,List.cons_append]
  congr 3
  omega
end Go.Am.Room
namespace Go.Am.Room.Tr
structure Rail where
 a:Int
 b:Int
 mins:Span
 shut:Int
structure Tram where
 name:ByteArray
 frm:Int
 leaves:Int
 due:Int
 path:List Int
structure Seen where
 tram:Int
 minute:Int
structure Net where
 stations:Int
 rails:List Rail
 trams:List Tram
 seen:List Seen
def encRail(r:Rail):AV:=.agg [.int .i64 r.a,.int .i64 r.b,.int .i64 r.mins.lo,.int .i64 r.mins.hi,.int .i64 r.shut]
theorem encRail_eq(r:Rail):encRail r = .agg [.int .i64 r.a,.int .i64 r.b,.int .i64 r.mins.lo,.int .i64 r.mins.hi,.int .i64 r.shut]:=by simp only[encRail]
theorem data_rail(r:Rail):kZ (encRail r):=gS (aL (aY _ _) (aL (aY _ _) (aL (aY _ _) (aL (aY _ _) (aL (aY _ _) aZ)))))
instance (r:Rail):Dat (encRail r):=⟨data_rail r⟩
instance (l:List Rail):Dats (l.map encRail):=⟨bD data_rail l⟩
theorem S_mapRail(σ:St)(m d:Nat)(l:List Rail):cB σ m d (l.map encRail)=some (l.map encRail):=gJ (bD data_rail l) σ m d
def encTram(t:Tram):AV:=.agg [.str t.name,.int .i64 t.frm,.int .i64 t.leaves,.int .i64 t.due,ints t.path]
theorem encTram_eq(t:Tram):encTram t = .agg [.str t.name,.int .i64 t.frm,.int .i64 t.leaves,.int .i64 t.due,ints t.path]:=by simp only[encTram]
theorem data_tram(t:Tram):kZ (encTram t):=gS (aL (uL _) (aL (aY _ _) (aL (aY _ _) (aL (aY _ _) (aL (lK _) aZ)))))
instance (t:Tram):Dat (encTram t):=⟨data_tram t⟩
instance (l:List Tram):Dats (l.map encTram):=⟨bD data_tram l⟩
theorem S_mapTram(σ:St)(m d:Nat)(l:List Tram):cB σ m d (l.map encTram)=some (l.map encTram):=gJ (bD data_tram l) σ m d
def encSeen(x:Seen):AV:=.agg [.int .i64 x.tram,.int .i64 x.minute]
theorem encSeen_eq(x:Seen):encSeen x = .agg [.int .i64 x.tram,.int .i64 x.minute]:=by simp only[encSeen]
theorem data_seen(x:Seen):kZ (encSeen x):=gS (aL (aY _ _) (aL (aY _ _) aZ))
instance (x:Seen):Dat (encSeen x):=⟨data_seen x⟩
instance (l:List Seen):Dats (l.map encSeen):=⟨bD data_seen l⟩
theorem S_mapSeen(σ:St)(m d:Nat)(l:List Seen):cB σ m d (l.map encSeen)=some (l.map encSeen):=gJ (bD data_seen l) σ m d
def netCells(v:Net):List AV:=[.int .i64 v.stations,.lit (v.rails.map encRail) false none,.lit (v.trams.map encTram) false none,.lit (v.seen.map encSeen) false none]
theorem netCells_eq(v:Net):netCells v=[.int .i64 v.stations,.lit (v.rails.map encRail) false none,.lit (v.trams.map encTram) false none,.lit (v.seen.map encSeen) false none]:=by simp only[netCells]
def encNet(v:Net):AV:=.agg (netCells v)
theorem encNet_eq(v:Net):encNet v = .agg (netCells v):=by simp only[encNet]
theorem CY(v:Net):kZ (encNet v):=gS (aL (aY _ _) (aL (gK data_rail _) (aL (gK data_tram _) (aL (gK data_seen _) aZ))))
instance (v:Net):Dat (encNet v):=⟨CY v⟩
structure Fits (v:Net):Prop where
 rails:v.rails.length<9223372036854775808
 trams:v.trams.length<9223372036854775808
 seen:v.seen.length<9223372036854775808
 names:∀ t∈v.trams,t.name.size<9223372036854775808
 paths:∀ t∈v.trams,t.path.length<9223372036854775808
def nS(v:Net)(s:Int):Bool:=inR s 0 (v.stations-1)
def cZ(v:Net)(r:Rail):Int :=
 if nS v r.a=false\/nS v r.b=false then 4 else if r.a=r.b then 2
 else if kG r.mins 1 20=7\/inR r.shut 0 2=false then 7 else if kG r.mins 1 20≠0\/r.mins.lo+1<r.mins.hi then 2 else 0
def dB(r:Rail)(s:Int):Int:=if s=r.a then r.b else if s=r.b then r.a else -1
def eD(v:Net)(r:Int):Rail:=(v.rails[r.toNat]?).getD ⟨0,0,⟨0,0⟩,0⟩
def k9(v:Net):List Int->Int->List Int->Bool
 |[],s,_=>s==0
 |r::l,s,met =>
  if dB (eD v r) s<0\/met.contains (dB (eD v r) s)=true\/(dB (eD v r) s=0/\l≠[]) then false
  else k9 v l (dB (eD v r) s) (met++[dB (eD v r) s])
def iT(v:Net)(s:Int)(path:List Int):Bool:=if inR path.length 1 4=false\/s=0 then false else k9 v path s [s]
def gT(v:Net)(t:Tram):Int :=
 if nS v t.frm=false then 4 else if inR t.leaves 0 60=false\/inR t.due 0 400=false then 7
 else if inR t.path.length 1 4=false then 3 else if t.path.all (fun r=>inR r 0 ((v.rails.length:Int)-1))=false then 4
 else if iT v t.frm t.path=false then 2 else 0
def kN(v:Net)(i:Nat)(t:Tram):Int:=if fresh t.name ((v.trams.take i).map Tram.name)=0 then gT v t else fresh t.name ((v.trams.take i).map Tram.name)
def lA(v:Net)(_:Nat)(x:Seen):Int:=if inR x.tram 0 ((v.trams.length:Int)-1)=false then 4 else if inR x.minute (-1) 400=false then 7 else 0
def qY(v:Net):Int×Int×Int:=if 3<v.seen.length then (4,0,3) else match bC (lA v) v.seen 0 with|some (i,e)=>(4,i,e)|none=>(0,0,0)
def qZ(v:Net):Int×Int×Int:=if 3<v.trams.length then (3,0,3) else match bC (kN v) v.trams 0 with|some (i,e)=>(3,i,e)|none=>qY v
def jV(v:Net):Int×Int×Int:=if 5<v.rails.length then (2,0,3) else match bC (fun _ r=>cZ v r) v.rails 0 with|some (i,e)=>(2,i,e)|none=>qZ v
def check(v:Net):Int×Int×Int:=if inR v.stations 2 5=false then (1,0,7) else jV v
def PR(v:Net)(but l:List Int)(r:Int):Bool:=!decide ((eD v r).shut=1)&&!but.contains r&&!l.contains r
def D5(v:Net)(but l:List Int):List (List Int):=((aR 0 v.rails.length).filter (PR v but l)).map fun r=>l++[r]
def g9(v:Net)(but:List Int):Nat->List (List Int)
 |0=>[[]]
 |k+1=>(g9 v but k).flatMap (D5 v but)
def iP(v:Net)(s:Int)(but:List Int):Nat->List (List Int)
 |0=>[]
 |k+1=>iP v s but k++(g9 v but (k+1)).filter (iT v s)
def eC(v:Net)(s:Int)(but:List Int):List (List Int):=iP v s but 4
def qU(v:Net)(s:Int):List (List Int)×Int:=if (check v).2.2=0 then (if nS v s=true then (eC v s [],0) else ([],4)) else ([],(check v).2.2)
structure State where
 closed:List Bool
 mins:List Int
def D4(s:Span):List Int:=aR s.lo (s.hi+1-s.lo).toNat
def wB(shut:Int)(c:Bool):Bool:=!(c&&decide (shut=0)||!c&&decide (shut=1))
def BZ(r:Rail)(s:State):List State:=(D4 r.mins).flatMap fun m=>([false,true].filter (wB r.shut)).map fun c=>⟨s.closed++[c],s.mins++[m]⟩
def oW(rs:List Rail):Nat->List State
 |0=>[⟨[],[]⟩]
 |k+1=>match rs[k]? with|some r=>(oW rs k).flatMap (BZ r)|none=>oW rs k
def k6(v:Net):List State:=oW v.rails v.rails.length
def eff(s:State)(r:Int):Int:=if (s.closed[r.toNat]?).getD false=true then 0 else (s.mins[r.toNat]?).getD 0
structure Stay where
 tram:Int
 rail:Int
 frm:Int
 til:Int
def jG(rail ready m:Int)(x:Stay):Bool:=decide (x.rail=rail)&&decide (x.frm<ready+m)&&decide (ready<x.til)
def wP(ss:List Stay)(rail m:Int):Nat->Int->Int
 |0,s=>s
 |k+1,s=>if ss.any (jG rail s m)=true then wP ss rail m k (s+1) else s
def kS(ss:List Stay)(rail ready m:Int):Int:=wP ss rail m 1000 ready
def nX(m:Int->Int)(i:Int):List Int->Int->List Stay->List Stay×Int
 |[],at_,ss=>(ss,at_)
 |r::l,at_,ss=>nX m i l (kS ss r at_ (m r)+m r) (ss++[⟨i,r,kS ss r at_ (m r),kS ss r at_ (m r)+m r⟩])
def nU(m:Int->Int)(i:Int)(leaves:Int)(path:List Int)(ss:List Stay):List Stay×Int :=
 if path.any (fun r=>m r==0)=true then (ss,-1) else nX m i path leaves ss
def pI(v:Net)(i:Nat):Int:=match v.trams[i]? with|some t=>t.leaves|none=>0
def eX(ps:List (List Int))(i:Nat):List Int:=(ps[i]?).getD []
def eR(v:Net)(m:Int->Int)(ps:List (List Int)):Nat->List Stay×List Int
 |0=>([],[])
 |k+1=>((nU m k (pI v k) (eX ps k) (eR v m ps k).1).1,(eR v m ps k).2++[(nU m k (pI v k) (eX ps k) (eR v m ps k).1).2])
def lB(v:Net)(ps:List (List Int))(m:Int->Int):List Int:=(eR v m ps v.trams.length).2
def kY(v:Net):List (List Int):=v.trams.map Tram.path
def comesOf(v:Net)(s:State):List Int:=lB v (kY v) (eff s)
def comeAt(cs:List Int)(t:Int):Int:=(cs[t.toNat]?).getD 0
def lS(v:Net)(but cs:List Int):Bool:=(List.range v.seen.length).all fun k=>match v.seen[k]? with|some x=>but.contains (k:Int)||comeAt cs x.tram==x.minute|none=>true
def truths(v:Net)(but:List Int):List State:=(k6 v).filter fun s=>lS v but (comesOf v s)
def wK(v:Net)(but:List Int):Bool:=!(truths v but).isEmpty
def jP(v:Net)(e:Int):Int:=if e=0 then (if (truths v []).isEmpty then 8 else 0) else e
def gN(v:Net):Int:=jP v (check v).2.2
def mK(v:Net)(t:Int):Int:=jP v (if (check v).2.2=0 then (if inR t 0 ((v.trams.length:Int)-1) then 0 else 4) else (check v).2.2)
def atsIn(v:Net)(l:List State)(t:Nat):List Int:=l.map fun s=>comeAt (comesOf v s) t
def eM(ats:List Int):List Int:=ats.filter fun c=>!decide (c = -1)
def comesS(ats:List Int):Span×Int:=(iD (eM ats),fA (eM ats).length ats.length)
def comesR(v:Net)(t:Int):Span×Int×Int:=if mK v t=0 then ((comesS (atsIn v (truths v []) t.toNat)).1,(comesS (atsIn v (truths v []) t.toNat)).2,0) else (⟨0,0⟩,0,mK v t)
def BG(v:Net)(t:Nat):Int:=match v.trams[t]? with|some x=>x.due|none=>0
def mH(v:Net)(t:Nat)(c:Int):Bool:=!decide (c = -1)&&decide (c<=BG v t)
def IH(v:Net)(t:Int)(s:State):Bool:=!mH v t.toNat (comeAt (comesOf v s) t)
def MH(v:Net)(l:List State)(t:Int):Bool:=l.all (IH v t)
def HL(v:Net)(l:List State)(t:Int):Bool:=l.any (IH v t)
def ZO(v:Net)(l:List State):List Int:=(aR 0 v.trams.length).filter (MH v l)
def J4(v:Net)(l:List State):List Int:=(aR 0 v.trams.length).filter (HL v l)
def m5(v:Net):List Int×List Int×Int:=if gN v=0 then (ZO v (truths v []),J4 v (truths v []),0) else ([],[],gN v)
def k8(v:Net):List Int->Int->Int
 |[],b=>b
 |t::l,b=>k8 v l (if b<0\/BG v t.toNat<BG v b.toNat then t else b)
def oQ(v:Net):Int×Int:=if gN v=0 then (if J4 v (truths v [])=[] then (0,9) else (k8 v (J4 v (truths v [])) (-1),0)) else (0,gN v)
def aCT(v:Net)(ps:List (List Int))(s:State):Bool:=(List.range v.trams.length).all fun t=>mH v t (comeAt (lB v ps (eff s)) t)
def aAX(v:Net)(l:List State)(ps:List (List Int)):Bool:=l.all (aCT v ps)
def oS(v:Net)(ps:List (List Int)):List Int:=(aR 0 ps.length).filter fun t=>!decide (eX ps t.toNat=eX (kY v) t.toNat)
def g0(v:Net)(t:Nat):Int:=match v.trams[t]? with|some x=>x.frm|none=>0
def oO(v:Net):Nat->List (List (List Int))
 |0=>[[]]
 |k+1=>(oO v k).flatMap fun p=>(eC v (g0 v k) []).map fun w=>p++[w]
def yJ(v:Net):List (List (List Int)):=oO v v.trams.length
def MV(v:Net)(l:List State)(many:Nat)(p:List (List Int)):Bool:=(oS v p).length==many&&aAX v l p
def xQ(v:Net)(l:List State):Nat->Nat->Option (List (List Int))
 |0,_=>none
 |k+1,m=>match (yJ v).find? (MV v l m) with|some p=>some p|none=>xQ v l k (m+1)
def uQ(v:Net)(l:List State):Option (List (List Int)):=xQ v l (v.trams.length+1) 0
def sW(v:Net):List (List Int)×List Int×Int:=if gN v=0 then (match uQ v (truths v []) with|some p=>(p,oS v p,0)|none=>([],[],9)) else ([],[],gN v)
def yX(r:Int)(s:State):Bool:=(s.closed[r.toNat]?).getD false
def YO(v:Net)(l:List State):List Int:=(aR 0 v.rails.length).filter fun r=>l.all (yX r)
def aK6(v:Net)(l:List State):List Int:=(aR 0 v.rails.length).filter fun r=>l.any (yX r)
def zS(v:Net):List Int×List Int×Int:=if gN v=0 then (YO v (truths v []),aK6 v (truths v []),0) else ([],[],gN v)
def EO(v:Net)(r:Int):Int:=(((List.range v.trams.length).filter fun t=>(eC v (g0 v t) [r]).isEmpty).length:Int)
def tX(v:Net):List Int->Int×Int->Int×Int
 |[],b=>b
 |r::l,b=>tX v l (if (eD v r).shut=1 then b else if b.1<0\/b.2<EO v r then (r,EO v r) else b)
def xT(v:Net):Int×Int:=tX v (aR 0 v.rails.length) (-1,0)
def vY(v:Net):Int×Int×Int:=if (check v).2.2=0 then (if (xT v).1<0 then (0,0,9) else ((xT v).1,(xT v).2,0)) else (0,0,(check v).2.2)
def DS(v:Net):List Int:=(eQ (wK v) v.seen.length v.seen.length 0).getD (((eJ v.seen.length v.seen.length)[0]?).getD [])
def CB(v:Net):List Int×Int:=if (check v).2.2=0 then (DS v,0) else ([],(check v).2.2)
def ZS:ByteArray:=⟨#[114,101,100]⟩
def N0:ByteArray:=⟨#[98,108,117,101]⟩
def exN(o:Bool)(l:List Seen):Net:=⟨4,[⟨1,0,⟨5,6⟩,if o then 2 else 0⟩,⟨2,1,⟨4,4⟩,0⟩,⟨2,0,⟨12,12⟩,if o then 0 else 2⟩,⟨3,2,⟨3,3⟩,0⟩],[⟨ZS,2,0,12,[1,0]⟩,⟨N0,3,0,24,[3,1,0]⟩],l⟩
def exH:Net:=exN false []
def exK:Net:=exN true []
def exS:Net:=exN true [⟨0,-1⟩,⟨1,15⟩]
def exT:Net:=exN true [⟨0,-1⟩]
theorem x1:qU exH 3=([[3,2],[3,1,0]],0):=by decide +kernel
theorem x2:comesR exH 1=(⟨14,16⟩,1,0):=by decide +kernel
theorem x3:(comesR exK 1).2=(0,0):=by decide +kernel
theorem x4:(comesR exT 0).2=(2,0):=by decide +kernel
theorem x5:m5 exK=([],[0,1],0):=by decide +kernel
theorem x6:oQ exK=(0,0):=by decide +kernel
theorem x7:oQ exH=(0,9):=by decide +kernel
theorem x8:sW exK=([[2],[3,2]],[0,1],0):=by decide +kernel
theorem x9:zS exH=([],[2],0):=by decide +kernel
theorem x10:vY exH=(3,1,0):=by decide +kernel
theorem x11:CB exS=([1],0):=by decide +kernel
theorem x12:oQ exS=(0,8):=by decide +kernel
end Go.Am.Room.Tr
namespace Go.Am.Room
def tT(sz:Nat)(σ:St)(xs:List AV):AV×St:=if xs.length=0 then (.lit [] true none,σ) else (.lit xs false (some σ.length),σ++[.tok sz xs.length true])
theorem IU{sz b:Nat}{σ:St}{xs:List AV}{f:Bool}{tk:Option Nat}(h:MJ sz b [] xs):dH sz b σ (.lit [] true none) (.lit xs f tk)=some ((tT sz σ xs).1,(tT sz σ xs).2):=by
 by_cases h0:xs.length=0
 ·have:xs=[]:=List.length_eq_zero_iff.1 h0;subst this;rw[aE4];simp[tT]
 ·rw[LJ h h0];simp[tT,h0]
theorem AG{sz b:Nat}{σ:St}{xs ys:List AV}{f:Bool}{tk:Option Nat}(h:MJ sz b xs ys)(hy:ys.length≠0):dH sz b (tT sz σ xs).2 (tT sz σ xs).1 (.lit ys f tk)=some (.lit (xs++ys) false (some σ.length),σ++[.tok sz (xs.length+ys.length) true]):=by
 by_cases h0:xs.length=0
 ·have:xs=[]:=List.length_eq_zero_iff.1 h0;subst this;simp only[tT,List.length_nil,if_true];rw[LJ h hy];simp
 ·simp only[tT,h0,if_false];rw[vF (ex:=true) h hy (by simp)];simp
theorem jU{σ:St}{sz b:Nat}{xs ys:List AV}{ex f:Bool}{t:Nat}{tk:Option Nat}(h:MJ sz b xs ys)(h0:ys.length≠0)(n:Nat)(hn:n=xs.length)(ht:σ[t]? = some (.tok sz n ex)):
  dH sz b σ (.lit xs false (some t)) (.lit ys f tk)=some (.lit (xs++ys) false (some t),σ.set t (.tok sz (n+ys.length) true)):=by
 subst hn;exact vF h h0 ht
theorem bN(m:Nat):∀ (σ a b c:St),EqS m (σ++a) (σ++b) (σ++c)=EqS m a b c
 |[],a,b,c=>rfl
 |x::σ,a,b,c=>by simp only[List.cons_append,EqS,bN m σ a b c,true_or,true_and,and_self]
theorem aSB(a:Nat)(h:a<9223372036854775808):Go.Am.bits .and .i64 (a:Int) 1=((a%2:Nat):Int):=by
 have e1:(BitVec.ofInt 64 (a:Int) &&& BitVec.ofInt 64 1).toNat=a%2:=by
  rw[BitVec.toNat_and];have h1:(BitVec.ofInt 64 (a:Int)).toNat=a:=by
   rw[BitVec.toNat_ofInt];omega
  have h2:(BitVec.ofInt 64 1).toNat=1:=by decide
  rw[h1,h2,Nat.and_one_is_mod]
 show IntKind.i64.wrap (((BitVec.ofInt 64 (a:Int) &&& BitVec.ofInt 64 1).toNat:Nat):Int)=_
 rw[e1];exact cC ⟨by omega,by omega⟩
theorem O0(a:Nat)(h:a<9223372036854775808):gA .and (.int .i64 (a:Int)) (.int .i64 1)=some (.int .i64 ((a%2:Nat):Int)):=by
 simp[gA,mA,aSB a h]
theorem WJ(a i:Nat)(h:i<=60):gA .shr (.int .i64 (a:Int)) (.int .i64 (i:Int))=some (.int .i64 ((a/2^i:Nat):Int)):=by
 have hm:Nat.min i 64=i:=Nat.min_eq_left (by omega);have h0:¬(i:Int)<0:=by omega
 simp only[gA,h0,if_false,IntKind.bits,Int.toNat_natCast,hm,Option.some.injEq,AV.int.injEq,true_and];rw[Int.fdiv_eq_ediv_of_nonneg _ (Int.pow_nonneg (by omega))];norm_cast
theorem d4(m:Nat)(σ b c:St):EqS m σ (σ++b) (σ++c)=EqS m [] b c:=by have:=bN m σ [] b c;rwa [List.append_nil] at this
def sK(T:FuncId->Option AFunc)(f:AV)(args:List AV)(σ:St)(v:AV)(σ':St):Prop:=Run T (.callv f args σ) fun o=>o.v=v/\o.σ=σ'
theorem aW{f:AV}{args:List AV}{v:AV}{σ σ':St}{K:AV->St->Prop}(h:sK T f args σ v σ')(k:K v σ'):cK (K:=⟨K⟩) T f args σ:=.mono h fun o ho=>by rw[ho.1,ho.2];exact k
theorem fW{f:AV}{args:List AV}{v:AV}{σ σ':St}{K:AV->St->Prop}(h:sK T f args σ v σ')(k:K v σ'):cD (K:=⟨K⟩) T f args σ:=⟨v,σ',h,k⟩
theorem M3(n:Nat):(List.replicate n [AV.int .i64 0]).flatten=List.replicate n (.int .i64 0):=by
 induction n with
 |zero=>rfl
 |succ n ih=>simp[List.replicate_succ,ih]
theorem O1(l:List Int):(l.map (AV.int .i64)).flatMap AV.cells=l.map (.int .i64):=by
 induction l with
 |nil=>rfl
 |cons x l ih=>simp only[List.map_cons,List.flatMap_cons,ih,AV.cells];rfl
theorem vO(z v:AV):Q0 true z (some (some v))=some (.tuple [v,.bool true]):=rfl
theorem vK(z:AV):Q0 true z (some none)=some (.tuple [z,.bool false]):=rfl
theorem QF(k:Nat)(x:ABlk)(hx:aJ k x):∀ (A a b c:St) (i:Nat),EqS k (A++a) (A.set i x++b) (A.set i x++c)=EqS k a b c
 |[],a,b,c,i=>by simp
 |y::A,a,b,c,0=>by
  simp only[List.set_cons_zero,List.cons_append,EqS,bN,hx,or_true,true_and,and_self]
 |y::A,a,b,c,i+1=>by
  have:=QF k x hx A a b c i;simp only[List.set_cons_succ,List.cons_append,EqS,this,true_or,true_and,and_self]
theorem iG(i:Nat):bI 1 (.yield i)=true:=by simp[bI,AV.cells,AV.cell]
theorem iB(i:Nat):(AV.yield i).cells=[.yield i]:=by simp[AV.cells]
theorem DE{f:AOpd}{g:FuncId}{first cap:List AV}{ps:List Nat}{a b:ACode}{e:Env}{σ:St}{K:KJ}{R:Out->Prop}(hf:f.ev e = .func g first cap)(h:Run T (.call g (first++[.yield σ.length]++cap) (σ++[.loop .ready none e ps a b])) R)(h1:∀ o,R o->∃ st pend env' ps' a' b',o.σ[σ.length]? = some (.loop st pend env' ps' a' b')/\st≠.busy/\K pend e (o.σ.set σ.length .dead)):rK (K:=⟨K⟩) T (.rangeFunc f ps a b) e σ:=.rangeFunc hf h h1
theorem uJ{σ:St}{l:List Int}{a:Int}{ex:Bool}{t:Nat}(hn:l.length<100)(ht:σ[t]? = some (.tok 1 l.length ex)):dH 1 8 σ (.lit (l.map (.int .i64)) false (some t)) (.lit [.int .i64 a] true none)=some (.lit ((l++[a]).map (.int .i64)) false (some t),σ.set t (.tok 1 (l.length+1) true)):=by
 rw[vF (ex:=ex) ⟨mJ 1 _ l (fun x=>WT _ _),by simp[aI,AV.cells,AV.cell],by simp[room];omega,by simp[room];omega⟩ (by simp) (by simpa using ht)];simp
theorem KF{vs:List AV}(h:nF vs)(m:Nat):okVs m vs:=okVs_up _ h.1
theorem CG{v:AV}(h:kZ v)(m:Nat):okV m v:=(KF (aL h aZ) m).1
theorem kH{σ:St}{i:Nat}{cs:List AV}(h:aD σ i=some cs):i<σ.length:=by
 unfold aD at h;by_cases hi:i<σ.length
 ·exact hi
 ·rw[List.getElem?_eq_none (by omega)] at h;cases h
theorem lL{σ:St}{i:Nat}{cs:List AV}(h:aD σ i=some cs)(τ:St):aD (σ++τ) i=some cs:=by
 have hl:=kH h;simp only[aD] at h ⊢;rw[List.getElem?_append_left hl];exact h
end Go.Am.Room
namespace Go.Am.Room
structure MemAt {M:Type} (S:M->St) (obj:List AV) (es:M->List (AV×AV)) (p m N:Nat):Prop where
 len:∀ M,(S M).length=N
 at0:∀ M,aD (S M) p=some obj
 map0:∀ M,(S M)[m]? = some (.map (es M))
 mset:∀ M M',(S M).set m (.map (es M'))=S M'
 ok:∀ M k,aJ k (.map (es M))
 pl:p<N
 ml:m<N
namespace MemAt
variable {M:Type} {S:M->St} {obj:List AV} {es:M->List (AV×AV)} {p m N:Nat}
theorem base(h:MemAt S obj es p m N)(A:M)(τ:St)(k:Nat):aD (S A++τ) (N+k)=aD τ k:=by rw[<-h.len A];exact mF _ _ _
theorem base0(h:MemAt S obj es p m N)(A:M)(τ:St):aD (S A++τ) N=aD τ 0:=h.base A τ 0
theorem bset(h:MemAt S obj es p m N)(A:M)(τ:St)(k:Nat)(x:ABlk):(S A++τ).set (N+k) x=S A++τ.set k x:=by rw[<-h.len A];exact kD _ _ _ _
theorem bset0(h:MemAt S obj es p m N)(A:M)(τ:St)(x:ABlk):(S A++τ).set N x=S A++τ.set 0 x:=h.bset A τ 0 x
theorem at1(h:MemAt S obj es p m N)(A:M)(τ:St):aD (S A++τ) p=some (obj):=by
 have:=h.at0 A;have hl:=h.pl;rw[<-h.len A] at hl;simp only[aD] at this ⊢;rw[List.getElem?_append_left hl];exact this
theorem map1(h:MemAt S obj es p m N)(A:M)(τ:St):(S A++τ)[m]? = some (.map (es A)):=by
 have hl:=h.ml;rw[<-h.len A] at hl;rw[List.getElem?_append_left hl];exact h.map0 A
theorem mset1(h:MemAt S obj es p m N)(A B:M)(τ:St):(S A++τ).set m (.map (es B))=S B++τ:=by
 have hl:=h.ml;rw[<-h.len A] at hl;rw[List.set_append_left _ _ hl,h.mset]
theorem keep(h:MemAt S obj es p m N)(A B:M)(i:Nat)(hi:i≠m):(S B)[i]? = (S A)[i]?:=by
 rw[<-h.mset A B,List.getElem?_set_ne (fun e=>hi e.symm)]
theorem kept(h:MemAt S obj es p m N){A B:M}{σ τ:St}(hσ:σ=S B++τ):∀ i,i<(S A).length->fH (S A) σ (S A).length i:=by
 intro i hi;rw[hσ];have hl:i<(S B).length:=by rw[h.len] at hi ⊢;exact hi
 by_cases him:i=m
 ·subst him;refine .inr (.inl ⟨.map (es B),?_,h.ok B _⟩);rw[List.getElem?_append_left hl,h.map0]
 ·refine .inl ?_;rw[List.getElem?_append_left hl,h.keep A B i him]
theorem app(h:MemAt S obj es p m N)(τ:St):MemAt (fun A=>S A++τ) obj es p m (N+τ.length) :=
 ⟨fun A=>by rw[List.length_append,h.len],fun A=>h.at1 A τ,fun A=>h.map1 A τ,fun A B=>h.mset1 A B τ,h.ok,by have:=h.pl;omega,by have:=h.ml;omega⟩
theorem eqS(h:MemAt S obj es p m N)(k:Nat)(A B:M)(x y z:St):EqS k (S A++x) (S B++y) (S B++z)=EqS k x y z:=by
 rw[<-h.mset A B];exact QF k _ (h.ok B k) _ _ _ _ _
end MemAt
theorem mX{M:Type}{S:M->St}{obj:List AV}{es:M->List (AV×AV)}{p m N:Nat}(hR:MemAt S obj es p m N){f:FuncId}{first cap args:List AV}{af:AFunc}{v:AV}{A B:M}(hf:T f=some af)(hn:(first++args++cap).length<=af.ntmps)(h:wp T af.body (fM 0 (first++args++cap)) (S A) (fun j e σ1=>(j=none\/j=some .ret)/\∃ v0 τ,gZ af.results e σ1=some v0/\σ1=S B++τ/\bJ σ1 N 20 v0=some v)):sK T (.func f first cap) args (S A) v (S B):=by
 refine .callf (.call hf hn (fO h fun o ho=>ho) fun o ho=>?_);obtain⟨hj,v0,τ,hres,hσ,h4⟩:=ho;refine⟨hj,v0,hres,?_⟩;unfold bJ at h4;cases hs:snap o.σ N 20 v0 with
 |none=>rw[hs] at h4;cases h4
 |some v1 =>
  rw[hs] at h4;simp at h4;refine .inr ⟨20,v1,v,by rw[hR.len];exact hs,.inr h4.symm,hR.kept hσ,?_,rfl,?_⟩
  ·rw[hσ,List.length_append,hR.len,hR.len];omega
  ·rw[hσ,hR.len,<-hR.len B,List.take_left]
def aU{A X:Type}(f:A->X->X×Bool):List A->X->X×Bool
 |[],x=>(x,true)
 |a::az,x=>if (f a x).2=true then aU f az (f a x).1 else ((f a x).1,false)
theorem vG{A X:Type}(f:A->X->X×Bool):∀ (az bs:List A) (x:X),aU f (az++bs) x=if (aU f az x).2=true then aU f bs (aU f az x).1 else ((aU f az x).1,false)
 |[],bs,x=>by simp[aU]
 |a::az,bs,x=>by
  simp only[List.cons_append,aU];split
  ·exact vG f az bs _
  ·simp
structure Fam {X:Type} (Z ZD:X->St) (obj:List AV) (p q N:Nat):Prop where
 len:∀ x,(Z x).length=N
 lenD:∀ x,(ZD x).length=N
 at0:∀ x,aD (Z x) p=some obj
 atq0:∀ x,aD (Z x) q=some [.ptr p 0]
 keep:∀ x y k i,N<=k->i<N->fH (Z x) (Z y) k i
 keepD:∀ x y k i,N<=k->i<N->fH (Z x) (ZD y) k i
 pl:p<N
 ql:q<N
namespace Fam
variable {X:Type} {Z ZD:X->St} {obj:List AV} {p q N:Nat}
theorem base(h:Fam Z ZD obj p q N)(x:X)(τ:St)(k:Nat):aD (Z x++τ) (N+k)=aD τ k:=by rw[<-h.len x];exact mF _ _ _
theorem base0(h:Fam Z ZD obj p q N)(x:X)(τ:St):aD (Z x++τ) N=aD τ 0:=h.base x τ 0
theorem bset(h:Fam Z ZD obj p q N)(x:X)(τ:St)(k:Nat)(y:ABlk):(Z x++τ).set (N+k) y=Z x++τ.set k y:=by rw[<-h.len x];exact kD _ _ _ _
theorem bset0(h:Fam Z ZD obj p q N)(x:X)(τ:St)(y:ABlk):(Z x++τ).set N y=Z x++τ.set 0 y:=h.bset x τ 0 y
theorem at1(h:Fam Z ZD obj p q N)(x:X)(τ:St):aD (Z x++τ) p=some obj:=by
 have:=h.at0 x;have hl:=h.pl;rw[<-h.len x] at hl;simp only[aD] at this ⊢;rw[List.getElem?_append_left hl];exact this
theorem atq1(h:Fam Z ZD obj p q N)(x:X)(τ:St):aD (Z x++τ) q=some [.ptr p 0]:=by
 have:=h.atq0 x;have hl:=h.ql;rw[<-h.len x] at hl;simp only[aD] at this ⊢;rw[List.getElem?_append_left hl];exact this
def out(Z ZD:X->St)(r:X×Bool):St:=if r.2=true then Z r.1 else ZD r.1
end Fam
theorem HG{A X:Type}(f:A->X->X×Bool)(a:A)(x:X):aU f [a] x=f a x:=by
 simp only[aU];obtain⟨y,bb⟩:=f a x;cases bb<;>simp
structure Fam1 {X:Type} {M:Type} (Z ZD:X->M->St) (obj:List AV) (es:M->List (AV×AV)) (p m q N:Nat):Prop where
 ship:∀ x,MemAt (Z x) obj es p m N
 lenD:∀ x A,(ZD x A).length=N
 atq0:∀ x A,aD (Z x A) q=some [.ptr p 0]
 keep:∀ x A y B k i,N<=k->i<N->fH (Z x A) (Z y B) k i
 keepD:∀ x A y B k i,N<=k->i<N->fH (Z x A) (ZD y B) k i
 ql:q<N
 pl:p<N
namespace Fam1
variable {X:Type} {M:Type} {Z ZD:X->M->St} {obj:List AV} {es:M->List (AV×AV)} {p m q N:Nat}
theorem atq1(h:Fam1 Z ZD obj es p m q N)(x:X)(A:M)(τ:St):aD (Z x A++τ) q=some [.ptr p 0]:=by
 have:=h.atq0 x A;have hl:=h.ql;rw[<-(h.ship x).len A] at hl;simp only[aD] at this ⊢;rw[List.getElem?_append_left hl];exact this
def out(Z ZD:X->M->St)(r:X×Bool)(A:M):St:=if r.2=true then Z r.1 A else ZD r.1 A
end Fam1
def yR{X A M:Type}(Z ZD:X->M->St)(id:Nat)(args:A->Bool->Option Nat->List AV)(P:A->Prop)(f:A->X->X×Bool):Prop :=
 ∀ t,P t->∀ (fl:Bool) (tk:Option Nat) x B τ,Run T (.callv (.yield id) (args t fl tk) (Z x B++τ)) fun o=>o.v = .bool (f t x).2/\∃ τ',o.σ=Fam1.out Z ZD (f t x) B++(τ++τ')
theorem aFP{X:Type}{M:Type}{S:M->St}{obj:List AV}{es:M->List (AV×AV)}{p m N:Nat}(hS:MemAt S obj es p m N)(U UD:X->St)(n:Nat)(hU:∀ x,(U x).length=n)(hUD:∀ x,(UD x).length=n)(ok:∀ x y,y∈U x->∀ k,N<=k->aJ k y)(okD:∀ x y,y∈UD x->∀ k,N<=k->aJ k y)(env:Env)(ps:List Nat)(a bb:ACode)(st st':LS)(pe pe':Option AJump):
  Fam1 (fun x A=>S A++(U x++[.cells [.ptr p 0],.loop st pe env ps a bb])) (fun x A=>S A++(UD x++[.cells [.ptr p 0],.loop st' pe' env ps a bb])) obj es p m (N+n) (N+n+2):=by
 have hpl:=hS.pl;have low:∀ (A B:M) (C D:St) (k i:Nat),i<N->fH (S A++C) (S B++D) k i:=by
  intro A B C D k i hi;have e1:(S A++C)[i]? = (S A)[i]?:=List.getElem?_append_left (by rw[hS.len];exact hi);have e2:(S B++D)[i]? = (S B)[i]?:=List.getElem?_append_left (by rw[hS.len];exact hi);simp only[fH,e1,e2];by_cases him:i=m
  ·subst him;exact .inr (.inl ⟨_,hS.map0 B,hS.ok B k⟩)
  ·exact .inl (hS.keep A B i him)
 have high:∀ (A B:M) (C D:St) (l1 l2:ABlk) (k i:Nat),C.length=n->D.length=n->(∀ y∈D,aJ k y)->N<=i->i<N+n+2->(l1=l2\/∃ st pe st' pe' env ps a b,l1 = .loop st pe env ps a b/\l2 = .loop st' pe' env ps a b) ->
   fH (S A++(C++[.cells [.ptr p 0],l1])) (S B++(D++[.cells [.ptr p 0],l2])) k i:=by
  intro A B C D l1 l2 k i hA hB hk h1 h2 hl;have e1:(S A++(C++[.cells [.ptr p 0],l1]))[i]? = (C++[.cells [.ptr p 0],l1])[i-N]?:=by rw[List.getElem?_append_right (by rw[hS.len];exact h1),hS.len]
  have e2:(S B++(D++[.cells [.ptr p 0],l2]))[i]? = (D++[.cells [.ptr p 0],l2])[i-N]?:=by rw[List.getElem?_append_right (by rw[hS.len];exact h1),hS.len]
  simp only[fH,e1,e2];obtain⟨j,hj⟩:∃ j,i-N=j:=⟨_,rfl⟩;rw[hj];by_cases hjn:j<n
  ·right;left;have hb:j<D.length:=by omega
   refine⟨D[j],?_,hk _ (List.getElem_mem hb)⟩;rw[List.getElem?_append_left hb,List.getElem?_eq_getElem hb]
  ·have:j=n\/j=n+1:=by omega
   rcases this with rfl|rfl
   ·left;rw[List.getElem?_append_right (by omega),List.getElem?_append_right (by omega),hA,hB];simp
   ·rw[List.getElem?_append_right (by omega),List.getElem?_append_right (by omega),hA,hB];simp only[Nat.add_sub_cancel_left,List.getElem?_cons_succ,List.getElem?_cons_zero];rcases hl with rfl|⟨_,_,_,_,_,_,_,_,rfl,rfl⟩
    ·exact .inl rfl
    ·exact .inr (.inr ⟨_,_,_,_,_,_,_,_,rfl,rfl⟩)
 refine⟨fun x=>?_,fun x A=>?_,fun x A=>?_,fun x A y B k i hk hi=>?_,fun x A y B k i hk hi=>?_,by omega,by omega⟩
 ·have:=hS.app (U x++[.cells [.ptr p 0],.loop st pe env ps a bb]);rw[List.length_append,hU] at this;exact this
 ·simp[hS.len,hUD];omega
 ·have e:N+n=(S A).length+n:=by rw[hS.len]
  rw[e,mF];have:n=(U x).length:=by rw[hU]
  rw[this];exact jY _ _
 ·by_cases h:i<N
  ·exact low _ _ _ _ _ _ h
  ·exact high _ _ _ _ _ _ _ _ (hU x) (hU y) (fun z hz=>ok y z hz k (by omega)) (by omega) hi (.inl rfl)
 ·by_cases h:i<N
  ·exact low _ _ _ _ _ _ h
  ·exact high _ _ _ _ _ _ _ _ (hU x) (hUD y) (fun z hz=>okD y z hz k (by omega)) (by omega) hi (.inr ⟨_,_,_,_,_,_,_,_,rfl,rfl⟩)
theorem V4{X A M:Type}{S:M->St}{obj:List AV}{es:M->List (AV×AV)}{p m N:Nat}(hS:MemAt S obj es p m N)(U UD:X->St)(n:Nat)(hU:∀ x,(U x).length=n)(hUD:∀ x,(UD x).length=n)(J:AJump)(e:Env)(k:Nat)(ps:List Nat)(a bb:ACode)(g:FuncId)(ek:Env.get e k = .func g [] [.ptr (N+n) 0])(r:X×Bool)(B':M)(x:X)(B:M)(hrun:Run T (.call g [.yield (N+n+1),.ptr (N+n) 0] (S B++(U x++[.cells [.ptr p 0],.loop .ready none e ps a bb]))) fun o=>∃ τ',o.σ=Fam1.out (fun x A=>S A++(U x++[.cells [.ptr p 0],.loop .ready none e ps a bb])) (fun x A=>S A++(UD x++[.cells [.ptr p 0],.loop .done (some J) e ps a bb])) r B'++τ')(K:KJ)(hT:∀ τ,r.2=true->K none e (S B'++(U r.1++(.cells [.ptr p 0]::.dead::τ))))(hD:∀ τ,r.2=false->K (some J) e (S B'++(UD r.1++(.cells [.ptr p 0]::.dead::τ)))):
  rK (K:=⟨K⟩) T (.rangeFunc (.t k) ps a bb) e (S B++(U x++[.cells [.ptr p 0]])):=by
 have hlen:(S B++(U x++[ABlk.cells [.ptr p 0]])).length=N+n+1:=by simp[hS.len,hU];omega
 have hout:∀ (A W:St) (lp:ABlk) (τ':St),A.length=N->W.length=n->(A++(W++[ABlk.cells [.ptr p 0],lp])++τ')[N+n+1]? = some lp/\(A++(W++[ABlk.cells [.ptr p 0],lp])++τ').set (N+n+1) .dead=A++(W++(.cells [.ptr p 0]::.dead::τ')):=by
  intro A W lp τ' hA hW;have h1:N+n+1=(A++W).length+1:=by simp[hA,hW]
  have h2:A++(W++[ABlk.cells [.ptr p 0],lp])++τ'=(A++W)++(.cells [.ptr p 0]::lp::τ'):=by simp
  rw[h1,h2];constructor
  ·rw[rE];rfl
  ·rw[kD];simp
 refine DE (by rw[QK,ek]) (by
  rw[hlen,List.append_assoc (S B),List.append_assoc (U x)]
  exact hrun) fun o ho=>?_
 obtain⟨τ',hσ⟩:=ho;rw[hlen,hσ];cases hr2:r.2
 ·have hD':=hD τ' hr2;obtain⟨g1,g2⟩:=hout (S B') (UD r.1) (.loop .done (some J) e ps a bb) τ' (hS.len _) (hUD _);simp only[Fam1.out,hr2,Bool.false_eq_true,if_false];rw[g1,g2];exact⟨_,_,_,_,_,_,rfl,by simp,hD'⟩
 ·have hT':=hT τ' hr2;obtain⟨g1,g2⟩:=hout (S B') (U r.1) (.loop .ready none e ps a bb) τ' (hS.len _) (hU _);simp only[Fam1.out,hr2,if_true];rw[g1,g2];exact⟨_,_,_,_,_,_,rfl,by simp,hT'⟩
theorem UH{X A M:Type}{S:M->St}{obj:List AV}{es:M->List (AV×AV)}{p m N:Nat}(hS:MemAt S obj es p m N)(U UD:X->St)(n:Nat)(hU:∀ x,(U x).length=n)(hUD:∀ x,(UD x).length=n)(J:AJump)(e:Env)(ps:List Nat)(args:A->Bool->Option Nat->List AV)(hps:∀ t fl tk,ps.length=(args t fl tk).length)(a bb:ACode){P:A->Prop}{f:A->X->X×Bool}(h:∀ t,P t->∀ (fl:Bool) (tk:Option Nat) x B τ,wp T a (i6 e ps (args t fl tk)) (S B++(U x++(.cells [.ptr p 0]::.loop .ready none e ps a bb::τ))) (fun j e' σ'=>j=none/\σ'=S B++(U x++(.cells [.ptr p 0]::.loop .ready none e ps a bb::τ)) /\
   wp T bb e' (S B++(U x++(.cells [.ptr p 0]::.loop .busy none e ps a bb::τ))) (fun j e'' σ''=>((f t x).2=true/\j=none/\∃ τ',σ''=S B++(U (f t x).1++(.cells [.ptr p 0]::.loop .busy none e ps a bb::(τ++τ')))) \/
    ((f t x).2=false/\j=some J/\∃ τ',σ''=S B++(UD (f t x).1++(.cells [.ptr p 0]::.loop .busy none e ps a bb::(τ++τ'))))))):
  yR (fun x B=>S B++(U x++[.cells [.ptr p 0],.loop .ready none e ps a bb])) (fun x B=>S B++(UD x++[.cells [.ptr p 0],.loop .done (some J) e ps a bb])) (N+n+1) args P f:=by
 intro t ht fl tk x B τ;have hget:∀ (A W:St) (lp:ABlk) (υ:St),A.length=N->W.length=n->(A++(W++(ABlk.cells [.ptr p 0]::lp::υ)))[N+n+1]? = some lp:=by
  intro A W lp υ hA hW;have h1:N+n+1=(A++W).length+1:=by simp[hA,hW]
  rw[h1,<-List.append_assoc,rE];rfl
 have hset:∀ (A W:St) (lp l2:ABlk) (υ:St),A.length=N->W.length=n->(A++(W++(ABlk.cells [.ptr p 0]::lp::υ))).set (N+n+1) l2=A++(W++(ABlk.cells [.ptr p 0]::l2::υ)):=by
  intro A W lp l2 υ hA hW;have h1:N+n+1=(A++W).length+1:=by simp[hA,hW]
  rw[h1,<-List.append_assoc,kD];simp
 obtain⟨r,hr⟩:∃ r,f t x=r:=⟨_,rfl⟩;have h:=h t ht fl tk x B τ;rw[hr] at h ⊢;have hst:(fun x B=>S B++(U x++[ABlk.cells [.ptr p 0],.loop .ready none e ps a bb])) x B++τ=S B++(U x++(.cells [.ptr p 0]::.loop .ready none e ps a bb::τ)):=by simp
 rw[hst];refine .round (env:=e) (ps:=ps) (a:=a) (b:=bb)
  (R:=fun o=>o.j=none/\o.σ=S B++(U x++(.cells [.ptr p 0]::.loop .ready none e ps a bb::τ))/\wp T bb o.env (S B++(U x++(.cells [.ptr p 0]::.loop .busy none e ps a bb::τ))) (fun j e'' σ''=>(r.2=true/\j=none/\∃ τ',σ''=S B++(U r.1++(.cells [.ptr p 0]::.loop .busy none e ps a bb::(τ++τ')))) \/
    (r.2=false/\j=some J/\∃ τ',σ''=S B++(UD r.1++(.cells [.ptr p 0]::.loop .busy none e ps a bb::(τ++τ'))))))
  (S:=fun o=>(r.2=true/\o.j=none/\∃ τ',o.σ=S B++(U r.1++(.cells [.ptr p 0]::.loop .busy none e ps a bb::(τ++τ'))))\/(r.2=false/\o.j=some J/\∃ τ',o.σ=S B++(UD r.1++(.cells [.ptr p 0]::.loop .busy none e ps a bb::(τ++τ'))))) (hget _ _ _ _ (hS.len _) (hU _)) (by rw[hps t fl tk]) (fO h fun o ho=>ho) ?_ ?_ ?_
 ·rintro o ⟨hj,hσ,_⟩;exact⟨hj,by rw[hσ];exact hget _ _ _ _ (hS.len _) (hU _)⟩
 ·rintro o ⟨_,hσ,hw⟩;rw[hσ,hset _ _ _ _ _ (hS.len _) (hU _)];exact fO hw fun o ho=>ho
 ·rintro o (⟨hr2,hj,τ',hσ⟩|⟨hr2,hj,τ',hσ⟩)
  ·rw[hσ,hj,hget _ _ _ _ (hS.len _) (hU _),hset _ _ _ _ _ (hS.len _) (hU _)];refine⟨rfl,by rw[hr2];rfl,τ',?_⟩;simp[Fam1.out,hr2]
  ·rw[hσ,hj,hget _ _ _ _ (hS.len _) (hUD _),hset _ _ _ _ _ (hS.len _) (hUD _)];refine⟨rfl,by rw[hr2];rfl,τ',?_⟩;simp[Fam1.out,hr2]
theorem EE{A X:Type}{f:A->X->X×Bool}(h:∀ a x,(f a x).2=true):∀ (l:List A) (x:X),aU f l x=(l.foldl (fun x a=>(f a x).1) x,true)
 |[],x=>rfl
 |a::az,x=>by simp only[aU,h,if_true,List.foldl_cons];exact EE h az _
end Go.Am.Room
namespace Go.Am.Room
def kP(f:Nat->Int)(i:Nat)(v:Int):Nat->Int:=fun j=>if j=i then v else f j
def aK(n:Nat)(f:Nat->Int):List AV:=(List.range n).map fun i=>.int .i64 (f i)
theorem bA(n:Nat)(f:Nat->Int):(aK n f).length=n:=by simp[aK]
theorem iJ(n:Nat)(f:Nat->Int){i:Nat}(h:i<n):(aK n f)[i]? = some (.int .i64 (f i)):=by simp[aK,h]
theorem xC{n:Nat}{f g:Nat->Int}(h:∀ i,i<n->f i=g i):aK n f=aK n g:=by
 refine List.map_congr_left fun i hi=>?_
 rw[h i (by simpa using hi)]
theorem pQ(n:Nat)(f:Nat->Int)(v:Int){i:Nat}(h:i<n):(aK n f).take i++[AV.int .i64 v]++(aK n f).drop (i+1)=aK n (kP f i v):=by
 have h1:(aK n f).take i++[AV.int .i64 v]++(aK n f).drop (i+1)=(aK n f).set i (.int .i64 v):=by
  rw[List.set_eq_take_append_cons_drop,if_pos (by rw[bA];exact h)];simp
 rw[h1];refine List.ext_getElem? fun j=>?_
 by_cases hj:j<n
 ·rw[iJ n _ hj,List.getElem?_set];by_cases e:i=j
  ·subst e;simp[bA,hj,kP]
  ·rw[if_neg e,iJ n _ hj];simp[kP,show ¬j=i from fun q=>e q.symm]
 ·rw[List.getElem?_eq_none (by rw[List.length_set,bA];omega),List.getElem?_eq_none (by rw[bA];omega)]
theorem pK(n:Nat)(f:Nat->Int):nF (aK n f):=bD (enc:=fun i:Nat=>AV.int .i64 (f i)) (fun i=>aY _ _) (List.range n)
instance (n:Nat) (f:Nat->Int):Dats (aK n f):=⟨pK n f⟩
theorem gU(n:Nat)(f:Nat->Int)(m:Nat):okVs m (aK n f):=KF (pK n f) m
theorem eN(n:Nat)(f:Nat->Int)(σ:St)(m d:Nat):cB σ m d (aK n f)=some (aK n f):=gJ (pK n f) σ m d
theorem bF(n:Nat)(f:Nat->Int):bZ (aK n f)=true:=aJ2 _ _ fun i=>by simp[AV.cell]
theorem bE(n:Nat)(f:Nat->Int):(aK n f).take n=aK n f:=List.take_of_length_le (by rw[bA];exact Nat.le_refl n)
theorem bK(n:Nat)(f:Nat->Int):(aK n f).drop n=[]:=List.drop_eq_nil_of_le (by rw[bA];exact Nat.le_refl n)
theorem UA(n:Nat):aK n (fun _=>0)=List.replicate n (.int .i64 0):=by simp[aK,List.map_const']
theorem J3(f g:Nat->Int):∀ l:List Nat,bQ (List.replicate l.length .i) (l.map fun i=>.int .i64 (f i)) (l.map fun i=>.int .i64 (g i))=some (l.all fun i=>f i==g i)
 |[]=>rfl
 |x::l=>by
  simp only[List.length_cons,List.replicate_succ,List.map_cons,M5,XB,J3 f g l,PA,List.all_cons]
theorem HN(n:Nat)(f g:Nat->Int):bQ (List.replicate n .i) (aK n f) (aK n g)=some ((List.range n).all fun i=>f i==g i):=by
 have:=J3 f g (List.range n)
 rwa [List.length_range] at this
theorem y4(n sz:Nat)(sh:Option Nat)(cs:List AV)(k:IntKind)(j:Int):HU n sz sh (.agg cs) (.int k j)=if 0<=j/\j<n then fG sh cs (j.toNat*sz) else none:=by simp only[HU,gG]
section
variable {K:Type} [DecidableEq K]
def eH(M:List K)(w:K):List K:=if w∈M then M else M++[w]
structure KeyIs (sh:EqTy) (enc val:K->AV):Prop where
 eq:∀ w x,jO sh (enc w) (enc x)=some (decide (w=x))
 dk:∀ w,kZ (enc w)
 dv:∀ w,kZ (val w)
variable {sh:EqTy} {enc val:K->AV}
def sA(enc val:K->AV)(M:List K):List (AV×AV):=M.map fun w=>(enc w,val w)
theorem QY(h:KeyIs sh enc val)(w:K):∀ M:List K,findKey sh (enc w) (sA enc val M)=some (if w∈M then some (val w) else none)
 |[]=>by simp[sA,findKey]
 |x::M=>by
  have ih:=QY h w M;simp only[sA,List.map_cons,findKey,h.eq] at ih ⊢;by_cases e:w=x
  ·subst e;simp
  ·simp only[e,decide_false,ih,List.mem_cons,false_or]
theorem aCR(h:KeyIs sh enc val)(w:K):∀ M:List K,w∉M->pT sh (enc w) (val w) (sA enc val M)=some (sA enc val (M++[w]))
 |[],_=>by simp[sA,pT]
 |x::M,hn=>by
  have ih:=aCR h w M (fun q=>hn (List.mem_cons_of_mem _ q));have hx:w≠x:=fun e=>hn (by rw[e];simp)
  simp only[sA,List.map_cons,pT,h.eq,List.cons_append] at ih ⊢;simp only[hx,decide_false,ih,Option.map_some]
theorem DU(h:KeyIs sh enc val)(M:List K)(k:Nat):aJ k (.map (sA enc val M)):=by
 simp only[aJ,sA];intro q hq;obtain⟨w,hw,rfl⟩:=List.mem_map.1 hq;exact⟨CG (h.dk w) k,CG (h.dv w) k⟩
variable {S:List K->St} {obj:List AV} {p m N:Nat}
theorem RB(hk:KeyIs sh enc val)(h:MemAt S obj (sA enc val) p m N)(M:List K)(τ:St)(w:K):xL sh (S M++τ) (.map m) (enc w)=some (if w∈M then some (val w) else none):=by
 simp only[xL,h.map1,QY hk,hk.eq];simp
theorem aBA(hk:KeyIs sh enc val)(h:MemAt S obj (sA enc val) p m N)(M:List K)(τ:St)(w:K)(hw:w∉M):B4 sh (S M++τ) (.map m) (enc w) (val w)=some (S (M++[w])++τ):=by
 simp only[B4,hk.eq,h.map1,aCR hk w M hw,Option.map_some,h.mset1];simp
end
end Go.Am.Room
namespace Go.Am.Room.Ca
structure Fm where
 name:ByteArray
 way:Int
 notice:Int
 keep:Int
 hands:Span
structure Port where
 hold:Int
 come:Span
 farms:List Fm
def cW(x:Fm):AV:=.agg [.str x.name,.int .i64 x.way,.int .i64 x.notice,.int .i64 x.keep,.int .i64 x.hands.lo,.int .i64 x.hands.hi]
theorem d5(x:Fm):cW x = .agg [.str x.name,.int .i64 x.way,.int .i64 x.notice,.int .i64 x.keep,.int .i64 x.hands.lo,.int .i64 x.hands.hi]:=by simp only[cW]
theorem yS(x:Fm):kZ (cW x):=gS (aL (uL _) (aL (aY _ _) (aL (aY _ _) (aL (aY _ _) (aL (aY _ _) (aL (aY _ _) aZ))))))
instance (x:Fm):Dat (cW x):=⟨yS x⟩
instance (l:List Fm):Dats (l.map cW):=⟨bD yS l⟩
theorem d8(σ:St)(m d:Nat)(l:List Fm):cB σ m d (l.map cW)=some (l.map cW):=gJ (bD yS l) σ m d
def aF(p:Port):List AV:=[.int .i64 p.hold,.int .i64 p.come.lo,.int .i64 p.come.hi,.lit (p.farms.map cW) false none]
theorem aM(p:Port):aF p=[.int .i64 p.hold,.int .i64 p.come.lo,.int .i64 p.come.hi,.lit (p.farms.map cW) false none]:=by simp only[aF]
def encPort(p:Port):AV:=.agg (aF p)
theorem dK(p:Port):encPort p = .agg (aF p):=by simp only[encPort]
theorem m8(p:Port):nF (aF p):=aL (aY _ _) (aL (aY _ _) (aL (aY _ _) (aL (gK yS _) aZ)))
theorem TC(p:Port):kZ (encPort p):=gS (m8 p)
instance (p:Port):Dat (encPort p):=⟨TC p⟩
instance (p:Port):Dats (aF p):=⟨m8 p⟩
structure Fits (p:Port):Prop where
 farms:p.farms.length<9223372036854775808
 names:∀ x∈p.farms,x.name.size<9223372036854775808
def vB(x:Fm):Int:=if inR x.way 1 4=false\/inR x.notice 0 3=false\/inR x.keep x.way 9=false then 7 else kG x.hands 0 60
def F5(p:Port)(i:Nat)(x:Fm):Int:=if fresh x.name ((p.farms.take i).map Fm.name)=0 then vB x else fresh x.name ((p.farms.take i).map Fm.name)
def jV(p:Port):Int×Int×Int:=if 3<p.farms.length then (2,0,3) else match bC (F5 p) p.farms 0 with|some (i,e)=>(2,i,e)|none=>(0,0,0)
def check(p:Port):Int×Int×Int:=if inR p.hold 1 200=false\/kG p.come 0 10=7 then (1,0,7) else if kG p.come 0 10=0 then jV p else (1,0,kG p.come 0 10)
def enc3(x:Int×Int×Int):AV:=.tuple [.int .i64 x.1,.int .i64 x.2.1,.int .i64 x.2.2]
def gF(g:List Int)(i:Nat):Int:=(g[i]?).getD 0
def wA(x:Fm)(cable day:Int):Bool:=decide (0<=cable)&&inR (day-cable-x.notice) x.way x.keep
structure Load where
 least:Int
 most:Int
 vain:Int
def E8(x:Fm)(cable day:Int)(y:Load):Load:=if cable = -1 then y else if wA x cable day=true then ⟨y.least+x.hands.lo,y.most+x.hands.hi,y.vain⟩ else ⟨y.least,y.most,y.vain+x.hands.hi⟩
def kU(p:Port)(l:Nat->Int)(day:Int):Nat->Load
 |0=>⟨0,0,0⟩
 |n+1=>match p.farms[n]? with|some x=>E8 x (l n) day (kU p l day n)|none=>kU p l day n
def onD(p:Port)(l:Nat->Int)(day:Int):Load:=kU p l day p.farms.length
def lD(p:Port):List Int:=aR p.come.lo (p.come.hi+1-p.come.lo).toNat
def dG(p:Port)(l:Nat->Int):List Load:=(lD p).map (onD p l)
def iX(p:Port)(l:Nat->Int):Bool:=(lD p).all fun d=>decide (p.hold<=(onD p l d).least)
def OA(p:Port)(l:Nat->Int):Bool:=(lD p).all fun d=>decide ((onD p l d).most<p.hold)
def u3(p:Port)(l:Nat->Int):Int:=if iX p l=true then 1 else if OA p l=true then 2 else 0
def gM(p:Port)(l:Nat->Int):Int:=(dG p l).foldl (fun n x=>max n x.vain) 0
def iU(p:Port)(l:Nat->Int):Nat->Int
 |0=>0
 |n+1=>match p.farms[n]? with|some x=>if l n = -1 then iU p l n else iU p l n+x.hands.hi|none=>iU p l n
def BE(p:Port)(l:Nat->Int):Int:=iU p l p.farms.length
def zB(B:Nat):List Int:=aR 0 B++[-1]
def gQ(B:Nat):Nat->List (List Int)
 |0=>[[]]
 |n+1=>(gQ B n).flatMap fun l=>(zB B).map fun x=>l++[x]
def eT(p:Port):List (List Int):=(gQ 11 p.farms.length).filter fun w=>iX p (gF w)
abbrev Bst:=Option (List Int×Int×Int)
def wN(p:Port)(b:Bst)(w:List Int):Bst:=match b with
 |none=>some (w,gM p (gF w),BE p (gF w))
 |some (c,n,k)=>if gM p (gF w)<n\/(gM p (gF w)=n/\BE p (gF w)<k) then some (w,gM p (gF w),BE p (gF w)) else some (c,n,k)
def pL(p:Port):Bst:=(eT p).foldl (wN p) none
def zO(p:Port):List Int×Int×Int:=match pL p with
 |none=>([],0,9)
 |some (w,_,_)=>(w,gM p (gF w),0)
open Go
variable {P:Program}
structure TysT (P:Program):Prop where
 int:P.underlying 3=some (.int .i64)
 str:P.underlying 9=some .string
 span:lT P 24 [3,3]
 ints:P.underlying 30=some (.slice 3)
 u16:P.underlying 64=some (.int .u16)
 rails:P.underlying 124=some (.slice 301)
 trams:P.underlying 125=some (.slice 303)
 seens:P.underlying 126=some (.slice 306)
 net:lT P 128 [3,124,125,126]
 farms:P.underlying 129=some (.slice 146)
 port:lT P 131 [3,24,129]
 farm:lT P 146 [9,3,3,3,24]
 rail:lT P 301 [3,3,24,3]
 tram:lT P 303 [9,3,3,3,30]
 seen:lT P 306 [3,3]
theorem aK4{x:Int}(h:(Lit.int .u16 x).wf=true):0<=x/\x<65536:=by
 simp[Lit.wf,IntKind.min,IntKind.max,IntKind.signed,IntKind.bits] at h;omega
theorem ty_u16{n:Nat}{cs:List AV}(T:TysT P)(h:Typ P (n+1) 64 cs):∃ x:Int,mkV P 64 cs = .int .u16 x/\(0<=x/\x<65536):=by
 obtain⟨x,rfl,hw⟩:=iH T.u16 h;exact⟨x,NQ T.u16,aK4 hw⟩
theorem aGF{n:Nat}{cs:List AV}(T:TysT P)(h:Typ P (n+3) 301 cs):∃ s:Tr.Rail,mkV P 301 cs=Tr.encRail s/\True:=by
 obtain⟨e,a1,b1,rfl,h1,a2,b2,rfl,h2,a3,b3,rfl,h3,a4,b4,rfl,h4,rfl⟩:=xI T.rail h;obtain⟨x1,rfl,_⟩:=iH T.int h1;obtain⟨x2,rfl,_⟩:=iH T.int h2;obtain⟨x3,rfl⟩:=IY T.int T.span h3;obtain⟨x4,rfl,_⟩:=iH T.int h4;exact⟨⟨x1,x2,x3,x4⟩,e,trivial⟩
theorem aDY{n:Nat}{cs:List AV}(T:TysT P)(h:Typ P (n+3) 303 cs):∃ s:Tr.Tram,mkV P 303 cs=Tr.encTram s/\(s.name.size<9223372036854775808/\s.path.length<9223372036854775808):=by
 obtain⟨e,a1,b1,rfl,h1,a2,b2,rfl,h2,a3,b3,rfl,h3,a4,b4,rfl,h4,a5,b5,rfl,h5,rfl⟩:=xI T.tram h;obtain⟨x1,rfl,hx⟩:=RE T.str h1;obtain⟨x2,rfl,_⟩:=iH T.int h2;obtain⟨x3,rfl,_⟩:=iH T.int h3;obtain⟨x4,rfl,_⟩:=iH T.int h4;obtain⟨x5,_,rfl,l5⟩:=aDU T.int T.ints h5;exact⟨⟨x1,x2,x3,x4,x5⟩,e,by simp only[maxLen] at hx;simp only;omega,l5⟩
theorem aDE{n:Nat}{cs:List AV}(T:TysT P)(h:Typ P (n+2) 306 cs):∃ s:Tr.Seen,mkV P 306 cs=Tr.encSeen s/\True:=by
 obtain⟨e,a,b,rfl,h1,c,d,rfl,h2,rfl⟩:=xI T.seen h;obtain⟨x,rfl,_⟩:=iH T.int h1;obtain⟨y,rfl,_⟩:=iH T.int h2;exact⟨⟨x,y⟩,e,trivial⟩
theorem ty_net{n:Nat}{cs:List AV}(T:TysT P)(h:Typ P (n+5) 128 cs):∃ s:Tr.Net,mkV P 128 cs=Tr.encNet s/\Tr.Fits s:=by
 obtain⟨e,a1,b1,rfl,h1,a2,b2,rfl,h2,a3,b3,rfl,h3,a4,b4,rfl,h4,rfl⟩:=xI T.net h;obtain⟨x1,rfl,_⟩:=iH T.int h1;obtain⟨x2,rfl,⟨l2,_⟩,_⟩:=rX T.rails h2 fun y hy=>aGF T hy
 obtain⟨x3,rfl,⟨l3,_⟩,q3⟩:=rX T.trams h3 fun y hy=>aDY T hy
 obtain⟨x4,rfl,⟨l4,_⟩,_⟩:=rX T.seens h4 fun y hy=>aDE T hy
 exact⟨⟨x1,x2,x3,x4⟩,e,⟨l2,l3,l4,fun t ht=>(q3 t ht).1,fun t ht=>(q3 t ht).2⟩⟩
theorem aPF{n:Nat}{cs:List AV}(T:TysT P)(h:Typ P (n+3) 146 cs):∃ s:Fm,mkV P 146 cs=cW s/\s.name.size<9223372036854775808:=by
 obtain⟨e,a1,b1,rfl,h1,a2,b2,rfl,h2,a3,b3,rfl,h3,a4,b4,rfl,h4,a5,b5,rfl,h5,rfl⟩:=xI T.farm h;obtain⟨x1,rfl,hx⟩:=RE T.str h1;obtain⟨x2,rfl,_⟩:=iH T.int h2;obtain⟨x3,rfl,_⟩:=iH T.int h3;obtain⟨x4,rfl,_⟩:=iH T.int h4;obtain⟨x5,rfl⟩:=IY T.int T.span h5;exact⟨⟨x1,x2,x3,x4,x5⟩,e,by simp only[maxLen] at hx;simp only;omega⟩
theorem ty_port{n:Nat}{cs:List AV}(T:TysT P)(h:Typ P (n+5) 131 cs):∃ s:Port,mkV P 131 cs=encPort s/\Fits s:=by
 obtain⟨e,a1,b1,rfl,h1,a2,b2,rfl,h2,a3,b3,rfl,h3,rfl⟩:=xI T.port h;obtain⟨x1,rfl,_⟩:=iH T.int h1;obtain⟨x2,rfl⟩:=IY T.int T.span h2;obtain⟨x3,rfl,⟨l3,_⟩,q3⟩:=rX T.farms h3 fun y hy=>aPF T hy
 exact⟨⟨x1,x2,x3⟩,e,⟨l3,q3⟩⟩
end Go.Am.Room.Ca
namespace Go.Am.Room.Fa
theorem dJ(σ:St)(m d:Nat)(l:List Span):cB σ m d (l.map cV)=some (l.map cV):=gJ (bD mZ l) σ m d
instance (l:List Span):Dats (l.map cV):=⟨bD mZ l⟩
end Go.Am.Room.Fa
namespace Go.Am.Room
theorem DL:∀ (l:List Int) (s:Span),s.lo<=s.hi->(l.foldl mW s).lo<=s.lo/\s.hi<=(l.foldl mW s).hi/\(∀ x∈l,(l.foldl mW s).lo<=x/\x<=(l.foldl mW s).hi)/\((l.foldl mW s).lo=s.lo\/(l.foldl mW s).lo∈l)/\((l.foldl mW s).hi=s.hi\/(l.foldl mW s).hi∈l)
 |[],s,h=>⟨Int.le_refl _,Int.le_refl _,fun x hx=>by simp at hx,.inl rfl,.inl rfl⟩
 |y::l,s,h=>by
  have hj:(mW s y).lo<=(mW s y).hi:=by simp only[mW];omega
  obtain⟨a,b,c,d,e⟩:=DL l (mW s y) hj;simp only[List.foldl_cons];have h1:(mW s y).lo<=s.lo/\(mW s y).lo<=y/\((mW s y).lo=s.lo\/(mW s y).lo=y):=by simp only[mW];omega
  have h2:s.hi<=(mW s y).hi/\y<=(mW s y).hi/\((mW s y).hi=s.hi\/(mW s y).hi=y):=by simp only[mW];omega
  refine⟨by omega,by omega,fun x hx=>?_,?_,?_⟩
  ·rcases List.mem_cons.1 hx with rfl|hx
   ·omega
   ·exact c x hx
  ·rcases d with d|d
   ·rcases h1.2.2 with h|h
    ·left;omega
    ·right;rw[d,h];simp
   ·right;simp[d]
  ·rcases e with e|e
   ·rcases h2.2.2 with h|h
    ·left;omega
    ·right;rw[e,h];simp
   ·right;simp[e]
theorem pU{l:List Int}(h:l≠[]):(iD l).lo∈l/\(iD l).hi∈l/\∀ x∈l,(iD l).lo<=x/\x<=(iD l).hi:=by
 cases l with
 |nil=>exact absurd rfl h
 |cons x l =>
  obtain⟨a,b,c,d,e⟩:=DL l ⟨x,x⟩ (Int.le_refl _);simp only[iD];refine⟨?_,?_,fun y hy=>?_⟩
  ·rcases d with d|d
   ·rw[d];simp
   ·simp[d]
  ·rcases e with e|e
   ·rw[e];simp
   ·simp[e]
  ·rcases List.mem_cons.1 hy with rfl|hy
   ·exact⟨a,b⟩
   ·exact c y hy
theorem FO{l k:List Int}(hl:l≠[])(h:∀ x∈l,x∈k):(iD k).lo<=(iD l).lo/\(iD l).hi<=(iD k).hi:=by
 have hk:k≠[]:=by
  intro e;subst e;exact absurd (h _ (pU hl).1) (by simp)
 have a:=pU hl;have b:=pU hk;exact⟨(b.2.2 _ (h _ a.1)).1,(b.2.2 _ (h _ a.2.1)).2⟩
theorem VK{l k:List Int}(h:∀ x,x∈l↔x∈k):iD l=iD k:=by
 by_cases hl:l=[]
 ·subst hl;have:k=[]:=by
   cases k with
   |nil=>rfl
   |cons y k=>exact absurd ((h y).2 (by simp)) (by simp)
  rw[this]
 ·have hk:k≠[]:=by
   intro e;subst e;exact absurd ((h _).1 (pU hl).1) (by simp)
  have a:=FO hl fun x hx=>(h x).1 hx
  have b:=FO hk fun x hx=>(h x).2 hx
  obtain⟨p,q⟩:(iD l).lo=(iD k).lo/\(iD l).hi=(iD k).hi:=⟨by omega,by omega⟩;generalize iD l=x at *;generalize iD k=y at *;cases x;cases y;simp only at p q;rw[p,q]
theorem ED{α:Type}{p:α->Bool}{l:List α}:(l.filter p).length=l.length↔∀ x∈l,p x=true:=by
 rw[List.length_filter_eq_length_iff]
theorem u5{α:Type}{p:α->Bool}{l:List α}:fA (l.filter p).length l.length=1↔∀ x∈l,p x=true:=by
 rw[<-ED];unfold fA;split
 ·rename_i h;simp[h]
 ·rename_i h;split
  ·simp[h]
  ·simp[h]
theorem uW{α:Type}{p:α->Bool}{l:List α}:fA (l.filter p).length l.length=2↔l≠[]/\∀ x∈l,p x=false:=by
 unfold fA;split
 ·rename_i h;simp only[show ¬(1:Int)=2 by omega,false_iff];rintro⟨h1,h2⟩;rw[ED] at h;cases l with
  |nil=>exact h1 rfl
  |cons x l =>
   have a:=h x (by simp);have b:=h2 x (by simp);rw[a] at b;cases b
 ·rename_i h;split
  ·rename_i h0;simp only[true_iff];refine⟨fun e=>?_,fun x hx=>?_⟩
   ·subst e;simp at h
   ·have:=List.eq_nil_of_length_eq_zero h0;rw[List.filter_eq_nil_iff] at this;simpa using this x hx
  ·rename_i h0;simp only[show ¬(0:Int)=2 by omega,false_iff];rintro⟨h1,h2⟩;apply h0;rw[List.length_eq_zero_iff,List.filter_eq_nil_iff];intro x hx;simp[h2 x hx]
theorem rB(a b:Nat):fA a b=0\/fA a b=1\/fA a b=2:=by
 unfold fA;split
 ·simp
 ·split<;>simp
theorem N4{α β:Type}{p:α->Bool}{q:β->Bool}{l:List α}{k:List β}(h1:∀ x∈l,∃ y∈k,q y=p x)(h2:∀ y∈k,∃ x∈l,p x=q y):fA (l.filter p).length l.length=fA (k.filter q).length k.length:=by
 have a:fA (l.filter p).length l.length=1↔fA (k.filter q).length k.length=1:=by
  rw[u5,u5];constructor
  ·intro h y hy;obtain⟨x,hx,e⟩:=h2 y hy;rw[<-e];exact h x hx
  ·intro h x hx;obtain⟨y,hy,e⟩:=h1 x hx;rw[<-e];exact h y hy
 have b:fA (l.filter p).length l.length=2↔fA (k.filter q).length k.length=2:=by
  rw[uW,uW];constructor
  ·rintro⟨hn,h⟩;refine⟨fun e=>?_,fun y hy=>?_⟩
   ·subst e;obtain⟨x,hx⟩:=List.exists_mem_of_ne_nil l hn;obtain⟨y,hy,_⟩:=h1 x hx;simp at hy
   ·obtain⟨x,hx,e⟩:=h2 y hy;rw[<-e];exact h x hx
  ·rintro⟨hn,h⟩;refine⟨fun e=>?_,fun x hx=>?_⟩
   ·subst e;obtain⟨y,hy⟩:=List.exists_mem_of_ne_nil k hn;obtain⟨x,hx,_⟩:=h2 y hy;simp at hx
   ·obtain⟨y,hy,e⟩:=h1 x hx;rw[<-e];exact h y hy
 rcases rB (l.filter p).length l.length with h|h|h<;>rcases rB (k.filter q).length k.length with h'|h'|h'<;>simp_all
theorem v4{a:Nat}(h:a<9223372036854775808):(BitVec.ofInt 64 (a:Int)).toNat=a:=by
 rw[BitVec.toNat_ofInt];omega
theorem aJ9(a b:Nat)(ha:a<4611686018427387904)(hb:b<4611686018427387904):gA .or (.int .i64 (a:Int)) (.int .i64 (b:Int))=some (.int .i64 ((a|||b:Nat):Int)):=by
 have h1:(BitVec.ofInt 64 (a:Int)|||BitVec.ofInt 64 (b:Int)).toNat=a|||b:=by rw[BitVec.toNat_or,v4 (by omega),v4 (by omega)]
 have h2:a|||b<2^62:=Nat.or_lt_two_pow (by omega) (by omega);have h3:Go.Am.bits .or .i64 (a:Int) (b:Int)=((a|||b:Nat):Int):=by
  show IntKind.i64.wrap (((BitVec.ofInt 64 (a:Int)|||BitVec.ofInt 64 (b:Int)).toNat:Nat):Int)=_
  rw[h1];exact cC ⟨by omega,by omega⟩
 simp[gA,mA,h3]
def EZ(a b:Nat):Nat:=a &&& (2^64-(b+1))
theorem MS{b:Nat}(hb:b<9223372036854775808)(a i:Nat)(ha:a<9223372036854775808):(EZ a b).testBit i=(a.testBit i&&!b.testBit i):=by
 rw[EZ,Nat.testBit_and,Nat.testBit_two_pow_sub_succ (by omega)];by_cases hi:i<64
 ·simp[hi]
 ·have:a.testBit i=false:=Nat.testBit_lt_two_pow (Nat.lt_of_lt_of_le (show a<2^63 by omega) (Nat.pow_le_pow_right (by omega) (by omega)));simp[this]
theorem PX(a b:Nat):EZ a b<=a:=Nat.and_le_left
theorem ML(a b:Nat)(ha:a<9223372036854775808)(hb:b<9223372036854775808):gA .andNot (.int .i64 (a:Int)) (.int .i64 (b:Int))=some (.int .i64 ((EZ a b:Nat):Int)):=by
 have h1:(BitVec.ofInt 64 (a:Int) &&& ~~~BitVec.ofInt 64 (b:Int)).toNat=EZ a b:=by
  rw[BitVec.toNat_and,BitVec.toNat_not,v4 ha,v4 hb,EZ]
  congr 1
  omega
 have h2:=PX a b;have h3:Go.Am.bits .andNot .i64 (a:Int) (b:Int)=((EZ a b:Nat):Int):=by
  show IntKind.i64.wrap (((BitVec.ofInt 64 (a:Int) &&& ~~~BitVec.ofInt 64 (b:Int)).toNat:Nat):Int)=_
  rw[h1];exact cC ⟨by omega,by omega⟩
 simp[gA,mA,h3]
theorem lQ{i:Nat}(h:i<=60):2^i<=1152921504606846976:=by
 calc 2^i<=2^60:=Nat.pow_le_pow_right (by omega) h
  _=1152921504606846976:=by decide
theorem wW(i:Nat)(h:i<=60):gA .shl (.int .i64 1) (.int .i64 (i:Int))=some (.int .i64 ((2^i:Nat):Int)):=by
 have hm:Nat.min i 64=i:=Nat.min_eq_left (by omega);have h0:¬(i:Int)<0:=by omega
 have hp:=lQ h;have hc:(1:Int)*2^i=((2^i:Nat):Int):=by rw[Int.one_mul];exact (Int.natCast_pow 2 i).symm
 simp only[gA,h0,if_false,IntKind.bits,Int.toNat_natCast,hm,hc];generalize 2^i=q at hp;rw[cC ⟨by omega,by omega⟩]
theorem y3(a i:Nat):a.testBit i=decide (a/2^i%2=1):=Nat.testBit_eq_decide_div_mod_eq
theorem Q7{n s:Nat}{x:Int}:x∈lst n s↔(0<=x/\x<n)/\s.testBit x.toNat=true:=by
 simp only[lst,List.mem_filter,cL,y3];constructor
 ·rintro⟨h1,h2⟩;exact⟨by omega,h2⟩
 ·rintro⟨h1,h2⟩;exact⟨by omega,h2⟩
theorem aEZ{n s i:Nat}(h:i<n):(lst n s).contains (i:Int)=s.testBit i:=by
 rw[Bool.eq_iff_iff,List.contains_iff_mem,Q7];simp only[Int.toNat_natCast];constructor
 ·rintro⟨_,h2⟩;exact h2
 ·intro h2;exact⟨⟨by omega,by omega⟩,h2⟩
theorem HZ(a:Nat):((a:Int)==0)=decide (a=0):=by rw[Bool.eq_iff_iff];simp
structure ButIs (b:Nat) (bl:List Int):Prop where
 lt:b<9223372036854775808
 bit:∀ i:Nat,i<5->(((b/2^i%2:Nat):Int)==0) = !bl.contains (i:Int)
theorem R6:ButIs 0 []:=⟨by omega,fun i hi=>by simp⟩
theorem aF0{n set:Nat}(hn:n<=5)(hs:set<2^n):ButIs set (lst n set):=by
 have hp:2^n<=2^5:=Nat.pow_le_pow_right (by omega) hn;refine⟨by omega,fun i hi=>?_⟩;have e:(((set/2^i%2:Nat):Int)==0) = !set.testBit i:=by
  rw[y3,HZ,Bool.eq_iff_iff];simp
 rw[e];by_cases h:i<n
 ·rw[aEZ h]
 ·have h1:set.testBit i=false:=Nat.testBit_lt_two_pow (Nat.lt_of_lt_of_le hs (Nat.pow_le_pow_right (by omega) (by omega)));have h2:(lst n set).contains (i:Int)=false:=by
   rw[Bool.eq_false_iff];intro hc;rw[List.contains_iff_mem,Q7] at hc;omega
  rw[h1,h2]
def pW{X:Type}(Z ZD:X->St)(r:X×Bool):St:=if r.2=true then Z r.1 else ZD r.1
def xS{A X:Type}(Z ZD:X->St)(id:Nat)(args:A->List AV)(P:A->Prop)(f:A->X->X×Bool):Prop :=
 ∀ t,P t->∀ x τ,Run T (.callv (.yield id) (args t) (Z x++τ)) fun o=>o.v = .bool (f t x).2/\∃ τ',o.σ=pW Z ZD (f t x)++(τ++τ')
variable {α:Type}
def nY(c:α->List AV):List α->List AV
 |[]=>[]
 |y::l=>c y++nY c l
structure Cells (enc:α->AV) (c:α->List AV) (sz:Nat):Prop where
 agg:∀ x,enc x = .agg (c x)
 len:∀ x,(c x).length=sz
 one:sz≠1/\sz≠0
 cell:∀ x,(c x).all (·.cell)=true
 data:∀ x,kZ (enc x)
variable {enc:α->AV} {c:α->List AV} {sz:Nat}
theorem AS(h:Cells enc c sz):∀ l,(nY c l).length=l.length*sz
 |[]=>by simp[nY]
 |y::l=>by simp only[nY,List.length_append,h.len,List.length_cons,AS h l,Nat.add_mul];omega
theorem GW(h:Cells enc c sz):∀ l:List α,(l.map enc).flatMap AV.cells=nY c l
 |[]=>rfl
 |y::l=>by rw[List.map_cons,List.flatMap_cons,GW h l,h.agg];rfl
theorem JQ(h:Cells enc c sz):∀ (l:List α) (k:Nat) (hk:k<l.length),((nY c l).drop (k*sz)).take sz=c l[k]
 |[],k,hk=>by simp at hk
 |y::l,0,hk=>by
  simp only[nY,Nat.zero_mul,List.drop_zero,List.getElem_cons_zero];rw[<-h.len y,List.take_left]
 |y::l,k+1,hk=>by
  have:=JQ h l k (by simpa using hk);have e:(k+1)*sz=(c y).length+k*sz:=by rw[h.len,Nat.add_mul];omega
  simp only[nY,e,List.getElem_cons_succ];rw[List.drop_append,List.drop_eq_nil_of_le (by omega),List.nil_append,Nat.add_sub_cancel_left];exact this
theorem GH(h:Cells enc c sz)(l:List α):aI sz (l.map enc)=true:=mJ sz enc l fun y=>by
 rw[h.agg];simp only[bI,AV.cells,h.len,beq_self_eq_true,Bool.true_and];exact h.cell y
theorem J7(h:Cells enc c sz){b:Nat}{σ:St}{l:List α}(h0:l≠[])(hl:l.length*b<=room)(hl2:l.length<=room):qN sz b σ (.lit [] true none) (.lit (l.map enc) false none)=some (.ref σ.length 0 l.length sz,σ++[.cells (nY c l)]):=by
 have h1:l.length≠0:=fun e=>h0 (List.length_eq_zero_iff.1 e)
 simp only[qN,j6,List.length_map,h1,if_false,List.length_nil,Nat.zero_add,List.nil_append,GW h];simp[wE,GH h,hl,hl2]
end Go.Am.Room
set_option maxRecDepth 8000
namespace Go.Am.Room.Fa
theorem nat_rem{a:Int}(ha:0<=a){n:Nat}(hn:0<n):∃ j:Nat,a.tmod (n:Int)=(j:Int)/\j<n:=by
 obtain⟨k,rfl⟩:∃ k:Nat,a=k:=⟨a.toNat,by omega⟩;refine⟨k%n,?_,Nat.mod_lt _ hn⟩;rw[Int.tmod_eq_emod_of_nonneg (by omega)];norm_cast
end Go.Am.Room.Fa
namespace Go.Am.Room.Tr
structure RailOk (v:Net) (r:Rail):Prop where
 a:0<=r.a/\r.a<v.stations
 b:0<=r.b/\r.b<v.stations
 ne:r.a≠r.b
 mins:1<=r.mins.lo/\r.mins.lo<=r.mins.hi/\r.mins.hi<=20/\r.mins.hi<=r.mins.lo+1
 shut:0<=r.shut/\r.shut<=2
structure Vd (v:Net):Prop where
 st:2<=v.stations/\v.stations<=5
 nra:v.rails.length<=5
 ra:∀ r∈v.rails,RailOk v r
 ntr:v.trams.length<=3
 tr:∀ i (h:i<v.trams.length),kN v i v.trams[i]=0
 nse:v.seen.length<=3
 se:∀ x∈v.seen,(0<=x.tram/\x.tram<v.trams.length)/\-1<=x.minute/\x.minute<=400
theorem pF{v:Net}{s:Int}:nS v s=true↔0<=s/\s<v.stations:=by
 rw[nS,cQ];omega
theorem FM{v:Net}{r:Rail}:cZ v r=0↔RailOk v r:=by
 constructor
 ·intro h;unfold cZ at h;split at h
  ·omega
  rename_i h1;split at h
  ·omega
  rename_i h2;split at h
  ·omega
  rename_i h3;split at h
  ·omega
  rename_i h4;rw[not_or,Bool.not_eq_false,Bool.not_eq_false,pF,pF] at h1;rw[not_or,Bool.not_eq_false,cQ] at h3;rw[not_or,Decidable.not_not] at h4;have:=vQ h4.1;exact⟨h1.1,h1.2,h2,by omega,h3.2⟩
 ·intro h;have h1:=h.mins;have e:=aFO (show 1<=r.mins.lo/\r.mins.lo<=r.mins.hi/\r.mins.hi<=20 by omega);rw[cZ,if_neg (by simp[pF.2 h.a,pF.2 h.b]),if_neg h.ne,if_neg (by simp[e,cQ.2 h.shut]),if_neg (by simp[e];omega)]
theorem vd_of_check{v:Net}(h:(check v).2.2=0):Vd v:=by
 unfold check at h;split at h
 ·simp at h
 rename_i c1;unfold jV at h;split at h
 ·simp at h
 rename_i c2;split at h
 ·rename_i i e he;exact absurd h (jH he)
 rename_i f2;unfold qZ at h;split at h
 ·simp at h
 rename_i c3;split at h
 ·rename_i i e he;exact absurd h (jH he)
 rename_i f3;unfold qY at h;split at h
 ·simp at h
 rename_i c4;split at h
 ·rename_i i e he;exact absurd h (jH he)
 rename_i f4;rw[Bool.not_eq_false,cQ] at c1;refine⟨c1,by omega,?_,by omega,fun i hi=>by simpa using mM f3 i hi,by omega,?_⟩
 ·intro x hx;obtain⟨k,hk,rfl⟩:=List.getElem_of_mem hx;exact FM.1 (mM f2 k hk)
 ·intro x hx;obtain⟨k,hk,rfl⟩:=List.getElem_of_mem hx;have:=mM f4 k hk;unfold lA at this;split at this
  ·omega
  rename_i hi;split at this
  ·omega
  rename_i hj;rw[Bool.not_eq_false,cQ] at hi hj;omega
structure TramOk (v:Net) (t:Tram):Prop where
 frm:0<=t.frm/\t.frm<v.stations
 leaves:0<=t.leaves/\t.leaves<=60
 due:0<=t.due/\t.due<=400
 len:1<=t.path.length/\t.path.length<=4
 path:∀ r∈t.path,0<=r/\r<v.rails.length
 leads:iT v t.frm t.path=true
theorem XF{v:Net}{t:Tram}(h:gT v t=0):TramOk v t:=by
 unfold gT at h;split at h
 ·omega
 rename_i h1;split at h
 ·omega
 rename_i h2;split at h
 ·omega
 rename_i h3;split at h
 ·omega
 rename_i h4;split at h
 ·omega
 rename_i h5;rw[Bool.not_eq_false] at h1 h3 h4 h5;rw[not_or,Bool.not_eq_false,Bool.not_eq_false,cQ,cQ] at h2;rw[pF] at h1;rw[cQ] at h3;rw[List.all_eq_true] at h4;exact⟨h1,h2.1,h2.2,by omega,fun r hr=>by have:=cQ.1 (h4 r hr);omega,h5⟩
theorem BP{v:Net}(h:Vd v){i:Nat}(hi:i<v.trams.length):TramOk v v.trams[i]:=by
 have:=h.tr i hi;unfold kN at this;split at this
 ·exact XF this
 ·rename_i h0;exact absurd this h0
theorem B3{v:Net}{r:Nat}(h:r<v.rails.length):eD v (r:Int)=v.rails[r]:=by simp[eD,h]
end Go.Am.Room.Tr
set_option maxRecDepth 4000
namespace Go.Am.Room.Tr
def bH:=zz @encNet_eq (zz @netCells_eq (zz @encRail_eq (zz @encTram_eq (zz @encSeen_eq (zz @aG (zz @S_mapRail (zz @S_mapTram (@S_mapSeen))))))))
theorem qV(v:Net)(s:Int)(hst:2<=v.stations/\v.stations<=5):cP T 309 [encNet v,.int .i64 s] (.bool (nS v s)):=by
 refine aQ (af:=YL) rfl (by simp[YL]) dd ?_;have hw:IntKind.i64.wrap (v.stations-1)=v.stations-1:=cC ⟨by omega,by omega⟩;try simp only[↓QA,QB,seval,bH,YL,hw]
 (refine aC (gP s 0 (v.stations-1)) rfl dd ?_;try simp only[↓QA,QB,seval,bH,nS])
theorem U1(r:Rail)(s:Int):cP T 415 [encRail r,.int .i64 s] (.int .i64 (dB r s)):=by
 refine aQ (af:=UV) rfl (by simp[UV]) dd ?_;try simp only[↓QA,QB,seval,bH,UV]
 cases h1:(s==r.a)
 ·have h1':s≠r.a:=by simpa using h1
  try simp only[↓QA,QB,seval,bH,h1]
  cases h2:(s==r.b)
  ·have h2':s≠r.b:=by simpa using h2
   try simp only[↓QA,QB,seval,bH,h2]
   simp[dB,h1',h2']
  ·have h2':s=r.b:=by simpa using h2
   try simp only[↓QA,QB,seval,bH,h2]
   simp only[dB,if_neg h1',if_pos h2']
 ·have h1':s=r.a:=by simpa using h1
  try simp only[↓QA,QB,seval,bH,h1]
  simp only[dB,if_pos h1']
theorem Y0(v:Net)(r:Rail)(hst:2<=v.stations/\v.stations<=5):cP T 171 [encNet v,encRail r] (.int .i64 (cZ v r)):=by
 refine aQ (af:=aCV) rfl (by simp[aCV]) dd ?_;try simp only[↓QA,QB,seval,bH,aCV]
 (refine aC (qV v r.a hst) rfl dd ?_;try simp only[↓QA,QB,seval,bH])
 cases h1:nS v r.a
 ·try simp only[↓QA,QB,seval,bH]
  simp[cZ,h1]
 ·try simp only[↓QA,QB,seval,bH]
  (refine aC (qV v r.b hst) rfl dd ?_;try simp only[↓QA,QB,seval,bH])
  cases h2:nS v r.b
  ·try simp only[↓QA,QB,seval,bH]
   simp[cZ,h2]
  ·try simp only[↓QA,QB,seval,bH]
   cases h3:(r.a==r.b)
   ·have h3':r.a≠r.b:=by simpa using h3
    try simp only[↓QA,QB,seval,bH,h3]
    (refine aC (H4 r.mins 1 20) rfl dd ?_;try simp only[↓QA,QB,seval,bH])
    cases h4:(kG r.mins 1 20==7)
    ·have h4':kG r.mins 1 20≠7:=by simpa using h4
     try simp only[↓QA,QB,seval,bH,h4]
     (refine aC (gP r.shut 0 2) rfl dd ?_;try simp only[↓QA,QB,seval,bH])
     cases h5:inR r.shut 0 2
     ·try simp only[↓QA,QB,seval,bH]
      simp[cZ,h1,h2,h3',h5]
     ·cases h6:(kG r.mins 1 20==0)
      ·have h6':kG r.mins 1 20≠0:=by simpa using h6
       try simp only[↓QA,QB,seval,bH,h6]
       simp[cZ,h1,h2,h3',h4',h5,h6']
      ·have h6':kG r.mins 1 20=0:=by simpa using h6
       have hb:=vQ h6';have hw:IntKind.i64.wrap (r.mins.lo+1)=r.mins.lo+1:=cC ⟨by omega,by omega⟩;cases h7:decide (r.mins.lo+1<r.mins.hi)
       ·have h7':¬r.mins.lo+1<r.mins.hi:=by simpa using h7
        try simp only[↓QA,QB,seval,bH,h6,hw,h7]
        simp[cZ,h1,h2,h3',h5,h6',h7']
       ·have h7':r.mins.lo+1<r.mins.hi:=by simpa using h7
        try simp only[↓QA,QB,seval,bH,h6,hw,h7]
        simp[cZ,h1,h2,h3',h5,h6',h7']
    ·have h4':kG r.mins 1 20=7:=by simpa using h4
     try simp only[↓QA,QB,seval,bH,h4]
     simp[cZ,h1,h2,h3',h4']
   ·have h3':r.a=r.b:=by simpa using h3
    try simp only[↓QA,QB,seval,bH,h3]
    rw[cZ,if_neg (by simp[h1,h2]),if_pos h3']
theorem N6{v:Net}{p:List Int}{k:Nat}(hk:k<p.length)(s:Int)(met:List Int):k9 v (p.drop k) s met=if dB (eD v p[k]) s<0\/met.contains (dB (eD v p[k]) s)=true\/(dB (eD v p[k]) s=0/\k+1<p.length) then false
  else k9 v (p.drop (k+1)) (dB (eD v p[k]) s) (met++[dB (eD v p[k]) s]):=by
 rw[List.drop_eq_getElem_cons hk,k9];have:p.drop (k+1)≠[]↔k+1<p.length:=by
  rw[Ne,List.drop_eq_nil_iff];omega
 simp only[this]
theorem FX(v:Net)(s:Int)(p:List Int)(hp:∀ r∈p,0<=r/\r<v.rails.length)(hl:p.length<9223372036854775808):cP T 310 [encNet v,.int .i64 s,ints p] (.bool (iT v s p)):=by
 refine aQ (af:=WF) rfl (by simp[WF]) dd ?_
 (repeat (first|simp only[↓QA,QB,seval,bH,WF]|refine rd0 rfl ?_))
 ((first|refine aC (gP p.length 1 4) rfl dd ?_|refine aS (gP p.length 1 4) rfl dd ?_);(repeat (first|simp only[↓QA,QB,seval,bH]|refine rd0 rfl ?_)))
 cases h1:inR p.length 1 4
 ·(repeat (first|simp only[↓QA,QB,seval,bH]|refine rd0 rfl ?_))
  simp[iT,h1]
 ·have hpl:=cQ.1 h1;cases h2:(s==0)
  case' true =>
   have h2':s=0:=by simpa using h2
   (repeat (first|simp only[↓QA,QB,seval,bH,h2]|refine rd0 rfl ?_))
   simp[iT,h1,h2']
  have h2':s≠0:=by simpa using h2
  obtain⟨B,hB⟩:∃ B,iT v s p=B:=⟨_,rfl⟩;have hB2:k9 v p s [s]=B:=by rw[<-hB,iT,if_neg (by simp[h1,h2'])]
  rw[hB]
  (repeat (first|simp only[↓QA,QB,seval,bH,h2]|refine rd0 rfl ?_))
  refine kT 7 1 [.int .i64 s] rfl ?_;refine bS (S:=Nat×Int×List Int×Bool) (0,s,[s],false) (fun a=>a.1<=p.length/\a.2.2.1.length=a.1+1/\k9 v (p.drop a.1) a.2.1 a.2.2.1=B) (fun a=>p.length-a.1)
   (fun a=>[(1,.int .i64 a.2.1),(2,ints p),(3,.ptr 0 0),(7,.lit (a.2.2.1.map (.int .i64)) false (some 1)),(8,.int .i64 a.1)]) (fun a=>[.cells (netCells v),.tok 1 (a.1+1) a.2.2.2]) ⟨by simp,by simp,by simpa using hB2⟩ (by simp[netCells,ints]) ?_ fun a ha=>?_
  ·try simp only[aB,QE,seval,bH]
   try simp
  ·obtain⟨k,c,met,ex⟩:=a;obtain⟨hk,hm,hgo⟩:=ha;simp only at hk hm hgo
   (repeat (first|simp only[↓QA,QB,seval,bH,UW]|refine rd0 rfl ?_))
   refine aE (fun h=>?_) fun h=>?_
   ·have hk1:k<p.length:=by simpa using h
    have hw:=bL hk1 (by omega);rw[N6 hk1] at hgo;have hpr:=hp _ (List.getElem_mem hk1);obtain⟨R,hR⟩:∃ R:Nat,p[k]=(R:Int):=⟨p[k].toNat,by omega⟩;rw[hR] at hpr hgo;have hRl:R<v.rails.length:=by omega
    rw[B3 hRl] at hgo;obtain⟨z,hz⟩:∃ z,v.rails[R]=z:=⟨_,rfl⟩;rw[hz] at hgo;have hov:=U1 z c;obtain⟨o,ho⟩:∃ o,dB z c=o:=⟨_,rfl⟩;rw[ho] at hgo hov;have hap:=fun (b0:ABlk) (τ:St)=>uJ (σ:=b0::.tok 1 (k+1) ex::τ) (l:=met) (a:=o) (ex:=ex) (t:=1) (by omega) (by rw[hm];rfl)
    rw[hm] at hap
    (repeat (first|simp only[↓QA,QB,seval,bH,hk1,hR,hRl,hz]|refine rd0 rfl ?_))
    ((first|refine aC (hov) rfl dd ?_|refine aS (hov) rfl dd ?_);(repeat (first|simp only[↓QA,QB,seval,bH,hk1,hR,hRl,hz]|refine rd0 rfl ?_)))
    cases q1:decide (o<0)
    ·have q1':¬o<0:=by simpa using q1
     (repeat (first|simp only[↓QA,QB,seval,bH,q1]|refine rd0 rfl ?_))
     ((first|refine sU (I9 met o (by omega)) (by try simp only[QS,QC,seval,bH]) trivial ?_|refine xV (I9 met o (by omega)) (by try simp only[QS,QC,seval,bH]) trivial ?_);(repeat (first|simp only[↓QA,QB,seval,bH,q1]|refine rd0 rfl ?_)))
     cases q2:met.contains o
     ·cases q3:(o==0)
      ·have q3':o≠0:=by simpa using q3
       rw[if_neg (by rw[q2];simp[q1',q3'])] at hgo
       (repeat (first|simp only[↓QA,QB,seval,bH,q3,hap,hw]|refine rd0 rfl ?_))
       refine⟨(k+1,o,met++[o],true),⟨by simp only;omega,by simp[hm],hgo⟩,by simp only;omega,?_⟩;try simp only[aB,QE,seval,bH,hw,sO,List.map_append,List.map_cons,List.map_nil]
       try simp[aJ]
      ·have q3':o=0:=by simpa using q3
       cases q4:decide (((k+1:Nat):Int)<(p.length:Int))
       ·have q4':¬k+1<p.length:=by have:=of_decide_eq_false q4;omega
        rw[if_neg (by rw[q2];simp[q1',q4'])] at hgo
        (repeat (first|simp only[↓QA,QB,seval,bH,q3,hap,hw,q4]|refine rd0 rfl ?_))
        refine⟨(k+1,o,met++[o],true),⟨by simp only;omega,by simp[hm],hgo⟩,by simp only;omega,?_⟩;try simp only[aB,QE,seval,bH,hw,sO,List.map_append,List.map_cons,List.map_nil]
        try simp[aJ]
       ·have q4':k+1<p.length:=by
         have:=of_decide_eq_true q4;omega
        rw[if_pos (.inr (.inr ⟨q3',q4'⟩))] at hgo
        (repeat (first|simp only[↓QA,QB,seval,bH,q3,hw,q4,<-hgo]|refine rd0 rfl ?_))
     ·rw[if_pos (.inr (.inl q2))] at hgo
      (repeat (first|simp only[↓QA,QB,seval,bH,<-hgo]|refine rd0 rfl ?_))
    ·have q1':o<0:=by simpa using q1
     rw[if_pos (.inl q1')] at hgo
     (repeat (first|simp only[↓QA,QB,seval,bH,q1,<-hgo]|refine rd0 rfl ?_))
   ·have hk1:k=p.length:=by simp at h;omega
    rw[hk1,List.drop_length,k9] at hgo
    (repeat (first|simp only[↓QA,QB,seval,bH,hgo]|refine rd0 rfl ?_))
end Go.Am.Room.Tr
namespace Go.Am.Room.Tr
def aT:=zz @encNet_eq (zz @netCells_eq (zz @encRail_eq (zz @encTram_eq (zz @encSeen_eq (zz @aG (zz @S_mapRail (zz @S_mapTram (@S_mapSeen))))))))
def enc3(x:Int×Int×Int):AV:=.tuple [.int .i64 x.1,.int .i64 x.2.1,.int .i64 x.2.2]
theorem aBU(v:Net)(t:Tram)(hst:2<=v.stations/\v.stations<=5)(hnr:v.rails.length<=5):cP T 172 [encNet v,encTram t] (.int .i64 (gT v t)):=by
 refine aQ (af:=UJ) rfl (by simp[UJ]) dd ?_
 (repeat (first|simp only[↓QA,QB,reduceLT,reduceIte,reduceEqDiff,reduceAdd,reduceLeDiff,reduceMul,Nat.reduceBEq,aT,UJ]|refine rd0 rfl ?_))
 ((first|refine aC (qV v t.frm hst) rfl dd ?_|refine aS (qV v t.frm hst) rfl dd ?_);(repeat (first|simp only[↓QA,QB,reduceLT,reduceIte,reduceEqDiff,reduceAdd,reduceLeDiff,reduceMul,Nat.reduceBEq,aT]|refine rd0 rfl ?_)))
 cases h1:nS v t.frm
 ·(repeat (first|simp only[↓QA,QB,reduceLT,reduceIte,reduceEqDiff,reduceAdd,reduceLeDiff,reduceMul,Nat.reduceBEq,aT]|refine rd0 rfl ?_))
  simp[gT,h1]
 ·(repeat (first|simp only[↓QA,QB,reduceLT,reduceIte,reduceEqDiff,reduceAdd,reduceLeDiff,reduceMul,Nat.reduceBEq,aT]|refine rd0 rfl ?_))
  ((first|refine aC (gP t.leaves 0 60) rfl dd ?_|refine aS (gP t.leaves 0 60) rfl dd ?_);(repeat (first|simp only[↓QA,QB,reduceLT,reduceIte,reduceEqDiff,reduceAdd,reduceLeDiff,reduceMul,Nat.reduceBEq,aT]|refine rd0 rfl ?_)))
  cases h2:inR t.leaves 0 60
  ·(repeat (first|simp only[↓QA,QB,reduceLT,reduceIte,reduceEqDiff,reduceAdd,reduceLeDiff,reduceMul,Nat.reduceBEq,aT]|refine rd0 rfl ?_))
   simp[gT,h1,h2]
  ·(repeat (first|simp only[↓QA,QB,reduceLT,reduceIte,reduceEqDiff,reduceAdd,reduceLeDiff,reduceMul,Nat.reduceBEq,aT]|refine rd0 rfl ?_))
   ((first|refine aC (gP t.due 0 400) rfl dd ?_|refine aS (gP t.due 0 400) rfl dd ?_);(repeat (first|simp only[↓QA,QB,reduceLT,reduceIte,reduceEqDiff,reduceAdd,reduceLeDiff,reduceMul,Nat.reduceBEq,aT]|refine rd0 rfl ?_)))
   cases h3:inR t.due 0 400
   ·(repeat (first|simp only[↓QA,QB,reduceLT,reduceIte,reduceEqDiff,reduceAdd,reduceLeDiff,reduceMul,Nat.reduceBEq,aT]|refine rd0 rfl ?_))
    simp[gT,h1,h2,h3]
   ·(repeat (first|simp only[↓QA,QB,reduceLT,reduceIte,reduceEqDiff,reduceAdd,reduceLeDiff,reduceMul,Nat.reduceBEq,aT]|refine rd0 rfl ?_))
    ((first|refine aC (gP t.path.length 1 4) rfl dd ?_|refine aS (gP t.path.length 1 4) rfl dd ?_);(repeat (first|simp only[↓QA,QB,reduceLT,reduceIte,reduceEqDiff,reduceAdd,reduceLeDiff,reduceMul,Nat.reduceBEq,aT]|refine rd0 rfl ?_)))
    cases h4:inR t.path.length 1 4
    ·(repeat (first|simp only[↓QA,QB,reduceLT,reduceIte,reduceEqDiff,reduceAdd,reduceLeDiff,reduceMul,Nat.reduceBEq,aT]|refine rd0 rfl ?_))
     simp[gT,h1,h2,h3,h4]
    ·have hpl:=cQ.1 h4;have hwl:IntKind.i64.wrap ((v.rails.length:Int)-1)=(v.rails.length:Int)-1:=cC ⟨by omega,by omega⟩;obtain⟨q,hq⟩:∃ q:Int->Bool,(fun r=>inR r 0 ((v.rails.length:Int)-1))=q:=⟨_,rfl⟩;have hqr:∀ r,inR r 0 ((v.rails.length:Int)-1)=q r:=fun r=>by rw[<-hq]
     have hE:gT v t=if t.path.all q=false then 4 else if iT v t.frm t.path=false then 2 else 0:=by
      rw[gT,if_neg (by simp[h1]),if_neg (by simp[h2,h3]),if_neg (by simp[h4]),hq]
     rw[hE]
     (repeat (first|simp only[↓QA,QB,reduceLT,reduceIte,reduceEqDiff,reduceAdd,reduceLeDiff,reduceMul,Nat.reduceBEq,aT]|refine rd0 rfl ?_))
     refine bS (S:=Nat) 0 (fun k=>k<=t.path.length/\(t.path.drop k).all q=t.path.all q) (fun k=>t.path.length-k)
      (fun k=>[(2,.ptr 0 0),(3,.ptr 1 0),(5,.int .i64 k)]) (fun _=>[.cells (netCells v),.cells [.str t.name,.int .i64 t.frm,.int .i64 t.leaves,.int .i64 t.due,ints t.path]]) ⟨by simp,by simp⟩ (by simp[netCells,ints]) ?_ fun k hk=>?_
     ·try simp only[aB,QE,reduceLT,reduceIte,reduceEqDiff,reduceAdd,reduceLeDiff,reduceMul,Nat.reduceBEq,aT]
      try simp
     ·obtain⟨hk,hb⟩:=hk
      (repeat (first|simp only[↓QA,QB,reduceLT,reduceIte,reduceEqDiff,reduceAdd,reduceLeDiff,reduceMul,Nat.reduceBEq,aT,VY]|refine rd0 rfl ?_))
      refine aE (fun h=>?_) fun h=>?_
      ·have hk1:k<t.path.length:=by simpa using h
       have hw:=bL hk1 (by omega);rw[List.drop_eq_getElem_cons hk1,List.all_cons] at hb;obtain⟨r,hr⟩:∃ r,t.path[k]=r:=⟨_,rfl⟩;rw[hr] at hb;have hin:=gP r 0 ((v.rails.length:Int)-1);rw[hqr r] at hin
       (repeat (first|simp only[↓QA,QB,reduceLT,reduceIte,reduceEqDiff,reduceAdd,reduceLeDiff,reduceMul,Nat.reduceBEq,aT,hk1,hr,hwl]|refine rd0 rfl ?_))
       ((first|refine aC (hin) rfl dd ?_|refine aS (hin) rfl dd ?_);(repeat (first|simp only[↓QA,QB,reduceLT,reduceIte,reduceEqDiff,reduceAdd,reduceLeDiff,reduceMul,Nat.reduceBEq,aT,hk1,hr,hwl]|refine rd0 rfl ?_)))
       cases h5:q r
       ·rw[h5,Bool.false_and] at hb
        (repeat (first|simp only[↓QA,QB,reduceLT,reduceIte,reduceEqDiff,reduceAdd,reduceLeDiff,reduceMul,Nat.reduceBEq,aT,<-hb]|refine rd0 rfl ?_))
       ·rw[h5,Bool.true_and] at hb
        (repeat (first|simp only[↓QA,QB,reduceLT,reduceIte,reduceEqDiff,reduceAdd,reduceLeDiff,reduceMul,Nat.reduceBEq,aT,hw]|refine rd0 rfl ?_))
        refine⟨k+1,⟨by omega,hb⟩,by omega,?_⟩;try simp only[aB,QE,reduceLT,reduceIte,reduceEqDiff,reduceAdd,reduceLeDiff,reduceMul,Nat.reduceBEq,aT,hw]
        try simp[aJ]
      ·have hk1:k=t.path.length:=by simp at h;omega
       rw[hk1,List.drop_length,List.all_nil] at hb;have hp:∀ r∈t.path,0<=r/\r<v.rails.length:=fun r hr=>by
        have:=List.all_eq_true.1 hb.symm r hr;rw[<-hqr,cQ] at this;omega
       (repeat (first|simp only[↓QA,QB,reduceLT,reduceIte,reduceEqDiff,reduceAdd,reduceLeDiff,reduceMul,Nat.reduceBEq,aT]|refine rd0 rfl ?_))
       ((first|refine aC (FX v t.frm t.path hp (by omega)) rfl dd ?_|refine aS (FX v t.frm t.path hp (by omega)) rfl dd ?_);(repeat (first|simp only[↓QA,QB,reduceLT,reduceIte,reduceEqDiff,reduceAdd,reduceLeDiff,reduceMul,Nat.reduceBEq,aT]|refine rd0 rfl ?_)))
       cases h6:iT v t.frm t.path
       ·(repeat (first|simp only[↓QA,QB,reduceLT,reduceIte,reduceEqDiff,reduceAdd,reduceLeDiff,reduceMul,Nat.reduceBEq,aT,<-hb]|refine rd0 rfl ?_))
        rfl
       ·(repeat (first|simp only[↓QA,QB,reduceLT,reduceIte,reduceEqDiff,reduceAdd,reduceLeDiff,reduceMul,Nat.reduceBEq,aT,<-hb]|refine rd0 rfl ?_))
        rfl
theorem w7{k:Nat}{ns:List ByteArray}{s:ByteArray}{b:ABlk}{ex:Bool}{τ:St}(hk:ns.length=k)(hn:k<16):dH 1 16 (b::.tok 1 k ex::τ) (.lit (ns.map .str) false (some 1)) (.lit [.str s] true none)=some (.lit ((ns++[s]).map .str) false (some 1),b::.tok 1 (k+1) true::τ):=by
 rw[vF (ex:=ex) ⟨mJ 1 _ ns (fun x=>UN _),by simp[aI,AV.cells,AV.cell],by simp[room,hk];omega,by simp[room,hk];omega⟩ (by simp) (by simp[hk])];simp[hk]
theorem zT{v:Net}{k:Nat}(h:k<v.trams.length):(v.trams.take (k+1)).map Tram.name=(v.trams.take k).map Tram.name++[v.trams[k].name]:=by
 rw[List.take_succ_eq_append_getElem h,List.map_append];rfl
theorem refcheck_ok(v:Net)(h:Fits v):cP T 45 [encNet v] (enc3 (check v)):=by
 refine aQ (af:=a45) rfl (by simp[a45]) dd ?_;have hfr:=h.rails;have hft:=h.trams;have hfs:=h.seen
 (repeat (first|simp only[↓QA,QB,seval,aT,a45]|refine rd0 rfl ?_))
 ((first|refine aC (gP v.stations 2 5) rfl dd ?_|refine aS (gP v.stations 2 5) rfl dd ?_);(repeat (first|simp only[↓QA,QB,seval,aT]|refine rd0 rfl ?_)))
 cases h1:inR v.stations 2 5
 ·(repeat (first|simp only[↓QA,QB,seval,aT]|refine rd0 rfl ?_))
  simp[check,h1,enc3]
 ·have hst:=cQ.1 h1;have hc:check v=jV v:=by simp only[check,h1,Bool.true_eq_false,if_false]
  rw[hc]
  (repeat (first|simp only[↓QA,QB,seval,aT]|refine rd0 rfl ?_))
  cases h2:decide ((5:Int)<(v.rails.length:Int))
  case' true =>
   have h2':5<v.rails.length:=by first|(have:=of_decide_eq_false h2;omega)|(have:=of_decide_eq_true h2;omega)
   (repeat (first|simp only[↓QA,QB,seval,aT]|refine rd0 rfl ?_))
   simp[jV,h2',enc3]
  have h2':¬5<v.rails.length:=by first|(have:=of_decide_eq_false h2;omega)|(have:=of_decide_eq_true h2;omega)
  have hc:jV v=match bC (fun _ r=>cZ v r) v.rails 0 with|some (i,e)=>(2,(i:Int),e)|none=>qZ v:=by simp only[jV,h2',if_false];try rfl
  rw[hc]
  (repeat (first|simp only[↓QA,QB,seval,aT]|refine rd0 rfl ?_))
  refine bS (S:=Nat) 0 (fun k=>k<=v.rails.length/\bC (fun _ r=>cZ v r) (v.rails.drop k) k=bC (fun _ r=>cZ v r) v.rails 0) (fun k=>v.rails.length-k)
   (fun k=>[(1,.ptr 0 0),(5,.int .i64 k)]) (fun _=>[.cells (netCells v)]) ⟨Nat.zero_le _,by simp⟩ (by simp[netCells,ints]) ?_ fun k hs=>?_
  ·try simp only[aB,QE,seval,aT]
   try simp
  ·obtain⟨hk,hb⟩:=hs
   (repeat (first|simp only[↓QA,QB,seval,aT,aH0]|refine rd0 rfl ?_))
   refine aE (fun hd=>?_) fun hd=>?_
   ·have hk1:k<v.rails.length:=by simpa using hd
    rw[iM hk1] at hb;have hw:=bL hk1 hfr;obtain⟨z,hz⟩:∃ z,v.rails[k]=z:=⟨_,rfl⟩;rw[hz] at hb;have hra:=Y0 v z hst;obtain⟨E,hE⟩:∃ E,cZ v z=E:=⟨_,rfl⟩;rw[hE] at hb hra
    (repeat (first|simp only[↓QA,QB,seval,aT,hk1,hz]|refine rd0 rfl ?_))
    ((first|refine aC (hra) rfl dd ?_|refine aS (hra) rfl dd ?_);(repeat (first|simp only[↓QA,QB,seval,aT,hk1,hz]|refine rd0 rfl ?_)))
    cases hf:(E==0)
    ·have hf':E≠0:=by simpa using hf
     rw[if_neg hf'] at hb;rw[<-hb]
     (repeat (first|simp only[↓QA,QB,seval,aT,hf]|refine rd0 rfl ?_))
     rfl
    ·have hf':E=0:=by simpa using hf
     rw[if_pos hf'] at hb
     (repeat (first|simp only[↓QA,QB,seval,aT,hf,hw]|refine rd0 rfl ?_))
     refine⟨k+1,⟨by omega,hb⟩,by omega,?_⟩;try simp only[aB,QE,seval,aT,hw]
     try simp[aJ]
   ·have hk1:k=v.rails.length:=by simp at hd;omega
    rw[jK hk1] at hb;rw[<-hb]
    (repeat (first|simp only[↓QA,QB,seval,aT]|refine rd0 rfl ?_))
    cases h6:decide ((3:Int)<(v.trams.length:Int))
    case' true =>
     have h6':3<v.trams.length:=by first|(have:=of_decide_eq_false h6;omega)|(have:=of_decide_eq_true h6;omega)
     (repeat (first|simp only[↓QA,QB,seval,aT]|refine rd0 rfl ?_))
     simp[qZ,h6',enc3]
    have h6':¬3<v.trams.length:=by first|(have:=of_decide_eq_false h6;omega)|(have:=of_decide_eq_true h6;omega)
    have hc:qZ v=match bC (kN v) v.trams 0 with|some (i,e)=>(3,(i:Int),e)|none=>qY v:=by simp only[qZ,h6',if_false];try rfl
    rw[hc]
    (repeat (first|simp only[↓QA,QB,seval,aT]|refine rd0 rfl ?_))
    refine kT 7 1 [] rfl ?_;refine bS (S:=Nat×Bool) (0,false) (fun s=>s.1<=v.trams.length/\bC (kN v) (v.trams.drop s.1) s.1=bC (kN v) v.trams 0) (fun s=>v.trams.length-s.1)
     (fun s=>[(1,.ptr 0 0),(7,.lit (((v.trams.take s.1).map Tram.name).map .str) false (some 1)),(8,.int .i64 s.1)]) (fun s=>[.cells (netCells v),.tok 1 s.1 s.2]) ⟨Nat.zero_le _,by simp⟩ (by simp[netCells,ints]) ?_ fun s hs=>?_
    ·try simp only[aB,QE,seval,aT]
     try simp
    ·obtain⟨k,ex⟩:=s;obtain⟨hk,hb⟩:=hs;simp only at hk hb;have hlen:((v.trams.take k).map Tram.name).length=k:=by simp[hk]
     (repeat (first|simp only[↓QA,QB,seval,aT,aII]|refine rd0 rfl ?_))
     refine aE (fun hd=>?_) fun hd=>?_
     ·have hk1:k<v.trams.length:=by simpa using hd
      rw[iM hk1] at hb;have hw:=bL hk1 hft;have hap:=fun (τ:St)=>w7 (k:=k) (ns:=(v.trams.take k).map Tram.name) (s:=v.trams[k].name) (b:=.cells (netCells v)) (ex:=ex) (τ:=τ) hlen (by omega)
      simp only[netCells_eq] at hap;have hset:kN v k v.trams[k]=if fresh v.trams[k].name ((v.trams.take k).map Tram.name)=0 then gT v v.trams[k] else fresh v.trams[k].name ((v.trams.take k).map Tram.name):=rfl
      have hfre:=KE v.trams[k].name ((v.trams.take k).map Tram.name) (h.names _ (List.getElem_mem hk1)) (by rw[hlen];omega);have htn:=zT hk1;obtain⟨p,hpe⟩:∃ p,v.trams[k]=p:=⟨_,rfl⟩;rw[hpe] at hset hap hb htn hfre;obtain⟨F,hF⟩:∃ F,fresh p.name ((v.trams.take k).map Tram.name)=F:=⟨_,rfl⟩;rw[hF] at hset hfre;have htr:=aBU v p hst (by omega);obtain⟨E,hE⟩:∃ E,gT v p=E:=⟨_,rfl⟩;rw[hE] at htr hset
      (repeat (first|simp only[↓QA,QB,seval,aT,hk1,hpe]|refine rd0 rfl ?_))
      ((first|refine sU (hfre) (by try simp only[QS,QC,seval,aT]) trivial ?_|refine xV (hfre) (by try simp only[QS,QC,seval,aT]) trivial ?_);(repeat (first|simp only[↓QA,QB,seval,aT,hk1,hpe,hap]|refine rd0 rfl ?_)))
      cases hf:(F==0)
      ·have hf':F≠0:=by simpa using hf
       rw[if_neg hf'] at hset;rw[hset,if_neg hf'] at hb;rw[<-hb]
       (repeat (first|simp only[↓QA,QB,seval,aT,hf]|refine rd0 rfl ?_))
       rfl
      ·have hf':F=0:=by simpa using hf
       rw[if_pos hf'] at hset;rw[hset] at hb
       (repeat (first|simp only[↓QA,QB,seval,aT,hf,hk1,hpe]|refine rd0 rfl ?_))
       ((first|refine aC (htr) rfl dd ?_|refine aS (htr) rfl dd ?_);(repeat (first|simp only[↓QA,QB,seval,aT,hk1,hpe]|refine rd0 rfl ?_)))
       cases h9:(E==0)
       ·have h9':E≠0:=by simpa using h9
        rw[if_neg h9'] at hb
        (repeat (first|simp only[↓QA,QB,seval,aT,h9]|refine rd0 rfl ?_))
        rw[<-hb];rfl
       ·have h9':E=0:=by simpa using h9
        rw[if_pos h9'] at hb
        (repeat (first|simp only[↓QA,QB,seval,aT,h9,hw]|refine rd0 rfl ?_))
        refine⟨(k+1,true),⟨by simp only;omega,hb⟩,by simp only;omega,?_⟩;try simp only[aB,QE,seval,aT,htn,hw]
        try simp[aJ]
     ·have hk1:k=v.trams.length:=by simp at hd;omega
      rw[jK hk1] at hb;rw[<-hb,hk1]
      (repeat (first|simp only[↓QA,QB,seval,aT]|refine rd0 rfl ?_))
      cases h7:decide ((3:Int)<(v.seen.length:Int))
      case' true =>
       have h7':3<v.seen.length:=by first|(have:=of_decide_eq_false h7;omega)|(have:=of_decide_eq_true h7;omega)
       (repeat (first|simp only[↓QA,QB,seval,aT]|refine rd0 rfl ?_))
       simp[qY,h7',enc3]
      have h7':¬3<v.seen.length:=by first|(have:=of_decide_eq_false h7;omega)|(have:=of_decide_eq_true h7;omega)
      have hc:qY v=match bC (lA v) v.seen 0 with|some (i,e)=>(4,(i:Int),e)|none=>(0,0,0):=by simp only[qY,h7',if_false];try rfl
      rw[hc];have hwl:IntKind.i64.wrap ((v.trams.length:Int)-1)=(v.trams.length:Int)-1:=cC ⟨by omega,by omega⟩
      (repeat (first|simp only[↓QA,QB,seval,aT]|refine rd0 rfl ?_))
      refine bS (S:=Nat) 0 (fun k=>k<=v.seen.length/\bC (lA v) (v.seen.drop k) k=bC (lA v) v.seen 0) (fun k=>v.seen.length-k)
       (fun k=>[(1,.ptr 0 0),(10,.int .i64 k)]) (fun _=>[.cells (netCells v),.tok 1 v.trams.length ex]) ⟨Nat.zero_le _,by simp⟩ (by simp[netCells,ints]) ?_ fun m hm=>?_
      ·try simp only[aB,QE,seval,aT]
       try simp
      ·obtain⟨hm,hbm⟩:=hm
       (repeat (first|simp only[↓QA,QB,seval,aT,aIN]|refine rd0 rfl ?_))
       refine aE (fun hd3=>?_) fun hd3=>?_
       ·have hm1:m<v.seen.length:=by simpa using hd3
        rw[iM hm1] at hbm;have hw3:=bL hm1 hfs;obtain⟨x,hx⟩:∃ x,v.seen[m]=x:=⟨_,rfl⟩;rw[hx] at hbm;have hle:lA v m x=if inR x.tram 0 ((v.trams.length:Int)-1)=false then 4 else if inR x.minute (-1) 400=false then 7 else 0:=rfl
        rw[hle] at hbm
        (repeat (first|simp only[↓QA,QB,seval,aT,hm1,hx,hwl]|refine rd0 rfl ?_))
        ((first|refine aC (gP x.tram 0 ((v.trams.length:Int)-1)) rfl dd ?_|refine aS (gP x.tram 0 ((v.trams.length:Int)-1)) rfl dd ?_);(repeat (first|simp only[↓QA,QB,seval,aT,hm1,hx,hwl]|refine rd0 rfl ?_)))
        cases hi:inR x.tram 0 ((v.trams.length:Int)-1)
        ·rw[hi] at hbm
         (repeat (first|simp only[↓QA,QB,seval,aT,hm1]|refine rd0 rfl ?_))
         rw[<-hbm];rfl
        ·rw[hi] at hbm;simp only[Bool.true_eq_false,if_false] at hbm
         (repeat (first|simp only[↓QA,QB,seval,aT,hm1,hx]|refine rd0 rfl ?_))
         ((first|refine aC (gP x.minute (-1) 400) rfl dd ?_|refine aS (gP x.minute (-1) 400) rfl dd ?_);(repeat (first|simp only[↓QA,QB,seval,aT,hm1,hx]|refine rd0 rfl ?_)))
         cases hi2:inR x.minute (-1) 400
         ·rw[hi2] at hbm
          (repeat (first|simp only[↓QA,QB,seval,aT,hm1]|refine rd0 rfl ?_))
          rw[<-hbm];simp[enc3]
         ·rw[hi2] at hbm
          (repeat (first|simp only[↓QA,QB,seval,aT,hm1,hw3]|refine rd0 rfl ?_))
          refine⟨m+1,⟨by omega,by rw[<-hbm];rfl⟩,by omega,?_⟩;try simp only[aB,QE,seval,aT,hw3]
          try simp
       ·have hm1:m=v.seen.length:=by simp at hd3;omega
        rw[jK hm1] at hbm;rw[<-hbm]
        (repeat (first|simp only[↓QA,QB,seval,aT]|refine rd0 rfl ?_))
        rfl
def gB(v:Net):List Int->Int->List Int->Option Int
 |[],s,_=>some s
 |r::l,s,met=>if s=0\/dB (eD v r) s<0\/met.contains (dB (eD v r) s)=true then none else gB v l (dB (eD v r) s) (met++[dB (eD v r) s])
def jW(v:Net)(s:Int)(p:List Int):Bool:=match gB v p s [s] with|some o=>o==0&&!p.isEmpty|none=>false
def fK(v:Net)(s:Int)(p:List Int):Bool:=match gB v p s [s] with|some o=>!(o==0)|none=>false
theorem yZ(v:Net):∀ (l:List Int) (s:Int) (met:List Int),s≠0->k9 v l s met=(match gB v l s met with|some o=>o==0|none=>false)
 |[],s,met,h=>by simp[k9,gB]
 |r::l,s,met,h=>by
  simp only[k9,gB];obtain⟨o,ho⟩:∃ o,dB (eD v r) s=o:=⟨_,rfl⟩;rw[ho];by_cases h1:o<0
  ·simp[h1]
  ·by_cases h2:met.contains o=true
   ·rw[if_pos (.inr (.inl h2)),if_pos (.inr (.inr h2))]
   ·by_cases h3:o=0
    ·subst h3;rw[if_neg (show ¬(s=0\/(0:Int)<0\/met.contains 0=true) from fun q=>by rcases q with q|q|q;exact h q;omega;exact h2 q)];cases l with
     |nil=>rw[if_neg (by simp only[ne_eq,not_true_eq_false,and_false,or_false];exact fun q=>by rcases q with q|q;omega;exact h2 q)];simp[k9,gB]
     |cons x l=>rw[if_pos (.inr (.inr ⟨rfl,by simp⟩))];simp[gB]
    ·rw[if_neg (fun q=>by rcases q with q|q|q;exact h1 q;exact h2 q;exact h3 q.1),if_neg (fun q=>by rcases q with q|q|q;exact h q;exact h1 q;exact h2 q)];exact yZ v l o _ h3
theorem BA{v:Net}{s:Int}{p:List Int}(h:1<=p.length/\p.length<=4):iT v s p=jW v s p:=by
 have h1:inR p.length 1 4=true:=cQ.2 (by omega);have he:p.isEmpty=false:=by cases p<;>simp at h ⊢
 rw[iT,jW,he];by_cases hs:s=0
 ·rw[if_pos (.inr hs),hs];cases p with
  |nil=>simp at he
  |cons x l=>simp[gB]
 ·rw[if_neg (by simp[h1,hs]),yZ v p s [s] hs];cases gB v p s [s]<;>simp
theorem DW(v:Net)(r:Int)(t:List Int):∀ (l:List Int) (s:Int) (met:List Int) (x:Int),gB v (l++r::t) s met=some x->∃ o,gB v l s met=some o/\o≠0
 |[],s,met,x,h=>by
  simp only[List.nil_append,gB] at h;split at h
  ·cases h
  ·rename_i hn;exact⟨s,rfl,fun e=>hn (.inl e)⟩
 |y::l,s,met,x,h=>by
  simp only[List.cons_append,gB] at h ⊢;split at h
  ·cases h
  ·rename_i hn;rw[if_neg hn];exact DW v r t l _ _ x h
theorem JS{r:Rail}{s:Int}(h:¬dB r s<0):(s=r.a/\dB r s=r.b)\/(s=r.b/\dB r s=r.a):=by
 unfold dB at h ⊢;split
 ·rename_i h1;exact .inl ⟨h1,rfl⟩
 ·rename_i h1;rw[if_neg h1] at h;split
  ·rename_i h2;exact .inr ⟨h2,rfl⟩
  ·rename_i h2;rw[if_neg h2] at h;omega
theorem JZ(v:Net)(r:Int):∀ (l:List Int) (s:Int) (met:List Int),(eD v r).a∈met->(eD v r).b∈met->r∈l->gB v l s met=none
 |[],s,met,_,_,h=>by cases h
 |y::l,s,met,ha,hb,h=>by
  simp only[gB];split
  ·rfl
  ·rename_i hn;rcases List.mem_cons.1 h with rfl|h
   ·exfalso;rw[not_or,not_or] at hn;obtain⟨h1,h2,h3⟩:=hn;apply h3;rw[List.contains_iff_mem];rcases JS h2 with⟨_,e⟩|⟨_,e⟩<;>rw[e]<;>assumption
   ·exact JZ v r l _ _ (List.mem_append_left _ ha) (List.mem_append_left _ hb) h
theorem xK(v:Net):∀ (l:List Int) (s:Int) (met:List Int) (x:Int),s∈met->gB v l s met=some x->l.Nodup
 |[],s,met,x,_,_=>List.nodup_nil
 |y::l,s,met,x,hs,h=>by
  simp only[gB] at h;split at h
  ·cases h
  ·rename_i hn;rw[not_or,not_or] at hn;obtain⟨h1,h2,h3⟩:=hn;have hm:dB (eD v y) s∈met++[dB (eD v y) s]:=by simp
   have hs':s∈met++[dB (eD v y) s]:=List.mem_append_left _ hs;refine List.nodup_cons.2 ⟨fun hy=>?_,xK v l _ _ x hm h⟩;have hab:(eD v y).a∈met++[dB (eD v y) s]/\(eD v y).b∈met++[dB (eD v y) s]:=by
    rcases JS h2 with⟨e1,e2⟩|⟨e1,e2⟩
    ·rw[<-e1,<-e2];exact⟨hs',hm⟩
    ·rw[<-e1,<-e2];exact⟨hm,hs'⟩
   rw[JZ v y l _ _ hab.1 hab.2 hy] at h;cases h
def rS(b:Int):List Int:=if b<0 then [] else [b]
def zF(v:Net)(b r:Int):Bool:=!(r==b)&&!decide ((eD v r).shut=1)
def L4(v:Net)(b:Int)(l:List Int):List (List Int):=((aR 0 v.rails.length).filter (zF v b)).map fun r=>l++[r]
def wO(v:Net)(s b:Int):Nat->List (List Int)
 |0=>[[]]
 |k+1=>(wO v s b k).flatMap fun l=>(L4 v b l).filter (fK v s)
def IC(v:Net)(s b:Int):Nat->List (List Int)
 |0=>[]
 |k+1=>IC v s b k++(wO v s b k).flatMap fun l=>(L4 v b l).filter (jW v s)
theorem AL(v:Net)(but:List Int):∀ k,∀ l∈g9 v but k,l.length=k
 |0,l,h=>by simp[g9] at h;simp[h]
 |k+1,l,h=>by
  simp only[g9,List.mem_flatMap,D5,List.mem_map] at h;obtain⟨a,ha,r,_,rfl⟩:=h;simp[AL v but k a ha]
theorem nV{α β:Type}(p:β->Bool)(f:α->List β):∀ l:List α,(l.flatMap f).filter p=l.flatMap fun x=>(f x).filter p
 |[]=>rfl
 |x::l=>by rw[List.flatMap_cons,List.filter_append,nV p f l,List.flatMap_cons]
theorem nT{α β:Type}(p:α->Bool)(f:α->List β):∀ l:List α,(l.filter p).flatMap f=l.flatMap fun x=>if p x=true then f x else []
 |[]=>rfl
 |x::l=>by
  rw[List.flatMap_cons,List.filter_cons,<-nT p f l];split<;>simp
theorem D0{v:Net}{s b:Int}{q:List Int->Bool}{l:List Int}(h:∀ r,q (l++[r])=true->fK v s l=true/\r∉l):(D5 v (rS b) l).filter q=if fK v s l=true then (L4 v b l).filter q else []:=by
 have e:(D5 v (rS b) l).filter q=(L4 v b l).filter q:=by
  simp only[D5,L4,List.filter_map,List.filter_filter]
  congr 1
  refine List.filter_congr fun r hr=>?_
  have hr0:=(cL _ _ _).1 hr;simp only[Function.comp_def];cases hq:q (l++[r]) with
  |false=>simp
  |true =>
   have hc:l.contains r=false:=by rw[Bool.eq_false_iff,Ne,List.contains_iff_mem];exact (h r hq).2
   have hb:(rS b).contains r=(r==b):=by
    unfold rS;split
    ·rw[Bool.eq_iff_iff];simp;omega
    ·rw[Bool.eq_iff_iff];simp
   simp only[PR,zF,hc,hb,Bool.true_and,Bool.not_false,Bool.and_true];rw[Bool.and_comm]
 rw[e];split
 ·rfl
 ·rename_i hb;rw[List.filter_eq_nil_iff];intro x hx;simp only[L4,List.mem_map] at hx;obtain⟨r,_,rfl⟩:=hx;intro hq;exact hb (h r hq).1
theorem PH{v:Net}{s:Int}{l:List Int}{r:Int}(h:fK v s (l++[r])=true):fK v s l=true/\r∉l:=by
 unfold fK at h;split at h
 ·rename_i o ho;obtain⟨x,hx,h0⟩:=DW v r [] l s [s] o ho;refine⟨by simp[fK,hx,h0],?_⟩;have:=xK v _ s [s] o (by simp) ho;rw[List.nodup_append] at this;intro hm;exact this.2.2 r hm r (by simp) rfl
 ·cases h
theorem UC{v:Net}{s:Int}{l:List Int}{r:Int}(h:jW v s (l++[r])=true):fK v s l=true/\r∉l:=by
 unfold jW at h;split at h
 ·rename_i o ho;obtain⟨x,hx,h0⟩:=DW v r [] l s [s] o ho;refine⟨by simp[fK,hx,h0],?_⟩;have:=xK v _ s [s] o (by simp) ho;rw[List.nodup_append] at this;intro hm;exact this.2.2 r hm r (by simp) rfl
 ·cases h
theorem yL{v:Net}{s b:Int}(hs:s≠0):∀ k,wO v s b k=(g9 v (rS b) k).filter (fK v s)
 |0=>by
  have h:fK v s []=true:=by simp[fK,gB,hs]
  simp only[wO,g9,List.filter_cons,h,if_true,List.filter_nil]
 |k+1=>by
  simp only[wO,g9];rw[yL hs k,nV,nT]
  congr 1
  funext l;exact (D0 fun r=>PH).symm
theorem H9{v:Net}{s b:Int}(hs:s≠0):∀ k,k<=4->IC v s b k=iP v s (rS b) k
 |0,_=>rfl
 |k+1,hk=>by
  simp only[IC,iP,g9];rw[H9 hs k (by omega),yL hs k,nT]
  congr 1
  have e:((g9 v (rS b) k).flatMap (D5 v (rS b))).filter (iT v s)=((g9 v (rS b) k).flatMap (D5 v (rS b))).filter (jW v s):=by
   refine List.filter_congr fun l hl=>?_
   have:=AL v (rS b) (k+1) l hl;exact BA (by omega)
  rw[e,nV]
  congr 1
  funext l;exact (D0 fun r=>UC).symm
theorem SU(v:Net)(but:List Int):eC v 0 but=[]:=by
 have key:∀ k,iP v 0 but k=[]:=by
  intro k
  induction k with
  |zero=>rfl
  |succ k ih =>
   rw[iP,ih,List.nil_append,List.filter_eq_nil_iff];intro l _;simp[iT]
 exact key 4
theorem aN7(v:Net){s b:Int}(hs:s≠0):IC v s b 4=eC v s (rS b):=H9 hs 4 (Nat.le_refl _)
def w6(ss:List Stay)(rail m s t:Int):Prop:=s<=t/\ss.any (jG rail t m)=false/\∀ y,s<=y->y<t->ss.any (jG rail y m)=true
theorem GL{ss:List Stay}{rail m s t u:Int}(h:w6 ss rail m s t)(k:w6 ss rail m s u):t=u:=by
 obtain⟨h1,h2,h3⟩:=h;obtain⟨k1,k2,k3⟩:=k;by_cases a:t<u
 ·rw[k3 t h1 a] at h2;cases h2
 ·by_cases b:u<t
  ·rw[h3 u k1 b] at k2;cases k2
  ·omega
theorem AH{ss:List Stay}{rail m s B:Int}(hB:∀ x∈ss,x.til<=B)(h:ss.any (jG rail s m)=true):s<B:=by
 rw[List.any_eq_true] at h;obtain⟨x,hx,hc⟩:=h;have:=hB x hx;simp[jG] at hc;omega
theorem FR{ss:List Stay}{rail m B:Int}(hB:∀ x∈ss,x.til<=B):∀ (k:Nat) (s:Int),B<=s+k->w6 ss rail m s (wP ss rail m k s)
 |0,s,h=>⟨by simp[wP],by
   rw[wP,Bool.eq_false_iff];intro hc;have:=AH hB hc
   omega,fun y h1 h2=>by simp[wP] at h2;omega⟩
 |k+1,s,h=>by
  rw[wP];split
  ·rename_i hc;obtain⟨h1,h2,h3⟩:=FR hB k (s+1) (by omega);refine⟨by omega,h2,fun y q1 q2=>?_⟩;by_cases e:y=s
   ·subst e;exact hc
   ·exact h3 y (by omega) q2
  ·rename_i hc;exact⟨Int.le_refl _,by simpa using hc,fun y q1 q2=>by omega⟩
theorem AY{ss:List Stay}{rail m B s:Int}(hB:∀ x∈ss,x.til<=B)(h:B<=s+1000):w6 ss rail m s (kS ss rail s m):=FR hB 1000 s h
theorem aDH{ss:List Stay}{rail m B s t:Int}(hB:∀ x∈ss,x.til<=B)(h:w6 ss rail m s t)(hs:s<=B):t<=B:=by
 by_cases e:s=t
 ·omega
 ·have h1:=h.1;have:=AH hB (h.2.2 (t-1) (by omega) (by omega));omega
theorem NE{rail m s:Int}{x:Stay}(h:jG rail s m x=true){y:Int}(h1:s<=y)(h2:y<x.til):jG rail y m x=true:=by
 simp[jG] at h ⊢;omega
theorem yH{rail m s:Int}{x:Stay}(h:jG rail s m x=true):s<x.til:=by
 simp[jG] at h;omega
def sG(ss:List Stay)(rail m s t:Int):Prop:=s<=t/\∀ y,s<=y->y<t->ss.any (jG rail y m)=true
theorem HC(ss:List Stay)(rail m s:Int):sG ss rail m s s:=⟨Int.le_refl _,fun y h1 h2=>by omega⟩
theorem FY{ss:List Stay}{rail m s t u:Int}{x:Stay}(h:sG ss rail m s t)(hx:x∈ss)(ht:t<=u)(hc:jG rail u m x=true)(hm:∀ y,t<=y->y<u->ss.any (jG rail y m)=true):sG ss rail m s x.til:=by
 have:=yH hc;refine⟨by have:=h.1;omega,fun y h1 h2=>?_⟩;by_cases a:y<t
 ·exact h.2 y h1 a
 ·by_cases b:y<u
  ·exact hm y (by omega) b
  ·rw[List.any_eq_true];exact⟨x,hx,NE hc (by omega) h2⟩
theorem GV{ss:List Stay}{rail m s t:Int}(h:sG ss rail m s t)(hf:ss.any (jG rail t m)=false):w6 ss rail m s t:=⟨h.1,hf,h.2⟩
theorem B9{ss:List Stay}{rail m B s t:Int}(hB:∀ x∈ss,x.til<=B)(h:sG ss rail m s t)(hs:s<=B):t<=B:=by
 by_cases e:s=t
 ·omega
 ·have h1:=h.1;have:=AH hB (h.2 (t-1) (by omega) (by omega));omega
structure RunOk (v:Net) (ps:List (List Int)):Prop where
 len:ps.length=v.trams.length
 few:∀ p∈ps,p.length<=4
 rails:∀ p∈ps,∀ r∈p,0<=r/\r<v.rails.length
def DK(v:Net)(m:Int->Int):Prop:=∀ r:Int,0<=r->r<v.rails.length->0<=m r/\m r<=20
structure StaysOk (ss:List Stay) (n:Nat):Prop where
 len:ss.length<=n
 til:∀ x∈ss,x.til<=60+20*n
 frm:∀ x∈ss,0<=x.frm
theorem JK{ss:List Stay}{n k:Nat}(h:StaysOk ss n)(hk:n<=k):StaysOk ss k:=⟨by have:=h.len;omega,fun x hx=>by have:=h.til x hx;omega,h.frm⟩
theorem H7{ss:List Stay}{n:Nat}(h:StaysOk ss n)(hn:n<=40){rail m s:Int}(h0:0<=s)(hs:s<=60+20*n):w6 ss rail m s (kS ss rail s m)/\s<=kS ss rail s m/\kS ss rail s m<=60+20*n:=by
 have h1:=AY (rail:=rail) (m:=m) h.til (show (60:Int)+20*n<=s+1000 by omega);exact⟨h1,h1.1,aDH h.til h1 hs⟩
theorem aAH{m:Int->Int}{i:Int}:∀ (l:List Int) (a:Int) (ss:List Stay) (n:Nat),StaysOk ss n->n+l.length<=40->0<=a->a<=60+20*n->(∀ r∈l,0<=m r/\m r<=20) ->
  StaysOk (nX m i l a ss).1 (n+l.length)/\a<=(nX m i l a ss).2/\(nX m i l a ss).2<=60+20*(n+l.length:Nat)
 |[],a,ss,n,h,hn,h0,h1,hm=>by simp only[nX,List.length_nil,Nat.add_zero];exact⟨h,Int.le_refl _,h1⟩
 |r::l,a,ss,n,h,hn,h0,h1,hm=>by
  simp only[List.length_cons] at hn ⊢;obtain⟨f1,f2,f3⟩:=H7 (rail:=r) (m:=m r) h (by omega) h0 h1;have hmr:=hm r (by simp);simp only[nX]
  obtain⟨q1,q2,q3⟩:=aAH (m:=m) (i:=i) l (kS ss r a (m r)+m r) (ss++[⟨i,r,kS ss r a (m r),kS ss r a (m r)+m r⟩]) (n+1) ⟨by have:=h.len;simp;omega,fun x hx=>by
   rcases List.mem_append.1 hx with hx|hx
   ·have:=h.til x hx;omega
   ·simp only[List.mem_singleton] at hx;subst hx;simp only;omega,fun x hx=>by
   rcases List.mem_append.1 hx with hx|hx
   ·exact h.frm x hx
   ·simp only[List.mem_singleton] at hx;subst hx;simp only;omega⟩ (by omega) (by omega) (by omega) (fun x hx=>hm x (by simp[hx]))
  rw[show n+(l.length+1)=n+1+l.length by omega];exact⟨q1,by omega,q3⟩
theorem zR{v:Net}{i:Nat}(h:i<v.trams.length):pI v i=v.trams[i].leaves:=by simp[pI,h]
theorem aD9{m:Int->Int}{i a:Int}{l:List Int}{ss:List Stay}{n:Nat}(h:StaysOk ss n)(hn:n+l.length<=40)(h0:0<=a)(h1:a<=60)(hm:∀ r∈l,0<=m r/\m r<=20):
  StaysOk (nU m i a l ss).1 (n+l.length)/\-1<=(nU m i a l ss).2/\(nU m i a l ss).2<=60+20*(n+l.length:Nat):=by
 unfold nU;split
 ·exact⟨JK h (by omega),by simp only;omega,by simp only;omega⟩
 ·obtain⟨q1,q2,q3⟩:=aAH (i:=i) l a ss n h hn h0 (by omega) hm;exact⟨q1,by omega,q3⟩
theorem run_len(v:Net)(m:Int->Int)(ps:List (List Int)):∀ k,(eR v m ps k).2.length=k
 |0=>rfl
 |k+1=>by simp[eR,run_len v m ps k]
theorem EN{v:Net}{ps:List (List Int)}(h:RunOk v ps){i:Nat}(hi:i<v.trams.length):eX ps i∈ps:=by
 have:i<ps.length:=by rw[h.len];exact hi
 simp[eX,this]
theorem NK{v:Net}(hv:Vd v){m:Int->Int}(hm:DK v m){ps:List (List Int)}(hp:RunOk v ps):∀ k,k<=v.trams.length->StaysOk (eR v m ps k).1 (4*k)/\∀ c∈(eR v m ps k).2,-1<=c/\c<=300
 |0,_=>⟨⟨by simp[eR],by simp[eR],by simp[eR]⟩,by simp[eR]⟩
 |k+1,hk=>by
  have hn:=hv.ntr;obtain⟨h1,h2⟩:=NK hv hm hp k (by omega);have ht:=BP hv (show k<v.trams.length by omega);have hpm:=EN hp (show k<v.trams.length by omega);have hpl:=hp.few _ hpm;have h60:=ht.leaves;rw[<-zR (show k<v.trams.length by omega)] at h60
  obtain⟨q1,q2,q3⟩:=aD9 (m:=m) (i:=k) (a:=pI v k) (l:=eX ps k) h1 (by omega) h60.1 h60.2 (fun r hr=>by
   have:=hp.rails _ hpm r hr
   exact hm r this.1 this.2)
  simp only[eR];refine⟨JK q1 (by omega),fun c hc=>?_⟩;rcases List.mem_append.1 hc with hc|hc
  ·exact h2 c hc
  ·simp only[List.mem_singleton] at hc;subst hc;omega
theorem W4{v:Net}(hv:Vd v):RunOk v (kY v):=by
 have key:∀ p∈kY v,p.length<=4/\∀ r∈p,0<=r/\r<v.rails.length:=by
  intro p hp;simp only[kY,List.mem_map] at hp;obtain⟨t,ht,rfl⟩:=hp;obtain⟨i,hi,rfl⟩:=List.getElem_of_mem ht;have:=BP hv hi;exact⟨this.len.2,this.path⟩
 exact⟨by simp[kY],fun p hp=>(key p hp).1,fun p hp=>(key p hp).2⟩
def chP(r:Rail):List Int:=(if r.shut=0 then [] else [0])++(if r.shut=1 then [] else D4 r.mins)
def gE:List Rail->List Int->List (List Int)
 |[],l=>[l]
 |r::rs,l=>(chP r).flatMap fun n=>gE rs (l++[n])
def rlI(c:List Int)(r:Int):Int:=(c[r.toNat]?).getD 0
def uY(s:State):List Int:=(s.closed.zip s.mins).map fun x=>if x.1=true then 0 else x.2
theorem PM{s:State}(h:s.closed.length=s.mins.length):eff s=rlI (uY s):=by
 funext r;simp only[eff,rlI,uY,List.getElem?_map,List.getElem?_zip_eq_some,List.zip];obtain⟨i,hi⟩:∃ i,r.toNat=i:=⟨_,rfl⟩;rw[hi];by_cases hl:i<s.closed.length
 ·have hm:i<s.mins.length:=by omega
  have e:(List.zipWith Prod.mk s.closed s.mins)[i]? = some (s.closed[i],s.mins[i]):=by
   rw[List.getElem?_zipWith];simp[hl,hm]
  rw[e];simp[hl,hm]
 ·have hm:¬i<s.mins.length:=by omega
  have e:(List.zipWith Prod.mk s.closed s.mins)[i]? = none:=by
   rw[List.getElem?_zipWith];simp[show s.closed.length<=i by omega]
  rw[e];simp[show s.closed.length<=i by omega,show s.mins.length<=i by omega]
theorem pM{s:Span}{x:Int}:x∈D4 s↔s.lo<=x/\x<=s.hi:=by
 rw[D4,cL];omega
theorem C7{l:List Int}{x:Int}{k:Nat}(h:l.length=k):((l++[x])[k]?).getD 0=x:=by subst h;simp
def YP(rs:List Rail)(k:Nat)(c:List Int):Prop:=c.length=k/\∀ i (h:i<k) (hr:i<rs.length),(c[i]?).getD 0∈chP rs[i]
theorem zW(s:State)(h:s.closed.length=s.mins.length)(c:Bool)(m:Int):uY ⟨s.closed++[c],s.mins++[m]⟩=uY s++[if c=true then 0 else m]:=by
 simp only[uY,List.zip];rw[List.zipWith_append h];simp
theorem xD{rs:List Rail}:∀ k,k<=rs.length->∀ s∈oW rs k,s.closed.length=k/\s.mins.length=k/\YP rs k (uY s)
 |0,_,s,h=>by
  simp[oW] at h;subst h;exact⟨rfl,rfl,rfl,fun i h=>by omega⟩
 |k+1,hk,s,h=>by
  have hk1:k<rs.length:=by omega
  simp only[oW,List.getElem?_eq_getElem hk1,List.mem_flatMap,BZ,List.mem_map,List.mem_filter] at h;obtain⟨s0,hs0,m,hm,c,⟨_,hc⟩,rfl⟩:=h;obtain⟨h1,h2,h3,h4⟩:=xD k (by omega) s0 hs0;rw[zW s0 (by omega)];refine⟨by simp[h1],by simp[h2],by simp[h3],fun i hi hr=>?_⟩;by_cases e:i=k
  ·subst e;rw[C7 h3];simp only[chP,List.mem_append];simp only[wB,Bool.not_eq_true',Bool.or_eq_false_iff,Bool.and_eq_false_iff,decide_eq_false_iff_not] at hc;cases c
   ·simp only[Bool.not_false,false_or,Bool.true_eq_false] at hc;simp only[Bool.false_eq_true,if_false];exact .inr (by rw[if_neg hc.2];exact hm)
   ·simp only[Bool.true_eq_false,false_or] at hc;simp only[if_true];exact .inl (by rw[if_neg hc.1];simp)
  ·rw[List.getElem?_append_left (by omega)];exact h4 i (by omega) hr
theorem XT{rs:List Rail}(hr:∀ r∈rs,r.mins.lo<=r.mins.hi/\1<=r.mins.lo):∀ k,k<=rs.length->∀ c,YP rs k c->∃ s∈oW rs k,uY s=c
 |0,_,c,h=>⟨⟨[],[]⟩,by simp[oW],by have:=h.1;rw[List.length_eq_zero_iff.1 this];rfl⟩
 |k+1,hk,c,h=>by
  have hk1:k<rs.length:=by omega
  obtain⟨hl,hc⟩:=h;obtain⟨d,x,rfl⟩:∃ d x,c=d++[x]:=by
   rcases List.eq_nil_or_concat c with rfl|⟨d,x,rfl⟩
   ·simp at hl
   ·exact⟨d,x,by simp⟩
  have hd:d.length=k:=by simpa using hl
  obtain⟨s,hs,he⟩:=XT hr k (by omega) d ⟨hd,fun i hi hri=>by
   have:=hc i (by omega) hri
   rwa [List.getElem?_append_left (by omega)] at this⟩
  have hsl:=xD k (by omega) s hs;have hx:=hc k (by omega) hk1;rw[C7 hd] at hx;simp only[chP,List.mem_append] at hx;have hrk:=hr _ (List.getElem_mem hk1);simp only[oW,List.getElem?_eq_getElem hk1];rcases hx with hx|hx
  ·split at hx
   ·cases hx
   ·rename_i h0;simp only[List.mem_singleton] at hx;subst hx;refine⟨⟨s.closed++[true],s.mins++[rs[k].mins.lo]⟩,?_,by rw[zW s (by omega),he];simp⟩;simp only[List.mem_flatMap,BZ,List.mem_map,List.mem_filter];exact⟨s,hs,rs[k].mins.lo,pM.2 ⟨Int.le_refl _,hrk.1⟩,true,⟨by simp,by simp[wB,h0]⟩,rfl⟩
  ·split at hx
   ·cases hx
   ·rename_i h1;refine⟨⟨s.closed++[false],s.mins++[x]⟩,?_,by rw[zW s (by omega),he];simp⟩;simp only[List.mem_flatMap,BZ,List.mem_map,List.mem_filter];exact⟨s,hs,x,hx,false,⟨by simp,by simp[wB,h1]⟩,rfl⟩
theorem lR:∀ (rs:List Rail) (l c:List Int),c∈gE rs l↔∃ t,c=l++t/\YP rs rs.length t
 |[],l,c=>by
  simp only[gE,List.mem_singleton];constructor
  ·rintro rfl;exact⟨[],by simp,rfl,fun i h=>by simp at h⟩
  ·rintro⟨t,rfl,ht,_⟩;simp at ht;simp[ht]
 |r::rs,l,c=>by
  simp only[gE,List.mem_flatMap];constructor
  ·rintro⟨n,hn,hc⟩;obtain⟨t,rfl,ht,hx⟩:=(lR rs _ c).1 hc;refine⟨n::t,by simp,by simp[ht],fun i h hr=>?_⟩;cases i with
   |zero=>exact hn
   |succ i=>exact hx i (by simpa using h) (by simpa using hr)
  ·rintro⟨t,rfl,ht,hx⟩;cases t with
   |nil=>simp at ht
   |cons n t =>
    refine⟨n,hx 0 (by simp) (by simp),(lR rs _ _).2 ⟨t,by simp,by simpa using ht,fun i h hr=>?_⟩⟩;exact hx (i+1) (by simpa using h) (by simpa using hr)
theorem GC{rs:List Rail}{l c:List Int}(h:c∈gE rs l):c.length=l.length+rs.length:=by
 obtain⟨t,rfl,ht,_⟩:=(lR rs l c).1 h;simp[ht]
theorem aKX{r:Rail}(h:1<=r.mins.lo):(chP r).Pairwise (·≠·):=by
 have hn:∀ (n:Nat) (a:Int),(aR a n).Pairwise (·≠·):=by
  intro n
  induction n with
  |zero=>intro a;exact List.Pairwise.nil
  |succ n ih =>
   intro a;simp only[aR];refine List.Pairwise.cons (fun x hx=>?_) (ih (a+1));have:=(cL _ _ _).1 hx;omega
 unfold chP;rw[List.pairwise_append];refine⟨by split<;>simp,by split;exact List.Pairwise.nil;exact hn _ _,fun a ha b hb=>?_⟩;split at ha
 ·cases ha
 ·simp only[List.mem_singleton] at ha;subst ha;split at hb
  ·cases hb
  ·have:=pM.1 hb;omega
theorem LY:∀ (rs:List Rail) (l:List Int),(∀ r∈rs,1<=r.mins.lo)->(gE rs l).Pairwise (·≠·)
 |[],l,_=>by simp[gE]
 |r::rs,l,h=>by
  simp only[gE];rw[List.pairwise_flatMap];refine⟨fun n _=>LY rs _ (fun x hx=>h x (by simp[hx])),List.Pairwise.imp ?_ (aKX (h r (by simp)))⟩;intro n m hnm x hx y hy e;obtain⟨t,rfl,_⟩:=(lR _ _ _).1 hx;obtain⟨u,hu,_⟩:=(lR _ _ _).1 hy;have e2:=e.trans hu;rw[List.append_assoc,List.append_assoc] at e2;have:=List.append_cancel_left e2;simp at this;exact hnm this.1
def dS(v:Net)(c:List Int):List Int:=lB v (kY v) (rlI c)
def tN(v:Net)(but c:List Int):Bool:=lS v but (dS v c)
def TL(v:Net)(but:List Int):List (List Int):=(gE v.rails []).filter (tN v but)
theorem rU{s:State}(h:s.closed.length=s.mins.length)(v:Net):comesOf v s=dS v (uY s):=by rw[comesOf,dS,PM h]
theorem pO{v:Net}{s:State}(h:s∈k6 v):s.closed.length=v.rails.length/\s.mins.length=v.rails.length:=by
 have:=xD v.rails.length (Nat.le_refl _) s h;exact⟨this.1,this.2.1⟩
theorem MN{v:Net}{s:State}(h:s∈k6 v):uY s∈gE v.rails []:=by
 have:=xD v.rails.length (Nat.le_refl _) s h;exact (lR _ _ _).2 ⟨uY s,by simp,this.2.2⟩
theorem N7{v:Net}(hv:Vd v){c:List Int}(h:c∈gE v.rails []):∃ s∈k6 v,uY s=c:=by
 obtain⟨t,e,ht⟩:=(lR _ _ _).1 h;rw[List.nil_append] at e;subst e;exact XT (fun r hr=>by have:=(hv.ra r hr).mins;omega) v.rails.length (Nat.le_refl _) c ht
theorem yP{v:Net}{bl:List Int}{s:State}(h:s∈truths v bl):uY s∈TL v bl:=by
 obtain⟨h1,h2⟩:=List.mem_filter.1 h;have hl:=pO h1;refine List.mem_filter.2 ⟨MN h1,?_⟩;rw[tN,<-rU (by omega)];exact h2
theorem uX{v:Net}(hv:Vd v){bl:List Int}{c:List Int}(h:c∈TL v bl):∃ s∈truths v bl,uY s=c:=by
 obtain⟨h1,h2⟩:=List.mem_filter.1 h;obtain⟨s,hs,he⟩:=N7 hv h1;have hl:=pO hs;refine⟨s,List.mem_filter.2 ⟨hs,?_⟩,he⟩;rw[rU (by omega),he];exact h2
theorem vM{v:Net}{bl:List Int}{s:State}(h:s∈truths v bl):s.closed.length=v.rails.length/\s.mins.length=v.rails.length:=pO (List.mem_filter.1 h).1
theorem PZ{v:Net}(hv:Vd v)(bl:List Int):(TL v bl).isEmpty=(truths v bl).isEmpty:=by
 rw[Bool.eq_iff_iff,List.isEmpty_iff,List.isEmpty_iff,List.eq_nil_iff_forall_not_mem,List.eq_nil_iff_forall_not_mem];constructor
 ·intro h s hs;exact h _ (yP hs)
 ·intro h c hc;obtain⟨s,hs,_⟩:=uX hv hc;exact h s hs
theorem OI{v:Net}(hv:Vd v)(bl:List Int)(p:State->Bool)(q:List Int->Bool)(h:∀ s∈truths v bl,p s=q (uY s)):(truths v bl).all p=(TL v bl).all q:=by
 rw[Bool.eq_iff_iff,List.all_eq_true,List.all_eq_true];constructor
 ·intro a c hc;obtain⟨s,hs,rfl⟩:=uX hv hc;rw[<-h s hs];exact a s hs
 ·intro a s hs;rw[h s hs];exact a _ (yP hs)
theorem aBZ{v:Net}(hv:Vd v)(bl:List Int)(p:State->Bool)(q:List Int->Bool)(h:∀ s∈truths v bl,p s=q (uY s)):(truths v bl).any p=(TL v bl).any q:=by
 rw[Bool.eq_iff_iff,List.any_eq_true,List.any_eq_true];constructor
 ·rintro⟨s,hs,a⟩;exact⟨_,yP hs,by rw[<-h s hs];exact a⟩
 ·rintro⟨c,hc,a⟩;obtain⟨s,hs,rfl⟩:=uX hv hc;exact⟨s,hs,by rw[h s hs];exact a⟩
end Go.Am.Room.Tr
