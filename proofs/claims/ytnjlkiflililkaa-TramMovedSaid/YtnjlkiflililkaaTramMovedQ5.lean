/- A part of the proof of TramMoved: an abstract machine, or what functions come to on it. -/
import Derived.Test.YtnjlkiflililkaaTramMovedQ4
set_option linter.unusedVariables false
set_option linter.unusedSimpArgs false
set_option linter.defProp false
set_option maxRecDepth 8000
namespace Go.Am.Room
def eS:=And.intro @bD (And.intro @aI (And.intro @aX (And.intro @aW (And.intro @aV (And.intro @aS (And.intro @bC (And.intro @a9 (And.intro @aZ (And.intro @dH (And.intro @dF (And.intro @Nat.not_lt_zero (And.intro @List.length_append.{0} (And.intro @Nat.zero_add (And.intro @Nat.mul_one (And.intro @Int.toNat_natCast (And.intro @bZ (And.intro @dE (And.intro @eH (And.intro @fO (And.intro @fP (And.intro @kQ (And.intro @fQ (And.intro @g7 (And.intro @g9 (And.intro @g8 (And.intro @gY (And.intro @hH (And.intro @gZ (And.intro @Nat.add_lt_add_iff_left (@Nat.lt_add_right_iff_pos))))))))))))))))))))))))))))))
theorem IH (v:Net) (hv:Vd v) (b m0 p:Nat) (σ:St) (hσ:aK σ p=some (db v b m0)) (hp:p<σ.length) (f:AV) (hk3:∀ τ n,σ.length≤n→cN (σ++τ) n 20 f=some f) (ps:List (List Int)) (hps:RunOk v ps) (hf:∀ i,i<v.trams.length→∀ τ,jJ T f [.int .i64 i] (σ++τ) (ints (cH ps i))) (M:Nat→Int) (m:Int→Int) (hM:∀ i:Nat,m (i:Int)=M i) (hm:BS v m) :
  jJ T (.func 109 [] []) [.ptr p 0,.agg (bL 5 M),f] σ (.agg (bL 3 (cM (gE v ps m)))):=by
 refine eV (af:=a109) rfl (by simp [a109]) ?_
 have hnt:=hv.ntr
 have hnr:=hv.nra
 have hk:uE σ f:=fun τ=>hk3 τ _ (Nat.le_refl _)
 have hk0:=hk.nil
 have hk2:∀ τ n,cN (σ++τ) (σ.length+n) 20 f=some f:=fun τ n=>hk3 τ _ (by omega)
 have hk4:∀ τ,cN (σ++τ) σ.length 20 f=some f:=hk
 have hσ2:=fun τ=>j5 hσ τ
 have hbd:=JR hv hm hps
 have hz:=aB1 v m ps
 (repeat (first|simp only [↓QA,QB,Nat.reduceLT,reduceIte,Nat.reduceEqDiff,Nat.reduceAdd,Nat.reduceLeDiff,Nat.reduceMul,Nat.reduceBEq,eS,a109,hσ2,←hz]|refine rd0 rfl ?_))
 refine jP 7 3 [] rfl ?_
 refine bY (S:=Nat×Bool) (0,false) (fun a=>a.1≤v.trams.length) (fun a=>v.trams.length-a.1)
  (fun a=>[(2,f),(4,.ptr σ.length 0),(6,.ptr (σ.length+1) 0),(7,.lit ((dP v m ps a.1).1.map kP) false (some (σ.length+2))),(18,.lit (v.trams.map cV) false none),(19,.int .i64 v.trams.length),(20,.int .i64 a.1)])
  (fun a=>σ++[.cells (bL 5 M),.cells (bL 3 (cM (dP v m ps a.1).2)),.tok 3 (dP v m ps a.1).1.length a.2]) (Nat.zero_le _) (by simp [dP]) ?_ fun a ha=>?_
 ·try simp only [aC,QE,Nat.reduceLT,reduceIte,Nat.reduceEqDiff,Nat.reduceAdd,Nat.reduceLeDiff,Nat.reduceMul,Nat.reduceBEq,eS,hk2,hk4]
  try simp [dP]
 ·obtain ⟨i,ex⟩:=a
  simp only at ha
  (repeat (first|simp only [↓QA,QB,Nat.reduceLT,reduceIte,Nat.reduceEqDiff,Nat.reduceAdd,Nat.reduceLeDiff,Nat.reduceMul,Nat.reduceBEq,eS,QJ]|refine rd0 rfl ?_))
  refine aG (fun h=>?_) fun h=>?_
  ·have hi1:i<v.trams.length:=by simpa using h
   have hwi:=bV hi1 (by omega)
   obtain ⟨b1,b2⟩:=hbd i (by omega)
   have hlc:=oE v m ps i
   have hsu:=IN v m ps i
   have hto:=sD hv hi1
   have hpm:=A6 hps hi1
   have hp4:=hps.few _ hpm
   have hpr:=hps.rails _ hpm
   have hfp:=fun τ=>hf i hi1 τ
   rw [s9 hi1] at hsu
   obtain ⟨t,ht⟩:∃ t,v.trams[i]=t:=⟨_,rfl⟩
   obtain ⟨p,hpp⟩:∃ p,cH ps i=p:=⟨_,rfl⟩
   rw [ht] at hto hsu
   rw [hpp] at hp4 hpr hsu
   simp only [hpp] at hfp
   have hlv:=hto.leaves
   obtain ⟨L,hL⟩:∃ L,t.leaves=L:=⟨_,rfl⟩
   rw [hL] at hlv hsu
   obtain ⟨SS,hSS⟩:∃ SS,(dP v m ps i).1=SS:=⟨_,rfl⟩
   obtain ⟨OO,hOO⟩:∃ OO,(dP v m ps i).2=OO:=⟨_,rfl⟩
   rw [hSS] at b1 hsu
   rw [hOO] at b2 hlc hsu
   have hgo:jZ m i L p SS=if p.any (fun r=>m r==0)=true then (SS,-1) else mK m i p L SS:=rfl
   rw [hSS,hOO]
   obtain ⟨R,hR⟩:∃ R,jZ m i L p SS=R:=⟨_,rfl⟩
   rw [hR] at hsu hgo
   have hsu1:(dP v m ps (i+1)).1=R.1:=by rw [hsu]
   have hsu2:cM (dP v m ps (i+1)).2=mF (cM OO) i R.2:=by rw [hsu];exact JB OO R.2 hlc
   have i3:(0:Int)≤(i:Int)∧(i:Int)<((3:Nat):Int):=⟨by omega,by omega⟩
   have c3:i+1≤3:=by omega
   have hset:=fun (g:Nat→Int) x=>sE 3 g x (i:=i) (by omega)
   have hget:=fun (g:Nat→Int)=>jS 3 g (i:=i) (by omega)
   have hct:=fun (C:ABlk) (τ:St)=>qN (σ++(.cells (bL 5 M)::C::τ)) (.func 119 [] [.ptr σ.length 0]) p (fun r=>m r==0) (by omega) (fun υ=>by try simp only [QS,QC,Nat.reduceLT,reduceIte,Nat.reduceEqDiff,Nat.reduceAdd,Nat.reduceLeDiff,Nat.reduceMul,Nat.reduceBEq,eS,List.length_append];simp) (fun x hx=>by
    have hxr:=hpr x hx
    obtain ⟨r,rfl⟩:∃ r:Nat,x=(r:Int):=⟨x.toNat,by omega⟩
    rw [hM]
    exact N2 M σ.length _ (by rw [jG];rfl) r (by omega))
   (repeat (first|simp only [↓QA,QB,Nat.reduceLT,reduceIte,Nat.reduceEqDiff,Nat.reduceAdd,Nat.reduceLeDiff,Nat.reduceMul,Nat.reduceBEq,eS,hi1,ht,hL,i3,c3,hset]|refine rd0 rfl ?_))
   refine bW (hfp _) ?_
   (repeat (first|simp only [↓QA,QB,Nat.reduceLT,reduceIte,Nat.reduceEqDiff,Nat.reduceAdd,Nat.reduceLeDiff,Nat.reduceMul,Nat.reduceBEq,eS]|refine rd0 rfl ?_))
   refine bW (hct _ _) ?_
   have hwt:∀ (TB:ABlk) (K:KJ) (e:Env),Env.get e 2=f→Env.get e 4 = .ptr σ.length 0→Env.get e 6 = .ptr (σ.length+1) 0→Env.get e 7 = .lit (SS.map kP) false (some (σ.length+2))→Env.get e 8 = .int .i64 i→Env.get e 18 = .lit (v.trams.map cV) false none→Env.get e 19 = .int .i64 v.trams.length→Env.get e 20 = .int .i64 i→Env.get e 37=ints p→Env.get e 38 = .int .i64 p.length→Env.get e 39 = .int .i64 0 →
     p.any (fun r=>m r==0)=false→mK m i p L SS=R →
     (∀ e' ex',Env.get e' 2=f→Env.get e' 4 = .ptr σ.length 0→Env.get e' 6 = .ptr (σ.length+1) 0→Env.get e' 7 = .lit (R.1.map kP) false (some (σ.length+2))→Env.get e' 18 = .lit (v.trams.map cV) false none→Env.get e' 19 = .int .i64 v.trams.length→Env.get e' 20 = .int .i64 i →
      K (some (.exit 2)) e' (σ++[.cells (bL 5 M),.cells (bL 3 (mF (cM OO) i R.2)),.tok 3 R.1.length ex',TB])) →
     rK (K:=⟨K⟩) T (.loop IY) e (σ++[.cells (bL 5 M),.cells (bL 3 (mF (cM OO) i L)),.tok 3 SS.length ex,TB]):=by
    intro TB K e q2 q4 q6 q7 q8 q18 q19 q20 q37 q38 q39 hc hgo hK
    refine bY (S:=Nat×Int×List Stay×Bool) (0,L,SS,ex) (fun a=>a.1≤p.length∧0≤a.2.1∧a.2.1≤60+20*(4*i+a.1:Nat)∧StaysOk a.2.2.1 (4*i+a.1)∧mK m i (p.drop a.1) a.2.1 a.2.2.1=R) (fun a=>p.length-a.1)
     (fun a=>[(2,f),(4,.ptr σ.length 0),(6,.ptr (σ.length+1) 0),(7,.lit (a.2.2.1.map kP) false (some (σ.length+2))),(8,.int .i64 i),(18,.lit (v.trams.map cV) false none),(19,.int .i64 v.trams.length),(20,.int .i64 i),(37,ints p),(38,.int .i64 p.length),(39,.int .i64 a.1)])
     (fun a=>σ++[.cells (bL 5 M),.cells (bL 3 (mF (cM OO) i a.2.1)),.tok 3 a.2.2.1.length a.2.2.2,TB]) ⟨by simp,by simp only;omega,by simp only;omega,b1,hgo⟩ rfl ?_ fun a ha=>?_
    ·try simp only [aC,QE,Nat.reduceLT,reduceIte,Nat.reduceEqDiff,Nat.reduceAdd,Nat.reduceLeDiff,Nat.reduceMul,Nat.reduceBEq,eS,ints,hk2,hk4,q2,q4,q6,q7,q8,q18,q19,q20,q37,q38,q39]
     try simp [aJ]
    ·obtain ⟨j,at_,SS,ex⟩:=a
     obtain ⟨hj,ha0,ha1,hso,hgo⟩:=ha
     simp only at hj ha0 ha1 hso hgo
     (repeat (first|simp only [↓QA,QB,Nat.reduceLT,reduceIte,Nat.reduceEqDiff,Nat.reduceAdd,Nat.reduceLeDiff,Nat.reduceMul,Nat.reduceBEq,eS,IY]|refine rd0 rfl ?_))
     refine aG (fun h2=>?_) fun h2=>?_
     ·have hj1:j<p.length:=by simpa using h2
      have hwj:=bV hj1 (by omega)
      have hpk:=hpr _ (List.getElem_mem hj1)
      rw [List.drop_eq_getElem_cons hj1] at hgo
      obtain ⟨r,hr⟩:∃ r:Nat,p[j]=(r:Int):=⟨p[j].toNat,by omega⟩
      rw [hr] at hpk hgo
      have hmr:=hm r hpk.1 hpk.2
      have hMr:=hM r
      obtain ⟨Q,hQ⟩:∃ Q,M r=Q:=⟨_,rfl⟩
      rw [hQ] at hMr
      rw [hMr] at hmr
      simp only [mK,hMr] at hgo
      obtain ⟨f1,f2,f3⟩:=E2 (rail:=(r:Int)) (m:=Q) hso (by omega) ha0 ha1
      have hsl:=hso.len
      have hfr:=RN SS r at_ Q (60+20*((4*i+j:Nat):Int)) (by omega) hso.til ha0 ha1 (by omega) (by omega)
      obtain ⟨F,hF⟩:∃ F,jN SS r at_ Q=F:=⟨_,rfl⟩
      rw [hF] at hgo f2 f3 hfr
      have hwF:IntKind.i64.wrap (F+Q)=F+Q:=eO ⟨by omega,by omega⟩
      have hwA:IntKind.i64.wrap (at_+Q)=at_+Q:=eO ⟨by omega,by omega⟩
      have i5:(0:Int)≤(r:Int)∧(r:Int)<((5:Nat):Int):=⟨by omega,by omega⟩
      have hg5:=jS 5 M (show r<5 by omega)
      rw [hQ] at hg5
      have a7:=fun (b0 b1:ABlk) (τ:St)=>iK (σ:=σ++(b0::b1::.tok 3 SS.length ex::τ)) (t:=σ.length+2) (ex:=ex) (sz:=3) (b:=24) (xs:=SS.map kP) (ys:=[.agg [.int .i64 r,.int .i64 F,.int .i64 (F+Q)]]) (f:=true) (tk:=none) ⟨FP SS,by simp [aL,cG,AV.cells,AV.cell],by simp [room];omega,by simp [room];omega⟩ (by simp) SS.length (by simp) (by rw [rW];rfl)
      (repeat (first|simp only [↓QA,QB,Nat.reduceLT,reduceIte,Nat.reduceEqDiff,Nat.reduceAdd,Nat.reduceLeDiff,Nat.reduceMul,Nat.reduceBEq,eS,hj1,hr,i3,i5,hget,hg5,P8,hwA]|refine rd0 rfl ?_))
      ((first|refine s7 (hfr) (by try simp only [QS,QC,Nat.reduceLT,reduceIte,Nat.reduceEqDiff,Nat.reduceAdd,Nat.reduceLeDiff,Nat.reduceMul,Nat.reduceBEq,eS]) trivial ?_|refine wF (hfr) (by try simp only [QS,QC,Nat.reduceLT,reduceIte,Nat.reduceEqDiff,Nat.reduceAdd,Nat.reduceLeDiff,Nat.reduceMul,Nat.reduceBEq,eS]) trivial ?_);(repeat (first|simp only [↓QA,QB,Nat.reduceLT,reduceIte,Nat.reduceEqDiff,Nat.reduceAdd,Nat.reduceLeDiff,Nat.reduceMul,Nat.reduceBEq,eS,hj1,hr,i3,i5,c3,hget,hg5,P8,hwA,hwF,hset,vH,a7]|refine rd0 rfl ?_)))
      refine ⟨(j+1,F+Q,SS++[⟨i,r,F,F+Q⟩],true),⟨by simp only;omega,by simp only;omega,by simp only;omega,?_,hgo⟩,by simp only;omega,?_⟩
      ·refine ⟨by simp;omega,fun x hx=>?_,fun x hx=>?_⟩
       ·rcases List.mem_append.1 hx with hx|hx
        ·have:=hso.til x hx;simp only;omega
        ·simp only [List.mem_singleton] at hx;subst hx;simp only;omega
       ·rcases List.mem_append.1 hx with hx|hx
        ·exact hso.frm x hx
        ·simp only [List.mem_singleton] at hx;subst hx;simp only;omega
      ·try simp only [aC,QE,Nat.reduceLT,reduceIte,Nat.reduceEqDiff,Nat.reduceAdd,Nat.reduceLeDiff,Nat.reduceMul,Nat.reduceBEq,eS,hwj,ints,hk2,hk4,List.map_append,List.map_cons,List.map_nil]
       try simp [aJ,okVs,okV,EQ]
     ·have hj1:j=p.length:=by
       have:¬j<p.length:=by simpa using h2
       omega
      rw [List.drop_eq_nil_of_le (by omega),mK] at hgo
      subst hgo
      (repeat (first|simp only [↓QA,QB,Nat.reduceLT,reduceIte,Nat.reduceEqDiff,Nat.reduceAdd,Nat.reduceLeDiff,Nat.reduceMul,Nat.reduceBEq,eS]|refine rd0 rfl ?_))
      refine hK _ ex ?_ ?_ ?_ ?_ ?_ ?_ ?_
      all_goals try simp only [aC,QE,Nat.reduceLT,reduceIte,Nat.reduceEqDiff,Nat.reduceAdd,Nat.reduceLeDiff,Nat.reduceMul,Nat.reduceBEq,eS]
   cases hc:p.any (fun r=>m r==0)
   ·rw [hc] at hgo
    simp only [Bool.false_eq_true,if_false] at hgo
    (repeat (first|simp only [↓QA,QB,Nat.reduceLT,reduceIte,Nat.reduceEqDiff,Nat.reduceAdd,Nat.reduceLeDiff,Nat.reduceMul,Nat.reduceBEq,eS]|refine rd0 rfl ?_))
    refine hwt _ _ _ ?_ ?_ ?_ ?_ ?_ ?_ ?_ ?_ ?_ ?_ ?_ hc hgo.symm ?_
    all_goals try try simp only [aC,QE,Nat.reduceLT,reduceIte,Nat.reduceEqDiff,Nat.reduceAdd,Nat.reduceLeDiff,Nat.reduceMul,Nat.reduceBEq,eS,ints]
    intro e' ex' q2 q4 q6 q7 q18 q19 q20
    (repeat (first|simp only [↓QA,QB,Nat.reduceLT,reduceIte,Nat.reduceEqDiff,Nat.reduceAdd,Nat.reduceLeDiff,Nat.reduceMul,Nat.reduceBEq,eS,q2,q4,q6,q7,q18,q19,q20,hwi]|refine rd0 rfl ?_))
    refine ⟨(i+1,ex'),by simp only;omega,by simp only;omega,?_⟩
    try simp only [aC,QE,Nat.reduceLT,reduceIte,Nat.reduceEqDiff,Nat.reduceAdd,Nat.reduceLeDiff,Nat.reduceMul,Nat.reduceBEq,eS,q2,q4,q6,q7,q18,q19,q20,hwi,hsu1,hsu2,hk2,hk4]
    try simp [aJ,okVs,okV,EQ]
   ·rw [hc] at hgo
    simp only [if_true] at hgo
    subst hgo
    (repeat (first|simp only [↓QA,QB,Nat.reduceLT,reduceIte,Nat.reduceEqDiff,Nat.reduceAdd,Nat.reduceLeDiff,Nat.reduceMul,Nat.reduceBEq,eS,hset,i3,c3,vH,hwi]|refine rd0 rfl ?_))
    refine ⟨(i+1,ex),by simp only;omega,by simp only;omega,?_⟩
    try simp only [aC,QE,Nat.reduceLT,reduceIte,Nat.reduceEqDiff,Nat.reduceAdd,Nat.reduceLeDiff,Nat.reduceMul,Nat.reduceBEq,eS,hwi,hsu1,hsu2,hk2,hk4]
    try simp [aJ,okVs,okV,EQ]
  ·have hi1:i=v.trams.length:=by
    have:¬i<v.trams.length:=by simpa using h
    omega
   rw [hi1]
   (repeat (first|simp only [↓QA,QB,Nat.reduceLT,reduceIte,Nat.reduceEqDiff,Nat.reduceAdd,Nat.reduceLeDiff,Nat.reduceMul,Nat.reduceBEq,eS]|refine rd0 rfl ?_))
   refine fI [.cells (bL 5 M),.cells (bL 3 (cM (dP v m ps v.trams.length).2)),.tok 3 (dP v m ps v.trams.length).1.length ex] (by first|rfl|simp) ?_
   try simp only [QS,QC,Nat.reduceLT,reduceIte,Nat.reduceEqDiff,Nat.reduceAdd,Nat.reduceLeDiff,Nat.reduceMul,Nat.reduceBEq,eS,gE]
end Go.Am.Room
set_option maxRecDepth 8000
namespace Go.Am.Room
def iG:=And.intro @bD (And.intro @aI (And.intro @aX (And.intro @aW (And.intro @aV (And.intro @aS (And.intro @bC (And.intro @a9 (And.intro @aZ (And.intro @dH (And.intro @dF (And.intro @Nat.not_lt_zero (And.intro @List.length_append.{0} (And.intro @Nat.zero_add (And.intro @Nat.mul_one (And.intro @Int.toNat_natCast (And.intro @eH (And.intro @fO (And.intro @fP (And.intro @kQ (And.intro @fQ (And.intro @g7 (And.intro @g9 (And.intro @g8 (And.intro @gY (And.intro @hH (And.intro @gZ (And.intro @Nat.add_lt_add_iff_left (@Nat.lt_add_right_iff_pos))))))))))))))))))))))))))))
def rl (l:List Int) (i:Nat):Int:=(l[i]?).getD 0
theorem Y0 {l:List Int} {k:Nat} (h:k<l.length):rl l k=l[k]:=by simp [rl,h]
theorem SJ (c:List Int) (i:Nat):rlI c (i:Int)=rl c i:=by simp [rlI,rl]
theorem PL {a b:List Int} (h1:a.length=b.length) (h2:a.length≤5):((List.range 5).all fun i=>rl a i==rl b i)=decide (a=b):=by
 rw [Bool.eq_iff_iff,List.all_eq_true,decide_eq_true_eq]
 constructor
 ·intro h
  refine List.ext_getElem h1 fun i hi1 hi2=>?_
  have:=h i (by simp;omega)
  rw [beq_iff_eq,Y0 (by omega),Y0 (by omega)] at this
  exact this
 ·rintro rfl i _
  simp
abbrev K5:={ c:List Int // c.length=5 }
def pad (c:List Int):K5:=⟨(List.range 5).map (rl c),by simp⟩
theorem QK (c:List Int) {i:Nat} (h:i<5):rl (pad c).1 i=rl c i:=by simp [pad,rl,h]
theorem VI (c:List Int):bL 5 (rl (pad c).1)=bL 5 (rl c):=KF fun i hi=>QK c hi
theorem MH (v:Net) {c:List Int} (h:c.length≤5):dO v (pad c).1=dO v c:=by
 have:rlI (pad c).1=rlI c:=by
  funext r
  simp only [rlI]
  by_cases hr:r.toNat<5
  ·exact QK c hr
  ·rw [List.getElem?_eq_none (by rw [(pad c).2];omega),List.getElem?_eq_none (by omega)]
 rw [dO,dO,this]
def UO (w:K5):AV:=.agg (bL 5 (rl w.1))
theorem WO (w:K5):UO w = .agg (bL 5 (rl w.1)):=by simp only [UO]
def VE (v:Net) (w:K5):AV:=.agg (bL 3 (cM (dO v w.1)))
theorem W7 (v:Net) (w:K5):VE v w = .agg (bL 3 (cM (dO v w.1))):=by simp only [VE]
theorem AS (v:Net):KeyIs (.agg [.i,.i,.i,.i,.i]) UO (VE v) where
 eq:=fun w x=>by
  have:=K7 5 (rl w.1) (rl x.1)
  rw [PL (by rw [w.2,x.2]) (by rw [w.2];exact Nat.le_refl _)] at this
  have e:decide (w.1=x.1)=decide (w=x):=by rw [decide_eq_decide];exact Subtype.ext_iff.symm
  rw [e] at this
  exact this
 dk:=fun w=>i7 (nO _ _)
 dv:=fun w=>i7 (nO _ _)
abbrev tEs (v:Net):List K5→List (AV×AV):=qX UO (VE v)
def UG (k:Nat):AV:=if k=0 then .func 116 [] [] else if k=1 then .func 117 [] [] else .func 118 [] []
def lX:List AV:=[.func 116 [] [],.func 117 [] [],.func 118 [] []]
theorem sC:lX=[.func 116 [] [],.func 117 [] [],.func 118 [] []]:=by simp only [lX]
theorem R5 {k:Nat} (h:k<3):lX[k]? = some (UG k):=by
 have:k=0∨k=1∨k=2:=by omega
 rcases this with rfl|rfl|rfl<;>rfl
theorem C7 (k:Nat) (hk:k<3) (c:Bool) (σ:St):jJ T (UG k) [.bool c] σ (.bool (tW (k:Int) c)):=by
 have:k=0∨k=1∨k=2:=by omega
 rcases this with rfl|rfl|rfl
 ·refine eV (af:=a116) rfl (by simp [a116]) ?_
  (repeat (first|simp only [↓QA,QB,Nat.reduceLT,reduceIte,Nat.reduceEqDiff,Nat.reduceAdd,Nat.reduceLeDiff,Nat.reduceMul,Nat.reduceBEq,iG,a116]|refine rd0 rfl ?_))
  refine fI [] (by first|rfl|simp) ?_
  cases c<;>(rw [EN];rfl)
 ·refine eV (af:=a117) rfl (by simp [a117]) ?_
  (repeat (first|simp only [↓QA,QB,Nat.reduceLT,reduceIte,Nat.reduceEqDiff,Nat.reduceAdd,Nat.reduceLeDiff,Nat.reduceMul,Nat.reduceBEq,iG,a117]|refine rd0 rfl ?_))
  refine fI [] (by first|rfl|simp) ?_
  cases c<;>(rw [EN];rfl)
 ·refine eV (af:=a118) rfl (by simp [a118]) ?_
  (repeat (first|simp only [↓QA,QB,Nat.reduceLT,reduceIte,Nat.reduceEqDiff,Nat.reduceAdd,Nat.reduceLeDiff,Nat.reduceMul,Nat.reduceBEq,iG,a118]|refine rd0 rfl ?_))
  refine fI [] (by first|rfl|simp) ?_
  cases c<;>(rw [EN];rfl)
theorem IV (σ:St):jJ T (.func 107 [] []) [] σ (.agg lX):=by
 refine eV (af:=a107) rfl (by simp [a107]) ?_
 have j0:(0:Int)≤0∧(0:Int)<((3:Nat):Int):=by decide
 have j1:(0:Int)≤1∧(1:Int)<((3:Nat):Int):=by decide
 have j2:(0:Int)≤2∧(2:Int)<((3:Nat):Int):=by decide
 have t0:Int.toNat 0=0:=rfl
 have t1:Int.toNat 1=1:=rfl
 have t2:Int.toNat 2=2:=rfl
 (repeat (first|simp only [↓QA,QB,Nat.reduceLT,reduceIte,Nat.reduceEqDiff,Nat.reduceAdd,Nat.reduceLeDiff,Nat.reduceMul,Nat.reduceBEq,iG,a107,j0,j1,j2,t0,t1,t2]|refine rd0 rfl ?_))
 refine fI [.cells lX] (by first|rfl|simp [lX]) ?_
 try simp only [QS,QC,Nat.reduceLT,reduceIte,Nat.reduceEqDiff,Nat.reduceAdd,Nat.reduceLeDiff,Nat.reduceMul,Nat.reduceBEq,iG,sC,E3]
theorem W2 (v:Net) (hv:Vd v) (b m p q tt s2 s5:Nat) (bl CS:List Int) (hb:ButIs b bl) (hcl:CS.length=v.trams.length) (σ:St) (hq:aK σ q=some [.ptr p 0]) (hp:aK σ p=some (db v b m)) (ht:aK σ tt=some (bL 3 (cM CS))) (hs2:s2<σ.length) (hs5:s5<σ.length) (e:Env) (K:KJ)
  (e1:Env.get e 1 = .ptr q 0) (e2:Env.get e 2 = .ptr s2 0) (e5:Env.get e 5 = .ptr s5 0) (e10:Env.get e 10 = .ptr tt 0) (e58:Env.get e 58 = .lit (v.seen.map eL) false none) (e59:Env.get e 59 = .int .i64 v.seen.length) (e60:Env.get e 60 = .int .i64 0)
  (hKt:kX v bl CS=true→∀ e',Env.get e' 2 = .ptr s2 0→Env.get e' 5 = .ptr s5 0→Env.get e' 10 = .ptr tt 0→K (some (.exit 0)) e' σ)
  (hKf:kX v bl CS=false→∀ e' τ',Env.get e' 9 = .bool true→K (some .ret) e' (σ++τ')) :
  rK (K:=⟨K⟩) T (.loop FF) e σ:=by
 have hse:=hv.nse
 have hnt:=hv.ntr
 have hql:=pK hq
 have htl:=pK ht
 have hq2:=fun τ=>j5 hq τ
 have hp2:=fun τ=>j5 hp τ
 have ht2:=fun τ=>j5 ht τ
 refine bY (S:=Nat) 0 (fun k=>k≤v.seen.length∧nF v bl CS k=true) (fun k=>v.seen.length-k)
  (fun k=>[(1,.ptr q 0),(2,.ptr s2 0),(5,.ptr s5 0),(10,.ptr tt 0),(58,.lit (v.seen.map eL) false none),(59,.int .i64 v.seen.length),(60,.int .i64 k)])
  (fun k=>σ) ⟨Nat.zero_le _,rfl⟩ rfl ?_ fun k hk=>?_
 ·try simp only [aC,QE,Nat.reduceLT,reduceIte,Nat.reduceEqDiff,Nat.reduceAdd,Nat.reduceLeDiff,Nat.reduceMul,Nat.reduceBEq,iG,e1,e2,e5,e10,e58,e59,e60]
  try simp [hs2,hs5,hql,htl]
 ·obtain ⟨hk,hok⟩:=hk
  (repeat (first|simp only [↓QA,QB,Nat.reduceLT,reduceIte,Nat.reduceEqDiff,Nat.reduceAdd,Nat.reduceLeDiff,Nat.reduceMul,Nat.reduceBEq,iG,FF]|refine rd0 rfl ?_))
  refine aG (fun hd=>?_) fun hd=>?_
  ·have hk1:k<v.seen.length:=by simpa using hd
   have hw:=bV hk1 (by omega)
   have hsu:=yB hk1 bl CS
   have hsx:=hv.se _ (List.getElem_mem hk1)
   obtain ⟨x,hx⟩:∃ x,v.seen[k]=x:=⟨_,rfl⟩
   rw [hx] at hsu hsx
   rw [hok,Bool.true_and] at hsu
   obtain ⟨t,hte⟩:∃ t:Nat,x.tram=t:=⟨x.tram.toNat,by omega⟩
   rw [hte] at hsu hsx
   have hdiv:b/2^k<9223372036854775808:=Nat.lt_of_le_of_lt (Nat.div_le_self _ _) hb.lt
   have hbit:=hb.bit k (by omega)
   have vs:=PE b k (by omega)
   have va:=IW (b/2^k) hdiv
   have i3:(0:Int)≤(t:Int)∧(t:Int)<((3:Nat):Int):=⟨by omega,by omega⟩
   have hg:=jS 3 (cM CS) (i:=t) (by omega)
   have hcf:cM CS t=d8 CS (t:Int):=rfl
   rw [hcf] at hg
   obtain ⟨C,hC⟩:∃ C,d8 CS (t:Int)=C:=⟨_,rfl⟩
   rw [hC] at hsu hg
   have go:nF v bl CS (k+1)=true→(k+1≤v.seen.length∧nF v bl CS (k+1)=true):=fun q=>⟨by omega,q⟩
   have snp:∀ τ n,n<σ.length→cN (σ++τ) σ.length 20 (.ptr n 0)=some (.ptr n 0):=fun τ n hn=>by rw [ZG,if_pos hn]
   cases h2:bl.contains (k:Int)
   ·rw [h2] at hbit hsu
    rw [Bool.false_or] at hsu
    cases h3:(C==x.minute)
    ·rw [h3] at hsu
     have hqf:kX v bl CS=false:=by
      rw [←uS]
      simp only [nF,List.all_eq_false,List.mem_range] at hsu ⊢
      obtain ⟨a,ha,h1⟩:=hsu
      exact ⟨a,by omega,h1⟩
     (repeat (first|simp only [↓QA,QB,Nat.reduceLT,reduceIte,Nat.reduceEqDiff,Nat.reduceAdd,Nat.reduceLeDiff,Nat.reduceMul,Nat.reduceBEq,iG,hk1,hx,hte,hq2,hp2,ht2,vs,va,hbit,i3,hg,h3]|refine rd0 rfl ?_))
     exact hKf hqf _ _ (by try simp only [aC,QE,Nat.reduceLT,reduceIte,Nat.reduceEqDiff,Nat.reduceAdd,Nat.reduceLeDiff,Nat.reduceMul,Nat.reduceBEq,iG])
    ·rw [h3] at hsu
     (repeat (first|simp only [↓QA,QB,Nat.reduceLT,reduceIte,Nat.reduceEqDiff,Nat.reduceAdd,Nat.reduceLeDiff,Nat.reduceMul,Nat.reduceBEq,iG,hk1,hx,hte,hq2,hp2,ht2,vs,va,hbit,i3,hg,h3]|refine rd0 rfl ?_))
     refine ⟨k+1,go hsu,by omega,?_⟩
     try simp only [aC,QE,Nat.reduceLT,reduceIte,Nat.reduceEqDiff,Nat.reduceAdd,Nat.reduceLeDiff,Nat.reduceMul,Nat.reduceBEq,iG,hw,snp _ _ hql,snp _ _ hs2,snp _ _ hs5,snp _ _ htl]
     try simp [aJ,hs2,hs5,hql,htl]
   ·rw [h2] at hbit hsu
    rw [Bool.true_or] at hsu
    (repeat (first|simp only [↓QA,QB,Nat.reduceLT,reduceIte,Nat.reduceEqDiff,Nat.reduceAdd,Nat.reduceLeDiff,Nat.reduceMul,Nat.reduceBEq,iG,hk1,hx,hte,hq2,hp2,ht2,vs,va,hbit]|refine rd0 rfl ?_))
    refine ⟨k+1,go hsu,by omega,?_⟩
    try simp only [aC,QE,Nat.reduceLT,reduceIte,Nat.reduceEqDiff,Nat.reduceAdd,Nat.reduceLeDiff,Nat.reduceMul,Nat.reduceBEq,iG,hw,snp _ _ hql,snp _ _ hs2,snp _ _ hs5,snp _ _ htl]
    try simp [aJ,hs2,hs5,hql,htl]
  ·have hk1:k=v.seen.length:=by
    have:¬k<v.seen.length:=by simpa using hd
    omega
   rw [hk1,uS] at hok
   (repeat (first|simp only [↓QA,QB,Nat.reduceLT,reduceIte,Nat.reduceEqDiff,Nat.reduceAdd,Nat.reduceLeDiff,Nat.reduceMul,Nat.reduceBEq,iG]|refine rd0 rfl ?_))
   refine hKt hok _ ?_ ?_ ?_
   all_goals try simp only [aC,QE,Nat.reduceLT,reduceIte,Nat.reduceEqDiff,Nat.reduceAdd,Nat.reduceLeDiff,Nat.reduceMul,Nat.reduceBEq,iG]
end Go.Am.Room
set_option maxRecDepth 8000
namespace Go.Am.Room
def dR:=And.intro @bD (And.intro @aI (And.intro @aX (And.intro @aW (And.intro @aV (And.intro @aS (And.intro @bC (And.intro @a9 (And.intro @aZ (And.intro @dH (And.intro @dF (And.intro @Nat.not_lt_zero (And.intro @List.length_append.{0} (And.intro @Nat.zero_add (And.intro @Nat.mul_one (And.intro @Int.toNat_natCast (And.intro @eH (And.intro @fO (And.intro @fP (And.intro @kQ (And.intro @fQ (And.intro @g7 (And.intro @g9 (And.intro @g8 (And.intro @gY (And.intro @hH (And.intro @gZ (And.intro @Nat.add_lt_add_iff_left (And.intro @Nat.lt_add_right_iff_pos (And.intro @oH (@oB))))))))))))))))))))))))))))))
def jT {A X:Type} [DecidableEq A] (f:A→X→X×Bool) (a:A) (s:Option A×X):(Option A×X)×Bool:=if s.1=some a then (s,true) else ((some a,(f a s.2).1),(f a s.2).2)
theorem BM {A X:Type} [DecidableEq A] (f:A→X→X×Bool):∀ (l:List A) (o:Option A) (x:X),l.Pairwise (·≠·)→(∀ a∈l,o≠some a)→(bT (jT f) l (o,x)).1.2=(bT f l x).1∧(bT (jT f) l (o,x)).2=(bT f l x).2
 |[],o,x,_,_=>⟨rfl,rfl⟩
 |a::l,o,x,h,ho=>by
  have h0:=ho a (by simp)
  obtain ⟨h1,h2⟩:=List.pairwise_cons.1 h
  have ih:=BM f l (some a) (f a x).1 h2 fun b hb e=>h1 b hb (by simpa using e)
  simp only [bT,jT,h0,if_false]
  split
  ·exact ih
  ·exact ⟨rfl,rfl⟩
theorem wI {A X:Type} [DecidableEq A] (f:A→X→X×Bool):∀ (az:List A) (o:Option A) (x:X) (u:A),(bT (jT f) az (o,x)).1.1=some u→o=some u∨u∈az
 |[],o,x,u,h=>.inl h
 |a::az,o,x,u,h=>by
  simp only [bT,jT] at h
  by_cases ho:o=some a
  ·simp only [ho,if_true] at h
   rcases wI f az (some a) x u h with h|h
   ·exact .inl (ho.trans h)
   ·exact .inr (by simp [h])
  ·simp only [ho,if_false] at h
   split at h
   ·rcases wI f az (some a) _ u h with h|h
    ·simp at h;exact .inr (by simp [h])
    ·exact .inr (by simp [h])
   ·simp at h;exact .inr (by simp [h])
theorem E5 (l:List Int) (n:Int):rl (l++[n])=mF (rl l) l.length n:=by
 funext i
 simp only [rl,mF]
 by_cases h:i=l.length
 ·subst h;simp
 ·rw [if_neg h]
  by_cases h2:i<l.length
  ·rw [List.getElem?_append_left h2]
  ·rw [List.getElem?_eq_none (by simp;omega),List.getElem?_eq_none (by omega)]
theorem wJ (l:List Int):mF (rl l) l.length 0=rl l:=by
 funext i
 simp only [mF]
 split
 ·rename_i h;subst h;simp [rl]
 ·rfl
def l0 {X:Type} (v:Net) (bl:List Int) (f:List Int→X→X×Bool) (c:List Int) (y:X×List K5):(X×List K5)×Bool :=
 if qY v bl c=true then (((f c y.1).1,nM y.2 (pad c)),(f c y.1).2) else ((y.1,nM y.2 (pad c)),true)
structure LeafOk (v:Net) (c:List Int):Prop where
 len:c.length=v.rails.length
 mins:BS v (rlI c)
def o4 (v:Net) (c:List Int) (_:Bool) (_:Option Nat):List AV:=[.agg (bL 5 (rl c)),.agg (bL 3 (cM (dO v c)))]
def FD {X:Type} (Zp ZDp:X×List K5→St) (id:Nat) (v:Net) (P:List Int→Prop) (f:List Int→X→X×Bool):Prop :=
 ∀ t,P t→∀ (y:X×List K5) τ,Run T (.callv (.yield id) [.agg (bL 5 (rl t)),.agg (bL 3 (cM (dO v t)))] (Zp y++τ)) fun o=>o.v = .bool (f t y.1).2∧∃ τ',o.σ=Fam.out Zp ZDp (((f t y.1).1,y.2),(f t y.1).2)++(τ++τ')
def CV (q N:Nat):AV:=.func 108 [] [.ptr q 0,.ptr (N+1) 0,.ptr (N+2) 0,.ptr (N+3) 0,.ptr N 0,.ptr (N+4) 0,.ptr (N+5) 0]
theorem zU (q N:Nat):CV q N = .func 108 [] [.ptr q 0,.ptr (N+1) 0,.ptr (N+2) 0,.ptr (N+3) 0,.ptr N 0,.ptr (N+4) 0,.ptr (N+5) 0]:=by simp only [CV]
def jU (id q N:Nat) (o:Option (List Int)) (A:Nat→Int):St:=[.cells [.yield id],.cells (bL 5 A),.cells (bL 5 (rl (o.getD []))),.cells [.bool o.isNone],.cells lX,.cells [CV q N]]
theorem eA (id q N:Nat) (o:Option (List Int)) (A:Nat→Int) (τ:St):jU id q N o A++τ = .cells [.yield id]::.cells (bL 5 A)::.cells (bL 5 (rl (o.getD [])))::.cells [.bool o.isNone]::.cells lX::.cells [CV q N]::τ:=by simp [jU]
def D0 {X:Type} (Zp ZDp:X×List K5→St) (id q N:Nat) (l:List Int) (τ:St) (r:(Option (List Int)×(X×List K5))×Bool) (o:Out):Prop :=
 o.v = .bool r.2∧∃ A τ',o.σ=Fam.out Zp ZDp (r.1.2,r.2)++(jU id q N r.1.1 A++(τ++τ'))∧(r.2=true→A=rl l)
theorem P6 {X:Type} {Zp ZDp:X×List K5→St} {v:Net} {b p m q N:Nat} {bl:List Int} (hR:Fam Zp ZDp (db v b m) p q N) (hS:∀ x,MemAt (fun A=>Zp (x,A)) (db v b m) (tEs v) p m N) (hv:Vd v) (hb:ButIs b bl) {id:Nat} {P:List Int→Prop} {f:List Int→X→X×Bool} (hy:FD Zp ZDp id v P f)
  (c:List Int) (hc:LeafOk v c) (hP:qY v bl c=true→P c) (o:Option (List Int)) (ho:∀ u,o=some u→u.length=v.rails.length) (y:X×List K5) (τ:St) :
  Run T (.callv (CV q N) [.int .i64 c.length] (Zp y++(jU id q N o (rl c)++τ))) (D0 Zp ZDp id q N c τ (jT (l0 v bl f) c (o,y))):=by
 have hnr:=hv.nra
 have hcl:=hc.len
 simp only [zU]
 refine .callf (.call (af:=a108) rfl (by simp [a108]) (jQ (K:=fun j e σ'=>(j=none∨j=some .ret)∧D0 Zp ZDp id q N c τ (jT (l0 v bl f) c (o,y)) ⟨none,[],σ',Env.get e 9⟩) ?_ fun o ho=>ho) fun w hw=>⟨hw.1,_,rfl,.inl hw.2⟩)
 have hE:((c.length:Int)==(v.rails.length:Int))=true:=by rw [hcl];simp
 have heq:bK [.i,.i,.i,.i,.i] (bL 5 (rl c)) (bL 5 (rl (o.getD [])))=some ((List.range 5).all fun i=>rl c i==rl (o.getD []) i):=K7 5 (rl c) (rl (o.getD []))
 obtain ⟨B,hB⟩:∃ B,((List.range 5).all fun i=>rl c i==rl (o.getD []) i)=B:=⟨_,rfl⟩
 rw [hB] at heq
 by_cases hu:o=some c
 ·subst hu
  have hBt:B=true:=by rw [←hB];simp
  subst hBt
  have hon:jT (l0 v bl f) c (some c,y)=((some c,y),true):=by simp [jT]
  rw [hon,eA]
  simp only [Option.getD_some] at heq
  (repeat (first|simp only [↓QA,QB,Nat.reduceLT,reduceIte,Nat.reduceEqDiff,Nat.reduceAdd,Nat.reduceLeDiff,Nat.reduceMul,Nat.reduceBEq,dR,hR.len,hR.base,hR.base0,hR.bset,hR.bset0,hR.at1,hR.atq1,a108,hE,heq,Option.isNone_some,Option.getD_some]|refine rd0 rfl ?_))
  exact ⟨rfl,rl c,[],by simp [jU,Fam.out],fun _=>rfl⟩
 ·have hon:jT (l0 v bl f) c (o,y)=((some c,(l0 v bl f c y).1),(l0 v bl f c y).2):=by simp [jT,hu]
  have hgo:(B&&!o.isNone)=false:=by
   cases o with
   |none=>simp
   |some u =>
    have hul:=ho u rfl
    have:B=decide (c=u):=by rw [←hB];exact PL (a:=c) (b:=u) (by omega) (by omega)
    rw [this]
    simp only [Option.isNone_some,Bool.not_false,Bool.and_true,decide_eq_false_iff_not]
    rintro rfl
    exact hu rfl
  rw [hon]
  obtain ⟨x,A⟩:=y
  obtain ⟨A',hA'⟩:∃ A',nM A (pad c)=A':=⟨_,rfl⟩
  have hper:l0 v bl f c (x,A)=if qY v bl c=true then (((f c x).1,A'),(f c x).2) else ((x,A'),true):=by rw [l0,hA']
  have hl1:=fun τ=>WQ (AS v) (hS x) A τ (pad c)
  have hput:=fun τ (hw:pad c∉A)=>aAM (AS v) (hS x) A τ (pad c) hw
  simp only [WO,W7,VI,MH v (show c.length≤5 by omega)] at hl1 hput
  have hcal:=hy c
  have hfit:qY v bl c=kX v bl (dO v c):=rfl
  have hcc:(dO v c).length=v.trams.length:=oE _ _ _ _
  obtain ⟨CS,hCS⟩:∃ CS,dO v c=CS:=⟨_,rfl⟩
  have hrun:∀ (σ:St) (hσ:aK σ p=some (db v b m)),jJ T (.func 109 [] []) [.ptr p 0,.agg (bL 5 (rl c)),.func 110 [.ptr p 0] []] σ (.agg (bL 3 (cM CS))):=fun σ hσ=>by
   have hpl:=pK hσ
   rw [←hCS]
   exact IH v hv b m p σ hσ hpl _ (fun τ n hn=>by
    try simp only [QS,QC,Nat.reduceLT,reduceIte,Nat.reduceEqDiff,Nat.reduceAdd,Nat.reduceLeDiff,Nat.reduceMul,Nat.reduceBEq,dR,hR.len,hR.base,hR.base0,hR.bset,hR.bset0,hR.at1,hR.atq1,E3]
    simp [show p<n by omega]) (gR v) (TC hv) (fun i hi τ=>S8 v b m p _ (j5 hσ τ) i hi) (rl c) (rlI c) (SJ c) hc.mins
  rw [hCS] at hl1 hput hfit hcc hcal
  have hpN:=hR.pl
  have hqN:=hR.ql
  have hP':=hP
  rw [hfit] at hP' hper
  rw [eA]
  -- behind the look into the map: the things that were seen
  have tail:∀ (e:Env) (K:KJ),Env.get e 1 = .ptr q 0→Env.get e 2 = .ptr (N+1) 0→Env.get e 5 = .ptr N 0→Env.get e 10 = .ptr (N+(τ.length+1+1+1+1+1+1)) 0→Env.get e 58 = .lit (v.seen.map eL) false none→Env.get e 59 = .int .i64 v.seen.length→Env.get e 60 = .int .i64 0 →
    (kX v bl CS=true→∀ e',Env.get e' 2 = .ptr (N+1) 0→Env.get e' 5 = .ptr N 0→Env.get e' 10 = .ptr (N+(τ.length+1+1+1+1+1+1)) 0→K (some (.exit 0)) e' (Zp (x,A')++(jU id q N (some c) (rl c)++(τ++[.cells (bL 3 (cM CS))])))) →
    (kX v bl CS=false→∀ e' τ',Env.get e' 9 = .bool true→K (some .ret) e' ((Zp (x,A')++(jU id q N (some c) (rl c)++(τ++[.cells (bL 3 (cM CS))])))++τ')) →
    rK (K:=⟨K⟩) T (.loop FF) e (Zp (x,A')++(jU id q N (some c) (rl c)++(τ++[.cells (bL 3 (cM CS))]))):=by
   intro e K e1 e2 e5 e10 e58 e59 e60 hKt hKf
   refine W2 v hv b m p q (N+(τ.length+1+1+1+1+1+1)) (N+1) N bl CS hb hcc _ (hR.atq1 _ _) (hR.at1 _ _) ?_ ?_ ?_ e K e1 e2 e5 e10 e58 e59 e60 hKt hKf
   ·rw [eA,hR.base]
    simp only [rA]
    have:=jG τ [.cells (bL 3 (cM CS))]
    rw [this];rfl
   ·simp [hR.len,jU]
   ·simp [hR.len,jU]
  have hta:∀ (y:X×List K5) (b0 b1 b2 b3 b4 b5:ABlk),aK (Zp y++(b0::b1::b2::b3::b4::b5::(τ++[.cells (bL 3 (cM CS))]))) (N+(τ.length+1+1+1+1+1+1))=some (bL 3 (cM CS)):=fun y b0 b1 b2 b3 b4 b5=>by
   rw [hR.base]
   simp only [rA]
   rw [jG];rfl
  have htz:∀ (y:X×List K5) (b0 b1 b2 b3 b4 b5:ABlk) (cs:List AV),aK (Zp y++(b0::b1::b2::b3::b4::b5::(τ++[.cells cs]))) (N+(τ.length+1+1+1+1+1+1))=some cs:=fun y b0 b1 b2 b3 b4 b5 cs=>by
   rw [hR.base]
   simp only [rA]
   rw [jG];rfl
  have hts:∀ (y:X×List K5) (b0 b1 b2 b3 b4 b5:ABlk) (cs:List AV) (B:ABlk),(Zp y++(b0::b1::b2::b3::b4::b5::(τ++[.cells cs]))).set (N+(τ.length+1+1+1+1+1+1)) B=Zp y++(b0::b1::b2::b3::b4::b5::(τ++[B])):=fun y b0 b1 b2 b3 b4 b5 cs B=>by
   rw [hR.bset]
   simp only [List.set_cons_succ]
   rw [LZ];rfl
  have hlen:∀ (y:X×List K5),(Zp y).length=N:=hR.len
  by_cases hw:pad c∈A
  ·have hA2:A'=A:=by rw [←hA',nM,if_pos hw]
   subst hA2
   simp only [hw,if_true] at hl1
   cases B
   ·(repeat (first|simp only [↓QA,QB,Nat.reduceLT,reduceIte,Nat.reduceEqDiff,Nat.reduceAdd,Nat.reduceLeDiff,Nat.reduceMul,Nat.reduceBEq,dR,hR.len,hR.base,hR.base0,hR.bset,hR.bset0,hR.at1,hR.atq1,a108,hE,heq]|refine rd0 rfl ?_))
    refine pP [.cells [.int .i64 0,.int .i64 0,.int .i64 0]] rfl ?_
    (repeat (first|simp only [↓QA,QB,Nat.reduceLT,reduceIte,Nat.reduceEqDiff,Nat.reduceAdd,Nat.reduceLeDiff,Nat.reduceMul,Nat.reduceBEq,dR,hR.len,hR.base,hR.base0,hR.bset,hR.bset0,hR.at1,hR.atq1,hl1,zI,y3,hlen,htz,hts]|refine rd0 rfl ?_))
    refine tail _ _ ?_ ?_ ?_ ?_ ?_ ?_ ?_ ?_ ?_
    all_goals try try simp only [aC,QE,Nat.reduceLT,reduceIte,Nat.reduceEqDiff,Nat.reduceAdd,Nat.reduceLeDiff,Nat.reduceMul,Nat.reduceBEq,dR,hR.len,hR.base,hR.base0,hR.bset,hR.bset0,hR.at1,hR.atq1]
    ·intro hs e' q2 q5 q10
     have hc2:=fun A=>hcal (hP' hs) (x,A)
     rw [hs,if_pos rfl] at hper
     rw [hper,eA]
     (repeat (first|simp only [↓QA,QB,Nat.reduceLT,reduceIte,Nat.reduceEqDiff,Nat.reduceAdd,Nat.reduceLeDiff,Nat.reduceMul,Nat.reduceBEq,dR,hR.len,hR.base,hR.base0,hR.bset,hR.bset0,hR.at1,hR.atq1,q2,q5,q10,hta]|refine rd0 rfl ?_))
     refine .mono (hc2 _ _) fun w hw=>?_
     obtain ⟨hw1,τ',hw2⟩:=hw
     rw [hw1,hw2]
     (repeat (first|simp only [↓QA,QB,Nat.reduceLT,reduceIte,Nat.reduceEqDiff,Nat.reduceAdd,Nat.reduceLeDiff,Nat.reduceMul,Nat.reduceBEq,dR,hR.len,hR.base,hR.base0,hR.bset,hR.bset0,hR.at1,hR.atq1,q2,q5,q10]|refine rd0 rfl ?_))
     exact ⟨rfl,rl c,[.cells (bL 3 (cM CS))]++τ',by simp [jU],fun _=>rfl⟩
    ·intro hs e' τ' q9
     rw [hs] at hper
     simp only [Bool.false_eq_true,if_false] at hper
     rw [hper]
     (repeat (first|simp only [↓QA,QB,Nat.reduceLT,reduceIte,Nat.reduceEqDiff,Nat.reduceAdd,Nat.reduceLeDiff,Nat.reduceMul,Nat.reduceBEq,dR,hR.len,hR.base,hR.base0,hR.bset,hR.bset0,hR.at1,hR.atq1,q9]|refine rd0 rfl ?_))
     exact ⟨rfl,rl c,[.cells (bL 3 (cM CS))]++τ',by simp [Fam.out],fun _=>rfl⟩
   ·rw [Bool.true_and] at hgo
    have hgo':o.isNone=true:=by simpa using hgo
    (repeat (first|simp only [↓QA,QB,Nat.reduceLT,reduceIte,Nat.reduceEqDiff,Nat.reduceAdd,Nat.reduceLeDiff,Nat.reduceMul,Nat.reduceBEq,dR,hR.len,hR.base,hR.base0,hR.bset,hR.bset0,hR.at1,hR.atq1,a108,hE,heq,hgo']|refine rd0 rfl ?_))
    refine pP [.cells [.int .i64 0,.int .i64 0,.int .i64 0]] rfl ?_
    (repeat (first|simp only [↓QA,QB,Nat.reduceLT,reduceIte,Nat.reduceEqDiff,Nat.reduceAdd,Nat.reduceLeDiff,Nat.reduceMul,Nat.reduceBEq,dR,hR.len,hR.base,hR.base0,hR.bset,hR.bset0,hR.at1,hR.atq1,hl1,zI,y3,hlen,htz,hts]|refine rd0 rfl ?_))
    refine tail _ _ ?_ ?_ ?_ ?_ ?_ ?_ ?_ ?_ ?_
    all_goals try try simp only [aC,QE,Nat.reduceLT,reduceIte,Nat.reduceEqDiff,Nat.reduceAdd,Nat.reduceLeDiff,Nat.reduceMul,Nat.reduceBEq,dR,hR.len,hR.base,hR.base0,hR.bset,hR.bset0,hR.at1,hR.atq1]
    ·intro hs e' q2 q5 q10
     have hc2:=fun A=>hcal (hP' hs) (x,A)
     rw [hs,if_pos rfl] at hper
     rw [hper,eA]
     (repeat (first|simp only [↓QA,QB,Nat.reduceLT,reduceIte,Nat.reduceEqDiff,Nat.reduceAdd,Nat.reduceLeDiff,Nat.reduceMul,Nat.reduceBEq,dR,hR.len,hR.base,hR.base0,hR.bset,hR.bset0,hR.at1,hR.atq1,q2,q5,q10,hta]|refine rd0 rfl ?_))
     refine .mono (hc2 _ _) fun w hw=>?_
     obtain ⟨hw1,τ',hw2⟩:=hw
     rw [hw1,hw2]
     (repeat (first|simp only [↓QA,QB,Nat.reduceLT,reduceIte,Nat.reduceEqDiff,Nat.reduceAdd,Nat.reduceLeDiff,Nat.reduceMul,Nat.reduceBEq,dR,hR.len,hR.base,hR.base0,hR.bset,hR.bset0,hR.at1,hR.atq1,q2,q5,q10]|refine rd0 rfl ?_))
     exact ⟨rfl,rl c,[.cells (bL 3 (cM CS))]++τ',by simp [jU],fun _=>rfl⟩
    ·intro hs e' τ' q9
     rw [hs] at hper
     simp only [Bool.false_eq_true,if_false] at hper
     rw [hper]
     (repeat (first|simp only [↓QA,QB,Nat.reduceLT,reduceIte,Nat.reduceEqDiff,Nat.reduceAdd,Nat.reduceLeDiff,Nat.reduceMul,Nat.reduceBEq,dR,hR.len,hR.base,hR.base0,hR.bset,hR.bset0,hR.at1,hR.atq1,q9]|refine rd0 rfl ?_))
     exact ⟨rfl,rl c,[.cells (bL 3 (cM CS))]++τ',by simp [Fam.out],fun _=>rfl⟩
  ·have hA2:A'=A++[pad c]:=by rw [←hA',nM,if_neg hw]
   subst hA2
   simp only [hw,if_false] at hl1
   have hput:=fun τ=>hput τ hw
   cases B
   ·(repeat (first|simp only [↓QA,QB,Nat.reduceLT,reduceIte,Nat.reduceEqDiff,Nat.reduceAdd,Nat.reduceLeDiff,Nat.reduceMul,Nat.reduceBEq,dR,hR.len,hR.base,hR.base0,hR.bset,hR.bset0,hR.at1,hR.atq1,a108,hE,heq]|refine rd0 rfl ?_))
    refine pP [.cells [.int .i64 0,.int .i64 0,.int .i64 0]] rfl ?_
    (repeat (first|simp only [↓QA,QB,Nat.reduceLT,reduceIte,Nat.reduceEqDiff,Nat.reduceAdd,Nat.reduceLeDiff,Nat.reduceMul,Nat.reduceBEq,dR,hR.len,hR.base,hR.base0,hR.bset,hR.bset0,hR.at1,hR.atq1,hl1,zI,y3,hlen,htz,hts]|refine rd0 rfl ?_))
    refine bW (hrun _ (hR.at1 _ _)) ?_
    (repeat (first|simp only [↓QA,QB,Nat.reduceLT,reduceIte,Nat.reduceEqDiff,Nat.reduceAdd,Nat.reduceLeDiff,Nat.reduceMul,Nat.reduceBEq,dR,hR.len,hR.base,hR.base0,hR.bset,hR.bset0,hR.at1,hR.atq1,hlen,htz,hts,hput]|refine rd0 rfl ?_))
    refine tail _ _ ?_ ?_ ?_ ?_ ?_ ?_ ?_ ?_ ?_
    all_goals try try simp only [aC,QE,Nat.reduceLT,reduceIte,Nat.reduceEqDiff,Nat.reduceAdd,Nat.reduceLeDiff,Nat.reduceMul,Nat.reduceBEq,dR,hR.len,hR.base,hR.base0,hR.bset,hR.bset0,hR.at1,hR.atq1]
    ·intro hs e' q2 q5 q10
     have hc2:=fun A=>hcal (hP' hs) (x,A)
     rw [hs,if_pos rfl] at hper
     rw [hper,eA]
     (repeat (first|simp only [↓QA,QB,Nat.reduceLT,reduceIte,Nat.reduceEqDiff,Nat.reduceAdd,Nat.reduceLeDiff,Nat.reduceMul,Nat.reduceBEq,dR,hR.len,hR.base,hR.base0,hR.bset,hR.bset0,hR.at1,hR.atq1,q2,q5,q10,hta]|refine rd0 rfl ?_))
     refine .mono (hc2 _ _) fun w hw=>?_
     obtain ⟨hw1,τ',hw2⟩:=hw
     rw [hw1,hw2]
     (repeat (first|simp only [↓QA,QB,Nat.reduceLT,reduceIte,Nat.reduceEqDiff,Nat.reduceAdd,Nat.reduceLeDiff,Nat.reduceMul,Nat.reduceBEq,dR,hR.len,hR.base,hR.base0,hR.bset,hR.bset0,hR.at1,hR.atq1,q2,q5,q10]|refine rd0 rfl ?_))
     exact ⟨rfl,rl c,[.cells (bL 3 (cM CS))]++τ',by simp [jU],fun _=>rfl⟩
    ·intro hs e' τ' q9
     rw [hs] at hper
     simp only [Bool.false_eq_true,if_false] at hper
     rw [hper]
     (repeat (first|simp only [↓QA,QB,Nat.reduceLT,reduceIte,Nat.reduceEqDiff,Nat.reduceAdd,Nat.reduceLeDiff,Nat.reduceMul,Nat.reduceBEq,dR,hR.len,hR.base,hR.base0,hR.bset,hR.bset0,hR.at1,hR.atq1,q9]|refine rd0 rfl ?_))
     exact ⟨rfl,rl c,[.cells (bL 3 (cM CS))]++τ',by simp [Fam.out],fun _=>rfl⟩
   ·rw [Bool.true_and] at hgo
    have hgo':o.isNone=true:=by simpa using hgo
    (repeat (first|simp only [↓QA,QB,Nat.reduceLT,reduceIte,Nat.reduceEqDiff,Nat.reduceAdd,Nat.reduceLeDiff,Nat.reduceMul,Nat.reduceBEq,dR,hR.len,hR.base,hR.base0,hR.bset,hR.bset0,hR.at1,hR.atq1,a108,hE,heq,hgo']|refine rd0 rfl ?_))
    refine pP [.cells [.int .i64 0,.int .i64 0,.int .i64 0]] rfl ?_
    (repeat (first|simp only [↓QA,QB,Nat.reduceLT,reduceIte,Nat.reduceEqDiff,Nat.reduceAdd,Nat.reduceLeDiff,Nat.reduceMul,Nat.reduceBEq,dR,hR.len,hR.base,hR.base0,hR.bset,hR.bset0,hR.at1,hR.atq1,hl1,zI,y3,hlen,htz,hts]|refine rd0 rfl ?_))
    refine bW (hrun _ (hR.at1 _ _)) ?_
    (repeat (first|simp only [↓QA,QB,Nat.reduceLT,reduceIte,Nat.reduceEqDiff,Nat.reduceAdd,Nat.reduceLeDiff,Nat.reduceMul,Nat.reduceBEq,dR,hR.len,hR.base,hR.base0,hR.bset,hR.bset0,hR.at1,hR.atq1,hlen,htz,hts,hput]|refine rd0 rfl ?_))
    refine tail _ _ ?_ ?_ ?_ ?_ ?_ ?_ ?_ ?_ ?_
    all_goals try try simp only [aC,QE,Nat.reduceLT,reduceIte,Nat.reduceEqDiff,Nat.reduceAdd,Nat.reduceLeDiff,Nat.reduceMul,Nat.reduceBEq,dR,hR.len,hR.base,hR.base0,hR.bset,hR.bset0,hR.at1,hR.atq1]
    ·intro hs e' q2 q5 q10
     have hc2:=fun A=>hcal (hP' hs) (x,A)
     rw [hs,if_pos rfl] at hper
     rw [hper,eA]
     (repeat (first|simp only [↓QA,QB,Nat.reduceLT,reduceIte,Nat.reduceEqDiff,Nat.reduceAdd,Nat.reduceLeDiff,Nat.reduceMul,Nat.reduceBEq,dR,hR.len,hR.base,hR.base0,hR.bset,hR.bset0,hR.at1,hR.atq1,q2,q5,q10,hta]|refine rd0 rfl ?_))
     refine .mono (hc2 _ _) fun w hw=>?_
     obtain ⟨hw1,τ',hw2⟩:=hw
     rw [hw1,hw2]
     (repeat (first|simp only [↓QA,QB,Nat.reduceLT,reduceIte,Nat.reduceEqDiff,Nat.reduceAdd,Nat.reduceLeDiff,Nat.reduceMul,Nat.reduceBEq,dR,hR.len,hR.base,hR.base0,hR.bset,hR.bset0,hR.at1,hR.atq1,q2,q5,q10]|refine rd0 rfl ?_))
     exact ⟨rfl,rl c,[.cells (bL 3 (cM CS))]++τ',by simp [jU],fun _=>rfl⟩
    ·intro hs e' τ' q9
     rw [hs] at hper
     simp only [Bool.false_eq_true,if_false] at hper
     rw [hper]
     (repeat (first|simp only [↓QA,QB,Nat.reduceLT,reduceIte,Nat.reduceEqDiff,Nat.reduceAdd,Nat.reduceLeDiff,Nat.reduceMul,Nat.reduceBEq,dR,hR.len,hR.base,hR.base0,hR.bset,hR.bset0,hR.at1,hR.atq1,q9]|refine rd0 rfl ?_))
     exact ⟨rfl,rl c,[.cells (bL 3 (cM CS))]++τ',by simp [Fam.out],fun _=>rfl⟩
end Go.Am.Room
set_option maxRecDepth 8000
namespace Go.Am.Room
def dK:=And.intro @bD (And.intro @aI (And.intro @aX (And.intro @aW (And.intro @aV (And.intro @aS (And.intro @bC (And.intro @a9 (And.intro @aZ (And.intro @dH (And.intro @dF (And.intro @Nat.not_lt_zero (And.intro @List.length_append.{0} (And.intro @Nat.zero_add (And.intro @Nat.mul_one (And.intro @Int.toNat_natCast (And.intro @eH (And.intro @fO (And.intro @fP (And.intro @kQ (And.intro @fQ (And.intro @g7 (And.intro @g9 (And.intro @g8 (And.intro @gY (And.intro @hH (And.intro @gZ (And.intro @Nat.add_lt_add_iff_left (And.intro @Nat.lt_add_right_iff_pos (And.intro @oH (And.intro @oB (And.intro @BD (@AO))))))))))))))))))))))))))))))))
theorem XE (k:Nat):UG k = .func (if k=0 then 116 else if k=1 then 117 else 118) [] []:=by
 unfold UG;split
 ·rfl
 ·split<;>rfl
def qW (v:Net) (r:Rail) (rs:List Rail) (l:List Int) (n:Int):List (List Int):=(if r.shut=1 then [] else aT n (r.mins.hi+1-n).toNat).flatMap fun n=>fT rs (l++[n])
def gS (r:Rail):List AV:=[.int .i64 r.a,.int .i64 r.b,.int .i64 r.mins.lo,.int .i64 r.mins.hi,.int .i64 r.shut]
theorem dN (r:Rail):gS r=[.int .i64 r.a,.int .i64 r.b,.int .i64 r.mins.lo,.int .i64 r.mins.hi,.int .i64 r.shut]:=by simp only [gS]
def aF2 {X:Type} (Zp ZDp:X×List K5→St) (F:List Int→X×List K5→(X×List K5)×Bool) (v:Net) (q id N:Nat) (l:List Int) (r:Rail) (rs:List Rail) (τ:St) (R:(Option (List Int)×(X×List K5))×Bool) (k:Nat) (e:Env) (σ:St):Prop :=
 Env.get e 0 = .int .i64 l.length∧Env.get e 2 = .ptr (N+1) 0∧Env.get e 6 = .ptr (N+4) 0∧Env.get e 7 = .ptr (N+5) 0∧Env.get e 14 = .ptr (N+(τ.length+1+1+1+1+1+1)) 0∧∃ n o y c τ2,Env.get e 15 = .int .i64 n∧r.mins.lo≤n∧n≤r.mins.hi+1∧k=(r.mins.hi+1-n).toNat∧(∀ u,o=some u→u.length=v.rails.length) ∧
   σ=Zp y++(jU id q N o (mF (rl l) l.length c)++(τ++(.cells (gS r)::τ2)))∧bT (jT F) (qW v r rs l n) (o,y)=R
theorem HN {X:Type} {Zp ZDp:X×List K5→St} {v:Net} {b p m q N:Nat} {bl:List Int} (hR:Fam Zp ZDp (db v b m) p q N) (hS:∀ x,MemAt (fun A=>Zp (x,A)) (db v b m) (tEs v) p m N) (hv:Vd v) (hb:ButIs b bl) {id:Nat} {P:List Int→Prop} {f:List Int→X→X×Bool} (hy:FD Zp ZDp id v P f) (hP:∀ c,LeafOk v c→qY v bl c=true→P c) :
  ∀ (rs:List Rail) (l:List Int) (o:Option (List Int)) (y:X×List K5) (τ:St),rs=v.rails.drop l.length→l.length≤v.rails.length→(∀ i,i<l.length→0≤rl l i∧rl l i≤20)→(∀ u,o=some u→u.length=v.rails.length) →
   Run T (.callv (CV q N) [.int .i64 l.length] (Zp y++(jU id q N o (rl l)++τ))) (D0 Zp ZDp id q N l τ (bT (jT (l0 v bl f)) (fT rs l) (o,y)))
 |[],l,o,y,τ,hrs,hl,hbd,ho=>by
  have hl2:l.length=v.rails.length:=by
   have:=congrArg List.length hrs
   simp at this
   omega
  simp only [fT,MX]
  refine P6 hR hS hv hb hy l ⟨hl2,fun r h0 h1=>?_⟩ (hP l ⟨hl2,fun r h0 h1=>?_⟩) o ho y τ
  all_goals
   have:=hbd r.toNat (by omega)
   simpa [rlI,rl] using this
 |r::rs,l,o,y,τ,hrs,hl,hbd,ho=>by
  have hlt:l.length<v.rails.length:=by
   have:=congrArg List.length hrs
   simp at this
   omega
  have hnr:=hv.nra
  have hdr:=List.drop_eq_getElem_cons hlt
  rw [←hrs] at hdr
  have hs:v.rails[l.length]=r:=by have:=(List.cons.inj hdr).1;exact this.symm
  have hrs2:rs=v.rails.drop (l.length+1):=(List.cons.inj hdr).2
  have hra:=hv.ra _ (List.getElem_mem hlt)
  rw [hs] at hra
  have hmi:=hra.mins
  have hsh:=hra.shut
  obtain ⟨S,hS2⟩:∃ S:Nat,r.shut=(S:Int):=⟨r.shut.toNat,by omega⟩
  have hS3:S<3:=by omega
  have hE:((l.length:Int)==(v.rails.length:Int))=false:=by simp;omega
  have i5:(0:Int)≤(l.length:Int)∧(l.length:Int)<((5:Nat):Int):=⟨by omega,by omega⟩
  have c5:l.length+1≤5:=by omega
  have iS:(0:Int)≤(S:Int)∧(S:Int)<((3:Nat):Int):=⟨by omega,by omega⟩
  have hcg:=R5 hS3
  have hct:=fun σ=>C7 S hS3 true σ
  have hcf:=fun σ=>C7 S hS3 false σ
  have hc1:tW (S:Int) true = !decide (S=0):=by
   have:((S:Int)=0)=(S=0):=by rw [eq_iff_iff];omega
   simp [tW]
  have hc2:tW (S:Int) false = !decide (S=1):=by
   have:((S:Int)=1)=(S=1):=by rw [eq_iff_iff];omega
   simp [tW];omega
  rw [hc1] at hct
  rw [hc2] at hcf
  have hcE:=XE S
  obtain ⟨CF,hCF⟩:∃ CF,(if S=0 then 116 else if S=1 then 117 else 118)=CF:=⟨_,rfl⟩
  rw [hCF] at hcE
  rw [hcE] at hcg
  simp only [hcE] at hct hcf
  have hwd:IntKind.i64.wrap ((l.length:Int)+1)=((l.length+1:Nat):Int):=bV hlt (by omega)
  have ih:=fun (n:Int) (hn:0≤n∧n≤20) (o:Option (List Int)) (y:X×List K5) (τ:St) (ho:∀ u,o=some u→u.length=v.rails.length)=>HN hR hS hv hb hy hP rs (l++[n]) o y τ (by rw [hrs2];simp) (by simp;omega) (fun i hi=>by
   rw [E5]
   simp only [mF]
   by_cases e:i=l.length
   ·subst e
    rw [if_pos rfl]
    exact hn
   ·rw [if_neg e]
    exact hbd i (by simp at hi;omega)) ho
  obtain ⟨F,hF⟩:∃ F,l0 v bl f=F:=⟨_,rfl⟩
  rw [hF] at ih ⊢
  obtain ⟨R,hRR⟩:∃ R,bT (jT F) (fT (r::rs) l) (o,y)=R:=⟨_,rfl⟩
  rw [hRR]
  have hsplit:fT (r::rs) l=(if S=0 then [] else fT rs (l++[0]))++qW v r rs l r.mins.lo:=by
   have e0:(r.shut=0)=(S=0):=by rw [eq_iff_iff];omega
   simp only [fT,chP,List.flatMap_append,qW,zV,e0]
   congr 1
   split<;>simp
  rw [hsplit,wM] at hRR
  have hht:∀ (y:X×List K5) (b0 b1 b2 b3 b4 b5:ABlk) (cs:List AV) (τ2:St),aK (Zp y++(b0::b1::b2::b3::b4::b5::(τ++(.cells cs::τ2)))) (N+(τ.length+1+1+1+1+1+1))=some cs:=fun y b0 b1 b2 b3 b4 b5 cs τ2=>by
   rw [hR.base]
   simp only [rA]
   rw [jG];rfl
  have hlen:∀ (y:X×List K5),(Zp y).length=N:=hR.len
  simp only [zU]
  refine .callf (.call (af:=a108) rfl (by simp [a108]) (jQ (K:=fun j e σ'=>(j=none∨j=some .ret)∧D0 Zp ZDp id q N l τ R ⟨none,[],σ',Env.get e 9⟩) ?_ fun o ho=>ho) fun w hw=>⟨hw.1,_,rfl,.inl hw.2⟩)
  have hst0:=sE 5 (rl l) 0 (show l.length<5 by omega)
  rw [wJ] at hst0
  rw [eA]
  -- the loop over minutes
  have loop:∀ (e:Env) (K:KJ) (y:X×List K5) (o:Option (List Int)) (τ2:St),(∀ u,o=some u→u.length=v.rails.length)→Env.get e 0 = .int .i64 l.length→Env.get e 2 = .ptr (N+1) 0→Env.get e 6 = .ptr (N+4) 0→Env.get e 7 = .ptr (N+5) 0→Env.get e 14 = .ptr (N+(τ.length+1+1+1+1+1+1)) 0→Env.get e 15 = .int .i64 r.mins.lo→bT (jT F) (qW v r rs l r.mins.lo) (o,y)=R →
    (∀ e' y' o' τ2 c,Env.get e' 0 = .int .i64 l.length→Env.get e' 2 = .ptr (N+1) 0→R=((o',y'),true)→K (some (.exit 2)) e' (Zp y'++(jU id q N o' (mF (rl l) l.length c)++(τ++(.cells (gS r)::τ2))))) →
    (∀ e' A τ2,Env.get e' 9 = .bool false→R.2=false→K (some .ret) e' (Fam.out Zp ZDp (R.1.2,R.2)++(jU id q N R.1.1 A++(τ++(.cells (gS r)::τ2))))) →
    rK (K:=⟨K⟩) T (.loop zR) e (Zp y++(jU id q N o (rl l)++(τ++(.cells (gS r)::τ2)))):=by
   intro e K y o τ2 ho e0 e2 e6 e7 e14 e15 hq hKx hKf
   refine aET (aF2 Zp ZDp F v q id N l r rs τ R) ?_ (r.mins.hi+1-r.mins.lo).toNat _ _ ?_
   ·rintro k e σ ⟨e0,e2,e6,e7,e14,n,o,y,c,τ2,e15,hn0,hn1,hk,ho,rfl,hq⟩
    subst hk
    have hst:=sE 5 (mF (rl l) l.length c) n (show l.length<5 by omega)
    rw [vH,←E5 l n] at hst
    rw [eA]
    cases hle:decide (n≤r.mins.hi)
    ·have hn2:¬n≤r.mins.hi:=by simpa using hle
     have hrn:qW v r rs l n=[]:=by
      rw [qW,GS hn2];simp
     rw [hrn] at hq
     simp only [bT] at hq
     (repeat (first|simp only [↓QA,QB,Nat.reduceLT,reduceIte,Nat.reduceEqDiff,Nat.reduceAdd,Nat.reduceLeDiff,Nat.reduceMul,Nat.reduceBEq,dK,hR.len,hR.base,hR.base0,hR.bset,hR.bset0,hR.at1,hR.atq1,zR,e0,e2,e6,e7,e14,e15,hht,dN,hle]|refine rd0 rfl ?_))
     have:=fun e'=>hKx e' y o τ2 c
     simp only [eA,dN] at this
     refine this _ ?_ ?_ hq.symm
     all_goals try simp only [aC,QE,Nat.reduceLT,reduceIte,Nat.reduceEqDiff,Nat.reduceAdd,Nat.reduceLeDiff,Nat.reduceMul,Nat.reduceBEq,dK,hR.len,hR.base,hR.base0,hR.bset,hR.bset0,hR.at1,hR.atq1,e0,e2]
    ·have hn2:n≤r.mins.hi:=by simpa using hle
     by_cases hS1:S=1
     ·have hrn:qW v r rs l n=[]:=by
       rw [qW,if_pos (by omega)];simp
      rw [hrn] at hq
      simp only [bT] at hq
      have hd1:(!decide (S=1))=false:=by simp [hS1]
      rw [hd1] at hcf
      (repeat (first|simp only [↓QA,QB,Nat.reduceLT,reduceIte,Nat.reduceEqDiff,Nat.reduceAdd,Nat.reduceLeDiff,Nat.reduceMul,Nat.reduceBEq,dK,hR.len,hR.base,hR.base0,hR.bset,hR.bset0,hR.at1,hR.atq1,zR,e0,e2,e6,e7,e14,e15,hht,dN,hle,hS2,iS,hcg,Nat.add_zero]|refine rd0 rfl ?_))
      refine bW (hcf _) ?_
      (repeat (first|simp only [↓QA,QB,Nat.reduceLT,reduceIte,Nat.reduceEqDiff,Nat.reduceAdd,Nat.reduceLeDiff,Nat.reduceMul,Nat.reduceBEq,dK,hR.len,hR.base,hR.base0,hR.bset,hR.bset0,hR.at1,hR.atq1,e0,e2,e6,e7,e14,e15]|refine rd0 rfl ?_))
      have:=fun e'=>hKx e' y o τ2 c
      simp only [eA,dN,hS2] at this
      refine this _ ?_ ?_ hq.symm
      all_goals try simp only [aC,QE,Nat.reduceLT,reduceIte,Nat.reduceEqDiff,Nat.reduceAdd,Nat.reduceLeDiff,Nat.reduceMul,Nat.reduceBEq,dK,hR.len,hR.base,hR.base0,hR.bset,hR.bset0,hR.at1,hR.atq1,e0,e2]
     ·have hd1:(!decide (S=1))=true:=by simp [hS1]
      rw [hd1] at hcf
      have hrn:qW v r rs l n=fT rs (l++[n])++qW v r rs l (n+1):=by
       rw [qW,qW,if_neg (by omega),if_neg (by omega),DU hn2,List.flatMap_cons]
      rw [hrn,wM] at hq
      have hwn:IntKind.i64.wrap (n+1)=n+1:=eO ⟨by omega,by omega⟩
      have hc:=ih n ⟨by omega,by omega⟩ o y (τ++(.cells (gS r)::τ2)) ho
      simp only [eA,dN,hS2,List.length_append,List.length_cons,List.length_nil,Nat.zero_add] at hc
      obtain ⟨r1,hr1⟩:∃ r1,bT (jT F) (fT rs (l++[n])) (o,y)=r1:=⟨_,rfl⟩
      rw [hr1] at hq hc
      (repeat (first|simp only [↓QA,QB,Nat.reduceLT,reduceIte,Nat.reduceEqDiff,Nat.reduceAdd,Nat.reduceLeDiff,Nat.reduceMul,Nat.reduceBEq,dK,hR.len,hR.base,hR.base0,hR.bset,hR.bset0,hR.at1,hR.atq1,zR,e0,e2,e6,e7,e14,e15,hht,dN,hle,hS2,iS,hcg,Nat.add_zero]|refine rd0 rfl ?_))
      refine bW (hcf _) ?_
      (repeat (first|simp only [↓QA,QB,Nat.reduceLT,reduceIte,Nat.reduceEqDiff,Nat.reduceAdd,Nat.reduceLeDiff,Nat.reduceMul,Nat.reduceBEq,dK,hR.len,hR.base,hR.base0,hR.bset,hR.bset0,hR.at1,hR.atq1,e0,e2,e6,e7,e14,e15,i5,c5,hst,hwd]|refine rd0 rfl ?_))
      refine .mono hc fun w hw=>?_
      obtain ⟨hw1,A,τ',hw2,hw3⟩:=hw
      rw [hw1,hw2]
      cases hr2:r1.2
      ·rw [hr2] at hq
       simp only [Bool.false_eq_true,if_false] at hq
       (repeat (first|simp only [↓QA,QB,Nat.reduceLT,reduceIte,Nat.reduceEqDiff,Nat.reduceAdd,Nat.reduceLeDiff,Nat.reduceMul,Nat.reduceBEq,dK,hR.len,hR.base,hR.base0,hR.bset,hR.bset0,hR.at1,hR.atq1,e0,e2,e6,e7,e14,e15]|refine rd0 rfl ?_))
       subst hq
       have hKf':=fun e'=>hKf e' A (τ2++τ')
       simp only [dN,hS2] at hKf'
       first|exact hKf' _ (by try simp only [aC,QE,Nat.reduceLT,reduceIte,Nat.reduceEqDiff,Nat.reduceAdd,Nat.reduceLeDiff,Nat.reduceMul,Nat.reduceBEq,dK,hR.len,hR.base,hR.base0,hR.bset,hR.bset0,hR.at1,hR.atq1]) trivial|exact hKf' _ (by try simp only [aC,QE,Nat.reduceLT,reduceIte,Nat.reduceEqDiff,Nat.reduceAdd,Nat.reduceLeDiff,Nat.reduceMul,Nat.reduceBEq,dK,hR.len,hR.base,hR.base0,hR.bset,hR.bset0,hR.at1,hR.atq1]) rfl|exact hKf' _ (by try simp only [aC,QE,Nat.reduceLT,reduceIte,Nat.reduceEqDiff,Nat.reduceAdd,Nat.reduceLeDiff,Nat.reduceMul,Nat.reduceBEq,dK,hR.len,hR.base,hR.base0,hR.bset,hR.bset0,hR.at1,hR.atq1])
      ·rw [hr2] at hq
       simp only [if_true] at hq
       have hA:=hw3 hr2
       rw [hA]
       simp only [Fam.out,if_true]
       rw [eA]
       (repeat (first|simp only [↓QA,QB,Nat.reduceLT,reduceIte,Nat.reduceEqDiff,Nat.reduceAdd,Nat.reduceLeDiff,Nat.reduceMul,Nat.reduceBEq,dK,hR.len,hR.base,hR.base0,hR.bset,hR.bset0,hR.at1,hR.atq1,e0,e2,e6,e7,e14,e15,hwn]|refine rd0 rfl ?_))
       refine ⟨(r.mins.hi+1-(n+1)).toNat,by omega,?_,?_,?_,?_,?_,n+1,r1.1.1,r1.1.2,n,τ2++τ',?_,by omega,by omega,rfl,fun u hu=>?_,?_,hq⟩
       ·try simp only [aC,QE,Nat.reduceLT,reduceIte,Nat.reduceEqDiff,Nat.reduceAdd,Nat.reduceLeDiff,Nat.reduceMul,Nat.reduceBEq,dK,hR.len,hR.base,hR.base0,hR.bset,hR.bset0,hR.at1,hR.atq1,e0]
       ·try simp only [aC,QE,Nat.reduceLT,reduceIte,Nat.reduceEqDiff,Nat.reduceAdd,Nat.reduceLeDiff,Nat.reduceMul,Nat.reduceBEq,dK,hR.len,hR.base,hR.base0,hR.bset,hR.bset0,hR.at1,hR.atq1,e2]
       ·try simp only [aC,QE,Nat.reduceLT,reduceIte,Nat.reduceEqDiff,Nat.reduceAdd,Nat.reduceLeDiff,Nat.reduceMul,Nat.reduceBEq,dK,hR.len,hR.base,hR.base0,hR.bset,hR.bset0,hR.at1,hR.atq1,e6]
       ·try simp only [aC,QE,Nat.reduceLT,reduceIte,Nat.reduceEqDiff,Nat.reduceAdd,Nat.reduceLeDiff,Nat.reduceMul,Nat.reduceBEq,dK,hR.len,hR.base,hR.base0,hR.bset,hR.bset0,hR.at1,hR.atq1,e7]
       ·try simp only [aC,QE,Nat.reduceLT,reduceIte,Nat.reduceEqDiff,Nat.reduceAdd,Nat.reduceLeDiff,Nat.reduceMul,Nat.reduceBEq,dK,hR.len,hR.base,hR.base0,hR.bset,hR.bset0,hR.at1,hR.atq1,e14]
       ·try simp only [aC,QE,Nat.reduceLT,reduceIte,Nat.reduceEqDiff,Nat.reduceAdd,Nat.reduceLeDiff,Nat.reduceMul,Nat.reduceBEq,dK,hR.len,hR.base,hR.base0,hR.bset,hR.bset0,hR.at1,hR.atq1]
       ·rw [←hr1] at hu
        rcases wI F _ o y u hu with h|h
        ·exact ho u h
        ·have:=C1 h
         have hlr:l.length+1+rs.length=v.rails.length:=by rw [hrs2];simp;omega
         simp at this
         omega
       ·rw [eA,E5,dN,hS2]
        try simp
   ·refine ⟨e0,e2,e6,e7,e14,r.mins.lo,o,y,0,τ2,e15,Int.le_refl _,by omega,rfl,ho,?_,hq⟩
    rw [wJ]
  have fin:∀ (y:X×List K5) (o:Option (List Int)) (τ2:St),R=((o,y),true)→D0 Zp ZDp id q N l τ R ⟨none,[],Zp y++(jU id q N o (rl l)++(τ++(.cells (gS r)::τ2))),.bool true⟩:=fun y o τ2 hq=>by
   rw [hq]
   exact ⟨rfl,rl l,.cells (gS r)::τ2,by simp [Fam.out],fun _=>rfl⟩
  by_cases hS0:S=0
  ·have hd0:(!decide (S=0))=false:=by simp [hS0]
   rw [hd0] at hct
   rw [if_pos hS0] at hRR
   simp only [bT,if_true] at hRR
   (repeat (first|simp only [↓QA,QB,Nat.reduceLT,reduceIte,Nat.reduceEqDiff,Nat.reduceAdd,Nat.reduceLeDiff,Nat.reduceMul,Nat.reduceBEq,dK,hR.len,hR.base,hR.base0,hR.bset,hR.bset0,hR.at1,hR.atq1,a108,hE,hlt,hs,hlen,hS2,hht,iS,hcg,Nat.add_zero]|refine rd0 rfl ?_))
   refine bW (hct _) ?_
   (repeat (first|simp only [↓QA,QB,Nat.reduceLT,reduceIte,Nat.reduceEqDiff,Nat.reduceAdd,Nat.reduceLeDiff,Nat.reduceMul,Nat.reduceBEq,dK,hR.len,hR.base,hR.base0,hR.bset,hR.bset0,hR.at1,hR.atq1,hht]|refine rd0 rfl ?_))
   have lp:=fun e K=>loop e K y o [] ho
   simp only [eA,dN,hS2] at lp
   refine lp _ _ ?_ ?_ ?_ ?_ ?_ ?_ hRR ?_ ?_
   all_goals try try simp only [aC,QE,Nat.reduceLT,reduceIte,Nat.reduceEqDiff,Nat.reduceAdd,Nat.reduceLeDiff,Nat.reduceMul,Nat.reduceBEq,dK,hR.len,hR.base,hR.base0,hR.bset,hR.bset0,hR.at1,hR.atq1]
   ·intro e' y' o' τ2 c q0 q2 hq
    have hst0:=sE 5 (mF (rl l) l.length c) 0 (show l.length<5 by omega)
    rw [vH,wJ] at hst0
    have fn:=fin y' o' τ2 hq
    simp only [eA,dN,hS2] at fn
    (repeat (first|simp only [↓QA,QB,Nat.reduceLT,reduceIte,Nat.reduceEqDiff,Nat.reduceAdd,Nat.reduceLeDiff,Nat.reduceMul,Nat.reduceBEq,dK,hR.len,hR.base,hR.base0,hR.bset,hR.bset0,hR.at1,hR.atq1,q0,q2,i5,c5,hst0]|refine rd0 rfl ?_))
    exact fn
   ·intro e' A τ2 q9 hq
    (repeat (first|simp only [↓QA,QB,Nat.reduceLT,reduceIte,Nat.reduceEqDiff,Nat.reduceAdd,Nat.reduceLeDiff,Nat.reduceMul,Nat.reduceBEq,dK,hR.len,hR.base,hR.base0,hR.bset,hR.bset0,hR.at1,hR.atq1,q9]|refine rd0 rfl ?_))
    exact ⟨by rw [hq],A,_,rfl,fun h=>by rw [hq] at h;cases h⟩
  ·have hd0:(!decide (S=0))=true:=by simp [hS0]
   rw [hd0] at hct
   rw [if_neg hS0] at hRR
   have hc:=ih 0 ⟨by omega,by omega⟩ o y (τ++[.cells (gS r)]) ho
   have hr0:rl (l++[0])=rl l:=by rw [E5,wJ]
   rw [hr0] at hc
   simp only [eA,dN,hS2,List.length_append,List.length_cons,List.length_nil,Nat.zero_add] at hc
   obtain ⟨r1,hr1⟩:∃ r1,bT (jT F) (fT rs (l++[0])) (o,y)=r1:=⟨_,rfl⟩
   rw [hr1] at hRR hc
   (repeat (first|simp only [↓QA,QB,Nat.reduceLT,reduceIte,Nat.reduceEqDiff,Nat.reduceAdd,Nat.reduceLeDiff,Nat.reduceMul,Nat.reduceBEq,dK,hR.len,hR.base,hR.base0,hR.bset,hR.bset0,hR.at1,hR.atq1,a108,hE,hlt,hs,hlen,hS2,hht,iS,hcg,Nat.add_zero]|refine rd0 rfl ?_))
   refine bW (hct _) ?_
   (repeat (first|simp only [↓QA,QB,Nat.reduceLT,reduceIte,Nat.reduceEqDiff,Nat.reduceAdd,Nat.reduceLeDiff,Nat.reduceMul,Nat.reduceBEq,dK,hR.len,hR.base,hR.base0,hR.bset,hR.bset0,hR.at1,hR.atq1,hht,i5,c5,hst0,hwd]|refine rd0 rfl ?_))
   refine .mono hc fun w hw=>?_
   obtain ⟨hw1,A,τ',hw2,hw3⟩:=hw
   rw [hw1,hw2]
   cases hr2:r1.2
   ·rw [hr2] at hRR
    simp only [Bool.false_eq_true,if_false] at hRR
    (repeat (first|simp only [↓QA,QB,Nat.reduceLT,reduceIte,Nat.reduceEqDiff,Nat.reduceAdd,Nat.reduceLeDiff,Nat.reduceMul,Nat.reduceBEq,dK,hR.len,hR.base,hR.base0,hR.bset,hR.bset0,hR.at1,hR.atq1]|refine rd0 rfl ?_))
    rw [←hRR]
    exact ⟨rfl,A,.cells (gS r)::τ',by simp [dN,hS2],fun h=>by cases h⟩
   ·rw [hr2] at hRR
    simp only [if_true] at hRR
    have hA:=hw3 hr2
    rw [hr0] at hA
    rw [hA]
    simp only [Fam.out,if_true]
    have ho1:∀ u,r1.1.1=some u→u.length=v.rails.length:=fun u hu=>by
     rw [←hr1] at hu
     rcases wI F _ o y u hu with h|h
     ·exact ho u h
     ·have:=C1 h
      have hlr:l.length+1+rs.length=v.rails.length:=by rw [hrs2];simp;omega
      simp at this
      omega
    rw [eA]
    (repeat (first|simp only [↓QA,QB,Nat.reduceLT,reduceIte,Nat.reduceEqDiff,Nat.reduceAdd,Nat.reduceLeDiff,Nat.reduceMul,Nat.reduceBEq,dK,hR.len,hR.base,hR.base0,hR.bset,hR.bset0,hR.at1,hR.atq1,hht]|refine rd0 rfl ?_))
    have lp:=fun e K=>loop e K r1.1.2 r1.1.1 τ' ho1
    simp only [eA,dN,hS2] at lp
    refine lp _ _ ?_ ?_ ?_ ?_ ?_ ?_ hRR ?_ ?_
    all_goals try try simp only [aC,QE,Nat.reduceLT,reduceIte,Nat.reduceEqDiff,Nat.reduceAdd,Nat.reduceLeDiff,Nat.reduceMul,Nat.reduceBEq,dK,hR.len,hR.base,hR.base0,hR.bset,hR.bset0,hR.at1,hR.atq1]
    ·intro e' y' o' τ2 c q0 q2 hq
     have hst0:=sE 5 (mF (rl l) l.length c) 0 (show l.length<5 by omega)
     rw [vH,wJ] at hst0
     have fn:=fin y' o' τ2 hq
     simp only [eA,dN,hS2] at fn
     (repeat (first|simp only [↓QA,QB,Nat.reduceLT,reduceIte,Nat.reduceEqDiff,Nat.reduceAdd,Nat.reduceLeDiff,Nat.reduceMul,Nat.reduceBEq,dK,hR.len,hR.base,hR.base0,hR.bset,hR.bset0,hR.at1,hR.atq1,q0,q2,i5,c5,hst0]|refine rd0 rfl ?_))
     exact fn
    ·intro e' A τ2 q9 hq
     (repeat (first|simp only [↓QA,QB,Nat.reduceLT,reduceIte,Nat.reduceEqDiff,Nat.reduceAdd,Nat.reduceLeDiff,Nat.reduceMul,Nat.reduceBEq,dK,hR.len,hR.base,hR.base0,hR.bset,hR.bset0,hR.at1,hR.atq1,q9]|refine rd0 rfl ?_))
     exact ⟨by rw [hq],A,_,rfl,fun h=>by rw [hq] at h;cases h⟩
end Go.Am.Room
set_option maxRecDepth 8000
namespace Go.Am.Room
def kT:=And.intro @bD (And.intro @aI (And.intro @aX (And.intro @aW (And.intro @aV (And.intro @aS (And.intro @bC (And.intro @a9 (And.intro @aZ (And.intro @dH (And.intro @dF (And.intro @Nat.not_lt_zero (And.intro @List.length_append.{0} (And.intro @Nat.zero_add (And.intro @Nat.mul_one (And.intro @Int.toNat_natCast (And.intro @eH (And.intro @fO (And.intro @fP (And.intro @kQ (And.intro @fQ (And.intro @g7 (And.intro @g9 (And.intro @g8 (And.intro @gY (And.intro @hH (And.intro @gZ (And.intro @Nat.add_lt_add_iff_left (And.intro @Nat.lt_add_right_iff_pos (And.intro @oH (@oB))))))))))))))))))))))))))))))
def fR {X:Type} (v:Net) (bl:List Int) (f:List Int→X→X×Bool) (x:X) (A:List K5):(X×List K5)×Bool:=bT (l0 v bl f) (fT v.rails []) (x,A)
theorem OI {X:Type} {Zp ZDp:X×List K5→St} {v:Net} {b p m q N:Nat} {bl:List Int} (hR:Fam Zp ZDp (db v b m) p q N) (hS:∀ x,MemAt (fun A=>Zp (x,A)) (db v b m) (tEs v) p m N) (hv:Vd v) (hb:ButIs b bl) {id:Nat} {P:List Int→Prop} {f:List Int→X→X×Bool} (hy:FD Zp ZDp id v P f) (hP:∀ c,LeafOk v c→qY v bl c=true→P c) (y:X×List K5) :
  Run T (.call 106 [.yield id,.ptr q 0] (Zp y)) fun o=>∃ τ',o.σ=Fam.out Zp ZDp (bT (l0 v bl f) (fT v.rails []) y)++τ':=by
 have hn:=HN hR hS hv hb hy hP v.rails [] none y [] (by simp) (by simp) (fun i hi=>by simp at hi) (fun u hu=>by cases hu)
 have hl:=hR.len y
 have hz:[AV.int .i64 0,.int .i64 0,.int .i64 0,.int .i64 0,.int .i64 0]=bL 5 (rl []):=by simp [bL,rl,List.range_succ]
 obtain ⟨ho1,ho2⟩:=BM (l0 v bl f) (fT v.rails []) none y (HH _ _ (fun r hr=>(hv.ra r hr).mins.1)) (fun a _ h=>by cases h)
 have hend:∀ w,D0 Zp ZDp id q N [] [] (bT (jT (l0 v bl f)) (fT v.rails []) (none,y)) w→∃ τ',w.σ=Fam.out Zp ZDp (bT (l0 v bl f) (fT v.rails []) y)++τ':=by
  rintro w ⟨_,A,τ',h2,_⟩
  refine ⟨jU id q N (bT (jT (l0 v bl f)) (fT v.rails []) (none,y)).1.1 A++([]++τ'),?_⟩
  rw [h2,show ((bT (jT (l0 v bl f)) (fT v.rails []) (none,y)).1.2,(bT (jT (l0 v bl f)) (fT v.rails []) (none,y)).2)=bT (l0 v bl f) (fT v.rails []) y from Prod.ext ho1 ho2]
 rw [eA,zU] at hn
 simp only [List.length_nil,Option.getD_none,Option.isNone_none] at hn
 refine .call (af:=a106) rfl (by simp [a106]) (jQ (K:=fun j e σ'=>(j=none∨j=some .ret)∧∃ τ',σ'=Fam.out Zp ZDp (bT (l0 v bl f) (fT v.rails []) y)++τ') ?_ fun o ho=>ho) fun o ho=>⟨ho.1,_,rfl,.inl ho.2⟩
 (repeat (first|simp only [↓QA,QB,Nat.reduceLT,reduceIte,Nat.reduceEqDiff,Nat.reduceAdd,Nat.reduceLeDiff,Nat.reduceMul,Nat.reduceBEq,kT,hR.len,hR.base,hR.base0,hR.bset,hR.bset0,hR.at1,hR.at0,a106,hl,hz]|refine rd0 rfl ?_))
 refine bW (IV _) ?_
 (repeat (first|simp only [↓QA,QB,Nat.reduceLT,reduceIte,Nat.reduceEqDiff,Nat.reduceAdd,Nat.reduceLeDiff,Nat.reduceMul,Nat.reduceBEq,kT,hR.len,hR.base,hR.base0,hR.bset,hR.bset0,hR.at1,hR.at0,hl,hz,sC]|refine rd0 rfl ?_))
 simp only [sC] at hn
 refine .mono hn fun w hw=>?_
 have:=hend w hw
 (repeat (first|simp only [↓QA,QB,Nat.reduceLT,reduceIte,Nat.reduceEqDiff,Nat.reduceAdd,Nat.reduceLeDiff,Nat.reduceMul,Nat.reduceBEq,kT,hR.len,hR.base,hR.base0,hR.bset,hR.bset0,hR.at1,hR.at0]|refine rd0 rfl ?_))
 exact this
theorem aCR {X M:Type} {Z ZD:X→M→St} {obj:List AV} {es:M→List (AV×AV)} {p m q N:Nat} (h:Fam1 Z ZD obj es p m q N):Fam (fun y:X×M=>Z y.1 y.2) (fun y=>ZD y.1 y.2) obj p q N :=
 ⟨fun y=>(h.ship y.1).len y.2,fun y=>h.lenD y.1 y.2,fun y=>(h.ship y.1).at0 y.2,fun y=>h.atq0 y.1 y.2,fun x y k i hk hi=>h.keep _ _ _ _ k i hk hi,fun x y k i hk hi=>h.keepD _ _ _ _ k i hk hi,h.pl,h.ql⟩
theorem yR {X:Type} {Z ZD:X→List K5→St} {v:Net} {b p m q N:Nat} {bl:List Int} (hF:Fam1 Z ZD (db v b m) (tEs v) p m q N) (hv:Vd v) (hb:ButIs b bl) {id:Nat} {P:List Int→Prop} {f:List Int→X→X×Bool} (hy:vW Z ZD id (o4 v) P f) (hP:∀ c,LeafOk v c→qY v bl c=true→P c) (x:X) (A:List K5) :
  Run T (.call 106 [.yield id,.ptr q 0] (Z x A)) fun o=>∃ τ',o.σ=Fam1.out Z ZD ((fR v bl f x A).1.1,(fR v bl f x A).2) (fR v bl f x A).1.2++τ' :=
 OI (aCR hF) (fun x=>hF.ship x) hv hb (f:=f) (fun t ht x τ=>hy t ht false none x.1 x.2 τ) hP (x,A)
theorem tX {X:Type} (v:Net) (bl:List Int) (f:List Int→X→X×Bool) (x:X) (A:List K5):((fR v bl f x A).1.1,(fR v bl f x A).2)=bT f (TL v bl) x:=by
 have key:∀ (l:List (List Int)) (x:X) (A:List K5),((bT (l0 v bl f) l (x,A)).1.1,(bT (l0 v bl f) l (x,A)).2)=bT f (l.filter (qY v bl)) x:=by
  intro l
  induction l with
  |nil=>intro x A;rfl
  |cons c l ih =>
   intro x A
   simp only [bT,List.filter_cons]
   cases h:qY v bl c
   ·have hp:l0 v bl f c (x,A)=((x,nM A (pad c)),true):=by simp only [l0,h,Bool.false_eq_true,if_false]
    rw [hp]
    simp only [if_true,Bool.false_eq_true,if_false]
    exact ih x _
   ·have hp:l0 v bl f c (x,A)=(((f c x).1,nM A (pad c)),(f c x).2):=by simp only [l0,h,if_true]
    rw [hp]
    simp only [if_true,bT]
    split
    ·exact ih _ _
    ·rfl
 exact key _ x A
def TOk (v:Net) (bl c:List Int):Prop:=LeafOk v c∧qY v bl c=true
theorem m7 {X:Type} {S:List K5→St} {v:Net} {b p m N:Nat} {bl:List Int} (hS:MemAt S (db v b m) (tEs v) p m N) (hv:Vd v) (hb:ButIs b bl) (U UD:X→St) (n:Nat) (hU:∀ x,(U x).length=n) (hUD:∀ x,(UD x).length=n) (ok:∀ x y,y∈U x→∀ k,N≤k→aJ k y) (okD:∀ x y,y∈UD x→∀ k,N≤k→aJ k y)
  (J:AJump) {f:List Int→X→X×Bool} (e:Env) (k:Nat) (ps:List Nat) (a bb:ACode) (ek:Env.get e k = .func 106 [] [.ptr (N+n) 0])
  (hy:vW (fun x B=>S B++(U x++[.cells [.ptr p 0],.loop .ready none e ps a bb])) (fun x B=>S B++(UD x++[.cells [.ptr p 0],.loop .done (some J) e ps a bb])) (N+n+1) (o4 v) (TOk v bl) f)
  (x:X) (A:List K5) (K:KJ)
  (hT:∀ τ,(bT f (TL v bl) x).2=true→K none e (S (fR v bl f x A).1.2++(U (bT f (TL v bl) x).1++(.cells [.ptr p 0]::.dead::τ))))
  (hD:∀ τ,(bT f (TL v bl) x).2=false→K (some J) e (S (fR v bl f x A).1.2++(UD (bT f (TL v bl) x).1++(.cells [.ptr p 0]::.dead::τ)))) :
  rK (K:=⟨K⟩) T (.rangeFunc (.t k) ps a bb) e (S A++(U x++[.cells [.ptr p 0]])):=by
 have hrun:=yR (XD hS U UD n hU hUD ok okD e ps a bb .ready .done none (some J)) hv hb hy (fun c h1 h2=>⟨h1,h2⟩) x A
 rw [tX] at hrun
 exact TF (A:=List Int) hS U UD n hU hUD J e k ps a bb 106 ek (bT f (TL v bl) x) (fR v bl f x A).1.2 x A hrun K hT hD
def H7 (_:List Int) (x:Unit):Unit×Bool:=(x,false)
theorem MZ (l:List (List Int)):(bT H7 l ()).2=l.isEmpty:=by
 cases l<;>simp [bT,H7]
def GM (v:Net) (bl:List Int) (A:List K5):List K5:=(fR v bl H7 () A).1.2
theorem EB {S:List K5→St} {v:Net} {b p m N:Nat} {bl:List Int} (hR:MemAt S (db v b m) (tEs v) p m N) (hv:Vd v) (hb:ButIs b bl) (A:List K5) :
  zS T (.func 93 [] []) [.ptr p 0] (S A) (.bool !(bF v bl).isEmpty) (S (GM v bl A)):=by
 have hit:=MZ (TL v bl)
 rw [K3 hv] at hit
 refine xD hR (af:=a93) rfl (by simp [a93]) ?_
 (repeat (first|simp only [↓QA,QB,Nat.reduceLT,reduceIte,Nat.reduceEqDiff,Nat.reduceAdd,Nat.reduceLeDiff,Nat.reduceMul,Nat.reduceBEq,kT,hR.len,hR.base,hR.base0,hR.bset,hR.bset0,hR.at1,hR.at0,a93]|refine rd0 rfl ?_))
 refine sV rfl (by simp [a80]) ?_
 (repeat (first|simp only [↓QA,QB,Nat.reduceLT,reduceIte,Nat.reduceEqDiff,Nat.reduceAdd,Nat.reduceLeDiff,Nat.reduceMul,Nat.reduceBEq,kT,hR.len,hR.base,hR.base0,hR.bset,hR.bset0,hR.at1,hR.at0,a80]|refine rd0 rfl ?_))
 refine m7 hR hv hb (fun _:Unit=>[.cells [.bool false]]) (fun _=>[.cells [.bool true]]) 1 (fun _=>rfl) (fun _=>rfl) (fun _ y hy k _=>by simp at hy;subst hy;simp [aJ,okVs,okV]) (fun _ y hy k _=>by simp at hy;subst hy;simp [aJ,okVs,okV]) .ret (f:=H7) _ 4 [5,6] _ _ ?_ ?_ () A _ ?_ ?_
 ·try simp only [aC,QE,Nat.reduceLT,reduceIte,Nat.reduceEqDiff,Nat.reduceAdd,Nat.reduceLeDiff,Nat.reduceMul,Nat.reduceBEq,kT,hR.len,hR.base,hR.base0,hR.bset,hR.bset0,hR.at1,hR.at0]
 ·refine MP hR _ _ 1 (fun _=>rfl) (fun _=>rfl) .ret _ _ (o4 v) (fun _ _ _=>rfl) _ _ ?_
  intro t _ fl tk x A' τ
  simp only [kK,o4]
  (repeat (first|simp only [↓QA,QB,Nat.reduceLT,reduceIte,Nat.reduceEqDiff,Nat.reduceAdd,Nat.reduceLeDiff,Nat.reduceMul,Nat.reduceBEq,kT,hR.len,hR.base,hR.base0,hR.bset,hR.bset0,hR.at1,hR.at0,X7,H7]|refine rd0 rfl ?_))
  exact .inr ⟨[],by simp⟩
 ·intro τ h2
  rw [hit] at h2
  (repeat (first|simp only [↓QA,QB,Nat.reduceLT,reduceIte,Nat.reduceEqDiff,Nat.reduceAdd,Nat.reduceLeDiff,Nat.reduceMul,Nat.reduceBEq,kT,hR.len,hR.base,hR.base0,hR.bset,hR.bset0,hR.at1,hR.at0,h2]|refine rd0 rfl ?_))
  refine ⟨_,_,rfl,rfl,?_⟩
  try simp only [QS,QC,Nat.reduceLT,reduceIte,Nat.reduceEqDiff,Nat.reduceAdd,Nat.reduceLeDiff,Nat.reduceMul,Nat.reduceBEq,kT,hR.len,hR.base,hR.base0,hR.bset,hR.bset0,hR.at1,hR.at0]
 ·intro τ h2
  rw [hit] at h2
  (repeat (first|simp only [↓QA,QB,Nat.reduceLT,reduceIte,Nat.reduceEqDiff,Nat.reduceAdd,Nat.reduceLeDiff,Nat.reduceMul,Nat.reduceBEq,kT,hR.len,hR.base,hR.base0,hR.bset,hR.bset0,hR.at1,hR.at0,h2]|refine rd0 rfl ?_))
  refine ⟨_,_,rfl,rfl,?_⟩
  try simp only [QS,QC,Nat.reduceLT,reduceIte,Nat.reduceEqDiff,Nat.reduceAdd,Nat.reduceLeDiff,Nat.reduceMul,Nat.reduceBEq,kT,hR.len,hR.base,hR.base0,hR.bset,hR.bset0,hR.at1,hR.at0]
end Go.Am.Room
set_option maxRecDepth 4000
namespace Go.Am.Room
def eY:=And.intro @bD (And.intro @aI (And.intro @aX (And.intro @aW (And.intro @aV (And.intro @aS (And.intro @bC (And.intro @a9 (And.intro @aZ (And.intro @dH (And.intro @dF (And.intro @Nat.not_lt_zero (And.intro @List.length_append.{0} (And.intro @Nat.add_lt_add_iff_left (And.intro @Nat.lt_add_right_iff_pos (And.intro @Nat.mul_one (@Int.toNat_natCast))))))))))))))))
def BP (σ:St) (v:Net) (b:Nat):St:=σ++[.cells (aB v),.map [],.cells (db v b (σ.length+1))]
theorem HR (σ:St) (v:Net) (b:Nat):zS T (.func 92 [] []) [bX v,.int .i64 b] σ (.ptr (σ.length+2) 0) (BP σ v b):=by
 refine .callf (.call (af:=a92) rfl (by simp [a92]) (jQ (K:=fun j e σ1=>(j=none∨j=some .ret)∧Env.get e 4 = .ptr (σ.length+2) 0∧σ1=BP σ v b) ?_ fun o ho=>ho) fun o ho=>?_)
 ·(repeat (first|simp only [↓QA,QB,Nat.reduceLT,reduceIte,Nat.reduceEqDiff,Nat.reduceAdd,Nat.reduceLeDiff,Nat.reduceMul,Nat.reduceBEq,eY,a92,List.length_append,BP,db]|refine rd0 rfl ?_))
  try simp [db,aB,ints]
 ·exact ⟨ho.1,_,rfl,.inl ⟨ho.2.1,ho.2.2⟩⟩
theorem sG (v:Net) (A:List K5) (k:Nat):aJ k (.map (tEs v A)):=aBO (AS v) A k
def lA (σ:St) (v:Net) (A:List K5):St:=σ++[.cells (aB v),.cells (aB v),.map (tEs v A),.cells (db v 0 (σ.length+2))]
theorem BT (σ:St) (v:Net):MemAt (lA σ v) (db v 0 (σ.length+2)) (tEs v) (σ.length+3) (σ.length+2) (σ.length+4) :=
 ⟨fun M=>by simp [lA],fun M=>by simp [lA,sK,rA,QZ],fun M=>by rw [lA,rW];rfl,fun M M'=>by rw [lA,lA,oN];rfl,fun A k=>sG v A k,by omega,by omega⟩
def D4:List Int→Bool
 |[t,n]=>inR t 0 (n-1)
 |_=>true
def vS (v:Net) (ns:List Int):Int:=gQ v (if (dL v).2.2=0 then (if D4 ns=true then 0 else 4) else (dL v).2.2)
theorem lV (v:Net):vS v []=eQ v:=by
 have:(if (dL v).2.2=0 then (if D4 []=true then 0 else 4) else (dL v).2.2:Int)=(dL v).2.2:=by
  split
  ·rename_i h;simp [D4,h]
  ·rfl
 rw [vS,this];rfl
theorem S4 (v:Net) (t:Int):vS v [t,v.trams.length]=mS v t:=rfl
def mC (v:Net) (ns:List Int) (k:Nat):AV:=if vS v ns=0 then .tuple [.ptr (k+3) 0,.int .i64 0] else .tuple [.nilPtr,.int .i64 (vS v ns)]
def pL (v:Net):List K5:=GM v [] []
def pU (σ:St) (v:Net) (ns:List Int):St:=if vS v ns=0 then lA σ v (pL v) else σ
theorem tD (σ:St) (v:Net) (ns:List Int) (hns:ns=[]∨∃ t,ns=[t,(v.trams.length:Int)]) (hf:Fits v):zS T (.func 79 [] []) [bX v,.lit (ns.map (.int .i64)) true none] σ (mC v ns σ.length) (pU σ v ns):=by
 refine .callf (.call (af:=a79) rfl (by simp [a79]) (jQ (K:=fun j e σ1=>(j=none∨j=some .ret)∧(if vS v ns=0 then Env.get e 4 = .ptr (σ.length+3) 0∧Env.get e 5 = .int .i64 0∧σ1=lA σ v (pL v) else Env.get e 4 = .nilPtr∧Env.get e 5 = .int .i64 (vS v ns)∧∃ τ,σ1=σ++τ)) ?_ fun o ho=>ho) fun o ho=>?_)
 ·obtain ⟨E,hE⟩:∃ E,vS v ns=E:=⟨_,rfl⟩
  rw [hE]
  rw [vS] at hE
  (repeat (first|simp only [↓QA,QB,Nat.reduceLT,reduceIte,Nat.reduceEqDiff,Nat.reduceAdd,Nat.reduceLeDiff,Nat.reduceMul,Nat.reduceBEq,eY,a79]|refine rd0 rfl ?_))
  ((first|refine aE (lR v hf) rfl dd ?_|refine aF (lR v hf) rfl dd ?_);(repeat (first|simp only [↓QA,QB,Nat.reduceLT,reduceIte,Nat.reduceEqDiff,Nat.reduceAdd,Nat.reduceLeDiff,Nat.reduceMul,Nat.reduceBEq,eY,pA]|refine rd0 rfl ?_)))
  cases h0:((dL v).2.2==0)
  ·have h0':(dL v).2.2≠0:=by simpa using h0
   have he:E=(dL v).2.2:=by rw [←hE];simp [h0',gQ]
   (repeat (first|simp only [↓QA,QB,Nat.reduceLT,reduceIte,Nat.reduceEqDiff,Nat.reduceAdd,Nat.reduceLeDiff,Nat.reduceMul,Nat.reduceBEq,eY,h0]|refine rd0 rfl ?_))
   rw [he,if_neg h0']
   simp
  ·have h0':(dL v).2.2=0:=by simpa using h0
   have hv:=hJ h0'
   have hnt:=hv.ntr
   rw [if_pos h0'] at hE
   have hlk:=HR (σ++[.cells (aB v)]) v 0
   have hso:=EB (BT σ v) hv OM []
   have e0:tEs v []=[]:=rfl
   simp only [lA,BP,e0] at hso hlk
   try simp only [↓QA,QB,Nat.reduceLT,reduceIte,Nat.reduceEqDiff,Nat.reduceAdd,Nat.reduceLeDiff,Nat.reduceMul,Nat.reduceBEq,eY,List.append_assoc] at hso hlk
   have tail:D4 ns=true→(if (bF v []).isEmpty then 8 else 0)=E:=fun q=>by
    rw [q] at hE;simpa [gQ] using hE
   have hk0:σ.length<σ.length+1:=by omega
   rcases hns with rfl|⟨t,rfl⟩
   ·have tl:=tail rfl
    have w01:IntKind.i64.wrap ((0:Int)+1)=1:=rfl
    have d01:decide ((1:Int)<((0:Nat):Int))=false:=rfl
    (repeat (first|simp only [↓QA,QB,Nat.reduceLT,reduceIte,Nat.reduceEqDiff,Nat.reduceAdd,Nat.reduceLeDiff,Nat.reduceMul,Nat.reduceBEq,eY,h0]|refine rd0 rfl ?_))
    refine bY (S:=Unit) () (fun _=>True) (fun _=>0) (fun _=>[(1,.lit [] false none),(2,.ptr σ.length 0),(9,.int .i64 0)]) (fun _=>σ++[.cells (aB v)]) trivial (by simp [aB,ints]) ?_ fun _ _=>?_
    ·try simp only [aC,QE,Nat.reduceLT,reduceIte,Nat.reduceEqDiff,Nat.reduceAdd,Nat.reduceLeDiff,Nat.reduceMul,Nat.reduceBEq,eY,List.map_nil]
     try simp [clr,clrs]
    ·(repeat (first|simp only [↓QA,QB,Nat.reduceLT,reduceIte,Nat.reduceEqDiff,Nat.reduceAdd,Nat.reduceLeDiff,Nat.reduceMul,Nat.reduceBEq,eY,K1,w01,d01]|refine rd0 rfl ?_))
     refine dM hlk ?_
     (repeat (first|simp only [↓QA,QB,Nat.reduceLT,reduceIte,Nat.reduceEqDiff,Nat.reduceAdd,Nat.reduceLeDiff,Nat.reduceMul,Nat.reduceBEq,eY]|refine rd0 rfl ?_))
     refine dM hso ?_
     cases hs:(bF v []).isEmpty
     ·have he:E=0:=by rw [←tl];simp [hs]
      subst he
      (repeat (first|simp only [↓QA,QB,Nat.reduceLT,reduceIte,Nat.reduceEqDiff,Nat.reduceAdd,Nat.reduceLeDiff,Nat.reduceMul,Nat.reduceBEq,eY]|refine rd0 rfl ?_))
      simp [lA,pL,aB,ints]
     ·have he:E=8:=by rw [←tl];simp [hs]
      subst he
      (repeat (first|simp only [↓QA,QB,Nat.reduceLT,reduceIte,Nat.reduceEqDiff,Nat.reduceAdd,Nat.reduceLeDiff,Nat.reduceMul,Nat.reduceBEq,eY]|refine rd0 rfl ?_))
      simp
   ·have w01:IntKind.i64.wrap ((0:Int)+1)=1:=rfl
    have w21:IntKind.i64.wrap ((2:Int)+1)=3:=rfl
    have w02:IntKind.i64.wrap ((0:Int)+2)=2:=rfl
    have d12:decide ((1:Int)<((2:Nat):Int))=true:=rfl
    have d32:decide ((3:Int)<((2:Nat):Int))=false:=rfl
    have j0:(0:Int)≤0:=by decide
    have j1:(0:Int)≤1:=by decide
    have t0:Int.toNat 0=0:=rfl
    have t1:Int.toNat 1=1:=rfl
    have hwl:IntKind.i64.wrap ((v.trams.length:Int)-1)=(v.trams.length:Int)-1:=eO ⟨by omega,by omega⟩
    have hix0:∀ l:List AV,HO 1 (.int .i64 t::l) 0 none=some (.lptr (.int .i64 t::l) 0 0 none):=fun l=>by simp [HO,AV.cells]
    have hix1:∀ l:List AV,HO 1 (.int .i64 t::.int .i64 (v.trams.length:Int)::l) 1 none=some (.lptr (.int .i64 t::.int .i64 (v.trams.length:Int)::l) 1 0 none):=fun l=>by simp [HO,AV.cells]
    have hpb:D4 [t,(v.trams.length:Int)]=inR t 0 ((v.trams.length:Int)-1):=rfl
    (repeat (first|simp only [↓QA,QB,Nat.reduceLT,reduceIte,Nat.reduceEqDiff,Nat.reduceAdd,Nat.reduceLeDiff,Nat.reduceMul,Nat.reduceBEq,eY,h0]|refine rd0 rfl ?_))
    refine bY (S:=Bool) false (fun b=>b=true→D4 [t,(v.trams.length:Int)]=true) (fun b=>if b then 0 else 1) (fun b=>[(1,.lit [.int .i64 t,.int .i64 v.trams.length] false none),(2,.ptr σ.length 0),(9,.int .i64 (if b then 2 else 0))]) (fun _=>σ++[.cells (aB v)]) (fun h=>by cases h) (by simp [aB,ints]) ?_ fun b hb=>?_
    ·try simp only [aC,QE,Nat.reduceLT,reduceIte,Nat.reduceEqDiff,Nat.reduceAdd,Nat.reduceLeDiff,Nat.reduceMul,Nat.reduceBEq,eY,List.map_nil,List.map_cons]
     try simp [clr,clrs]
    ·cases b
     ·simp only [Bool.false_eq_true,if_false]
      (repeat (first|simp only [↓QA,QB,Nat.reduceLT,reduceIte,Nat.reduceEqDiff,Nat.reduceAdd,Nat.reduceLeDiff,Nat.reduceMul,Nat.reduceBEq,eY,K1,w01,d12,hix0,hix1,hwl]|refine rd0 rfl ?_))
      ((first|refine eN (bQ 0 ((v.trams.length:Int)-1) [t] (by simp)) (by simp [clr,clrs,ints]) (by simp [okV,okVs]) ?_|refine fA (bQ 0 ((v.trams.length:Int)-1) [t] (by simp)) (by simp [clr,clrs,ints]) (by simp [okV,okVs]) ?_);(repeat (first|simp only [↓QA,QB,Nat.reduceLT,reduceIte,Nat.reduceEqDiff,Nat.reduceAdd,Nat.reduceLeDiff,Nat.reduceMul,Nat.reduceBEq,eY,jW,w01,d12,hix0,hix1,hwl]|refine rd0 rfl ?_)))
      cases h1:inR t 0 ((v.trams.length:Int)-1)
      ·rw [hpb,h1] at hE
       have he:E=4:=by rw [←hE];simp [gQ]
       subst he
       (repeat (first|simp only [↓QA,QB,Nat.reduceLT,reduceIte,Nat.reduceEqDiff,Nat.reduceAdd,Nat.reduceLeDiff,Nat.reduceMul,Nat.reduceBEq,eY,hix0,hix1]|refine rd0 rfl ?_))
       simp
      ·(repeat (first|simp only [↓QA,QB,Nat.reduceLT,reduceIte,Nat.reduceEqDiff,Nat.reduceAdd,Nat.reduceLeDiff,Nat.reduceMul,Nat.reduceBEq,eY,hix0,hix1,w02]|refine rd0 rfl ?_))
       refine ⟨true,fun _=>by rw [hpb,h1],by simp,?_⟩
       try simp only [aC,QE,Nat.reduceLT,reduceIte,Nat.reduceEqDiff,Nat.reduceAdd,Nat.reduceLeDiff,Nat.reduceMul,Nat.reduceBEq,eY,w02]
       try simp [aJ]
     ·have tl:=tail (hb rfl)
      simp only [if_true]
      (repeat (first|simp only [↓QA,QB,Nat.reduceLT,reduceIte,Nat.reduceEqDiff,Nat.reduceAdd,Nat.reduceLeDiff,Nat.reduceMul,Nat.reduceBEq,eY,K1,w21,d32]|refine rd0 rfl ?_))
      refine dM hlk ?_
      (repeat (first|simp only [↓QA,QB,Nat.reduceLT,reduceIte,Nat.reduceEqDiff,Nat.reduceAdd,Nat.reduceLeDiff,Nat.reduceMul,Nat.reduceBEq,eY]|refine rd0 rfl ?_))
      refine dM hso ?_
      cases hs:(bF v []).isEmpty
      ·have he:E=0:=by rw [←tl];simp [hs]
       subst he
       (repeat (first|simp only [↓QA,QB,Nat.reduceLT,reduceIte,Nat.reduceEqDiff,Nat.reduceAdd,Nat.reduceLeDiff,Nat.reduceMul,Nat.reduceBEq,eY]|refine rd0 rfl ?_))
       simp [lA,pL,aB,ints]
      ·have he:E=8:=by rw [←tl];simp [hs]
       subst he
       (repeat (first|simp only [↓QA,QB,Nat.reduceLT,reduceIte,Nat.reduceEqDiff,Nat.reduceAdd,Nat.reduceLeDiff,Nat.reduceMul,Nat.reduceBEq,eY]|refine rd0 rfl ?_))
       simp
 ·obtain ⟨hj,ho⟩:=ho
  by_cases he:vS v ns=0
  ·rw [if_pos he] at ho
   refine ⟨hj,mC v ns σ.length,?_,.inl ⟨rfl,?_⟩⟩
   ·simp [gX,nS,a79,ho.1,ho.2.1,mC,he]
   ·rw [ho.2.2,pU,if_pos he]
  ·rw [if_neg he] at ho
   obtain ⟨h4,h5,τ,hσ⟩:=ho
   refine ⟨hj,mC v ns σ.length,?_,.inr ⟨20,mC v ns σ.length,mC v ns σ.length,?_,.inl rfl,fun i hi=>.inl (by rw [hσ];exact List.getElem?_append_left hi),by rw [hσ];simp,rfl,by rw [hσ];simp [pU,he]⟩⟩
   ·simp [gX,nS,a79,h4,h5,mC,he]
   ·simp [mC,he,snap,snaps]
theorem R1 {X:Type} {M:Type} {S:X→M→St} {obj:List AV} {es:M→List (AV×AV)} {p m N:Nat} (hS:∀ x,MemAt (S x) obj es p m N) (hK:∀ x A y B k i,N≤k→i<N→fD (S x A) (S y B) k i) (hpl:p<N) (U UD:X→St) (n:Nat) (hU:∀ x,(U x).length=n) (hUD:∀ x,(UD x).length=n) (ok:∀ x y,y∈U x→∀ k,N≤k→aJ k y) (okD:∀ x y,y∈UD x→∀ k,N≤k→aJ k y)
  (env:Env) (ps:List Nat) (a bb:ACode) (st st':LS) (pe pe':Option AJump) :
  Fam1 (fun x A=>S x A++(U x++[.cells [.ptr p 0],.loop st pe env ps a bb])) (fun x A=>S x A++(UD x++[.cells [.ptr p 0],.loop st' pe' env ps a bb])) obj es p m (N+n) (N+n+2):=by
 have low:∀ (x:X) (A:M) (y:X) (B:M) (C D:St) (k i:Nat),N≤k→i<N→fD (S x A++C) (S y B++D) k i:=by
  intro x A y B C D k i hk hi
  have e1:(S x A++C)[i]? = (S x A)[i]?:=List.getElem?_append_left (by rw [(hS x).len];exact hi)
  have e2:(S y B++D)[i]? = (S y B)[i]?:=List.getElem?_append_left (by rw [(hS y).len];exact hi)
  have:=hK x A y B k i hk hi
  simp only [fD,e1,e2] at this ⊢
  exact this
 have high:∀ (P Q:St) (C D:St) (l1 l2:ABlk) (k i:Nat),P.length=N→Q.length=N→C.length=n→D.length=n→(∀ y∈D,aJ k y)→N≤i→i<N+n+2→(l1=l2∨∃ st pe st' pe' env ps a b,l1 = .loop st pe env ps a b∧l2 = .loop st' pe' env ps a b) →
   fD (P++(C++[.cells [.ptr p 0],l1])) (Q++(D++[.cells [.ptr p 0],l2])) k i:=by
  intro P Q C D l1 l2 k i hP hQ hA hB hk h1 h2 hl
  have e1:(P++(C++[.cells [.ptr p 0],l1]))[i]? = (C++[.cells [.ptr p 0],l1])[i-N]?:=by rw [List.getElem?_append_right (by rw [hP];exact h1),hP]
  have e2:(Q++(D++[.cells [.ptr p 0],l2]))[i]? = (D++[.cells [.ptr p 0],l2])[i-N]?:=by rw [List.getElem?_append_right (by rw [hQ];exact h1),hQ]
  simp only [fD,e1,e2]
  obtain ⟨j,hj⟩:∃ j,i-N=j:=⟨_,rfl⟩
  rw [hj]
  by_cases hjn:j<n
  ·right;left
   have hb:j<D.length:=by omega
   refine ⟨D[j],?_,hk _ (List.getElem_mem hb)⟩
   rw [List.getElem?_append_left hb,List.getElem?_eq_getElem hb]
  ·have:j=n∨j=n+1:=by omega
   rcases this with rfl|rfl
   ·left
    rw [List.getElem?_append_right (by omega),List.getElem?_append_right (by omega),hA,hB]
    simp
   ·rw [List.getElem?_append_right (by omega),List.getElem?_append_right (by omega),hA,hB]
    simp only [Nat.add_sub_cancel_left,List.getElem?_cons_succ,List.getElem?_cons_zero]
    rcases hl with rfl|⟨_,_,_,_,_,_,_,_,rfl,rfl⟩
    ·exact .inl rfl
    ·exact .inr (.inr ⟨_,_,_,_,_,_,_,_,rfl,rfl⟩)
 refine ⟨fun x=>?_,fun x A=>?_,fun x A=>?_,fun x A y B k i hk hi=>?_,fun x A y B k i hk hi=>?_,by omega,by omega⟩
 ·have:=(hS x).app (U x++[.cells [.ptr p 0],.loop st pe env ps a bb])
  rw [List.length_append,hU] at this
  exact this
 ·simp [(hS x).len,hUD];omega
 ·have e:N+n=(S x A).length+n:=by rw [(hS x).len]
  rw [e,sK]
  have:n=(U x).length:=by rw [hU]
  rw [this]
  exact jG _ _
 ·by_cases h:i<N
  ·exact low _ _ _ _ _ _ _ _ (by omega) h
  ·exact high _ _ _ _ _ _ _ _ ((hS x).len A) ((hS y).len B) (hU x) (hU y) (fun z hz=>ok y z hz k (by omega)) (by omega) hi (.inl rfl)
 ·by_cases h:i<N
  ·exact low _ _ _ _ _ _ _ _ (by omega) h
  ·exact high _ _ _ _ _ _ _ _ ((hS x).len A) ((hS y).len B) (hU x) (hUD y) (fun z hz=>okD y z hz k (by omega)) (by omega) hi (.inr ⟨_,_,_,_,_,_,_,_,rfl,rfl⟩)
theorem NG {X M:Type} {S:X→M→St} {obj:List AV} {es:M→List (AV×AV)} {p m N:Nat} (hS:∀ x,MemAt (S x) obj es p m N) (U UD:X→St) (n:Nat) (hU:∀ x,(U x).length=n) (hUD:∀ x,(UD x).length=n)
  (J:AJump) (e:Env) (k:Nat) (ps:List Nat) (a bb:ACode) (g:FuncId) (ek:Env.get e k = .func g [] [.ptr (N+n) 0]) (r:X×Bool) (B':M) (x:X) (B:M)
  (hrun:Run T (.call g [.yield (N+n+1),.ptr (N+n) 0] (S x B++(U x++[.cells [.ptr p 0],.loop .ready none e ps a bb]))) fun o=>∃ τ',o.σ=Fam1.out (fun x A=>S x A++(U x++[.cells [.ptr p 0],.loop .ready none e ps a bb])) (fun x A=>S x A++(UD x++[.cells [.ptr p 0],.loop .done (some J) e ps a bb])) r B'++τ') (K:KJ)
  (hT:∀ τ,r.2=true→K none e (S r.1 B'++(U r.1++(.cells [.ptr p 0]::.dead::τ))))
  (hD:∀ τ,r.2=false→K (some J) e (S r.1 B'++(UD r.1++(.cells [.ptr p 0]::.dead::τ)))) :
  rK (K:=⟨K⟩) T (.rangeFunc (.t k) ps a bb) e (S x B++(U x++[.cells [.ptr p 0]])):=by
 have hlen:(S x B++(U x++[ABlk.cells [.ptr p 0]])).length=N+n+1:=by simp [(hS x).len,hU];omega
 have hout:∀ (A W:St) (lp:ABlk) (τ':St),A.length=N→W.length=n→(A++(W++[ABlk.cells [.ptr p 0],lp])++τ')[N+n+1]? = some lp∧(A++(W++[ABlk.cells [.ptr p 0],lp])++τ').set (N+n+1) .dead=A++(W++(.cells [.ptr p 0]::.dead::τ')):=by
  intro A W lp τ' hA hW
  have h1:N+n+1=(A++W).length+1:=by simp [hA,hW]
  have h2:A++(W++[ABlk.cells [.ptr p 0],lp])++τ'=(A++W)++(.cells [.ptr p 0]::lp::τ'):=by simp
  rw [h1,h2]
  constructor
  ·rw [rW];rfl
  ·rw [oN];simp
 refine GY (by rw [QF,ek]) (by
  rw [hlen,List.append_assoc (S x B),List.append_assoc (U x)]
  exact hrun) fun o ho=>?_
 obtain ⟨τ',hσ⟩:=ho
 rw [hlen,hσ]
 cases hr2:r.2
 ·have hD':=hD τ' hr2
  obtain ⟨g1,g2⟩:=hout (S r.1 B') (UD r.1) (.loop .done (some J) e ps a bb) τ' ((hS _).len _) (hUD _)
  simp only [Fam1.out,hr2,Bool.false_eq_true,if_false]
  rw [g1,g2]
  exact ⟨_,_,_,_,_,_,rfl,by simp,hD'⟩
 ·have hT':=hT τ' hr2
  obtain ⟨g1,g2⟩:=hout (S r.1 B') (U r.1) (.loop .ready none e ps a bb) τ' ((hS _).len _) (hU _)
  simp only [Fam1.out,hr2,if_true]
  rw [g1,g2]
  exact ⟨_,_,_,_,_,_,rfl,by simp,hT'⟩
theorem oA {X A M:Type} {S:X→M→St} {obj:List AV} {es:M→List (AV×AV)} {p m N:Nat} (hS:∀ x,MemAt (S x) obj es p m N) (U UD:X→St) (n:Nat) (hU:∀ x,(U x).length=n) (hUD:∀ x,(UD x).length=n) (J:AJump) (e:Env) (ps:List Nat) (args:A→Bool→Option Nat→List AV) (hps:∀ t fl tk,ps.length=(args t fl tk).length) (a bb:ACode) {P:A→Prop} {f:A→X→X×Bool}
  (h:∀ t,P t→∀ (fl:Bool) (tk:Option Nat) x B τ,wp T a (kK e ps (args t fl tk)) (S x B++(U x++(.cells [.ptr p 0]::.loop .ready none e ps a bb::τ))) (fun j e' σ'=>j=none∧∃ τ1,σ'=S x B++(U x++(.cells [.ptr p 0]::.loop .ready none e ps a bb::(τ++τ1))) ∧
   wp T bb e' (S x B++(U x++(.cells [.ptr p 0]::.loop .busy none e ps a bb::(τ++τ1)))) (fun j e'' σ''=>((f t x).2=true∧j=none∧∃ τ',σ''=S (f t x).1 B++(U (f t x).1++(.cells [.ptr p 0]::.loop .busy none e ps a bb::(τ++τ')))) ∨
    ((f t x).2=false∧j=some J∧∃ τ',σ''=S (f t x).1 B++(UD (f t x).1++(.cells [.ptr p 0]::.loop .busy none e ps a bb::(τ++τ'))))))) :
  vW (fun x B=>S x B++(U x++[.cells [.ptr p 0],.loop .ready none e ps a bb])) (fun x B=>S x B++(UD x++[.cells [.ptr p 0],.loop .done (some J) e ps a bb])) (N+n+1) args P f:=by
 intro t ht fl tk x B τ
 have hget:∀ (A W:St) (lp:ABlk) (υ:St),A.length=N→W.length=n→(A++(W++(ABlk.cells [.ptr p 0]::lp::υ)))[N+n+1]? = some lp:=by
  intro A W lp υ hA hW
  have h1:N+n+1=(A++W).length+1:=by simp [hA,hW]
  rw [h1,←List.append_assoc,rW];rfl
 have hset:∀ (A W:St) (lp l2:ABlk) (υ:St),A.length=N→W.length=n→(A++(W++(ABlk.cells [.ptr p 0]::lp::υ))).set (N+n+1) l2=A++(W++(ABlk.cells [.ptr p 0]::l2::υ)):=by
  intro A W lp l2 υ hA hW
  have h1:N+n+1=(A++W).length+1:=by simp [hA,hW]
  rw [h1,←List.append_assoc,oN]
  simp
 obtain ⟨r,hr⟩:∃ r,f t x=r:=⟨_,rfl⟩
 have h:=h t ht fl tk x B τ
 rw [hr] at h ⊢
 have hst:(fun x B=>S x B++(U x++[ABlk.cells [.ptr p 0],.loop .ready none e ps a bb])) x B++τ=S x B++(U x++(.cells [.ptr p 0]::.loop .ready none e ps a bb::τ)):=by simp
 rw [hst]
 refine .round (env:=e) (ps:=ps) (a:=a) (b:=bb)
  (R:=fun o=>o.j=none∧∃ τ1,o.σ=S x B++(U x++(.cells [.ptr p 0]::.loop .ready none e ps a bb::(τ++τ1)))∧wp T bb o.env (S x B++(U x++(.cells [.ptr p 0]::.loop .busy none e ps a bb::(τ++τ1)))) (fun j e'' σ''=>(r.2=true∧j=none∧∃ τ',σ''=S r.1 B++(U r.1++(.cells [.ptr p 0]::.loop .busy none e ps a bb::(τ++τ')))) ∨
    (r.2=false∧j=some J∧∃ τ',σ''=S r.1 B++(UD r.1++(.cells [.ptr p 0]::.loop .busy none e ps a bb::(τ++τ'))))))
  (S:=fun o=>(r.2=true∧o.j=none∧∃ τ',o.σ=S r.1 B++(U r.1++(.cells [.ptr p 0]::.loop .busy none e ps a bb::(τ++τ'))))∨(r.2=false∧o.j=some J∧∃ τ',o.σ=S r.1 B++(UD r.1++(.cells [.ptr p 0]::.loop .busy none e ps a bb::(τ++τ'))))) (hget _ _ _ _ ((hS _).len _) (hU _)) (by rw [hps t fl tk]) (jQ h fun o ho=>ho) ?_ ?_ ?_
 ·rintro o ⟨hj,τ1,hσ,_⟩
  exact ⟨hj,by rw [hσ];exact hget _ _ _ _ ((hS _).len _) (hU _)⟩
 ·rintro o ⟨_,τ1,hσ,hw⟩
  rw [hσ,hset _ _ _ _ _ ((hS _).len _) (hU _)]
  exact jQ hw fun o ho=>ho
 ·rintro o (⟨hr2,hj,τ',hσ⟩|⟨hr2,hj,τ',hσ⟩)
  ·rw [hσ,hj,hget _ _ _ _ ((hS _).len _) (hU _),hset _ _ _ _ _ ((hS _).len _) (hU _)]
   refine ⟨rfl,by rw [hr2];rfl,τ',?_⟩
   simp [Fam1.out,hr2]
  ·rw [hσ,hj,hget _ _ _ _ ((hS _).len _) (hUD _),hset _ _ _ _ _ ((hS _).len _) (hUD _)]
   refine ⟨rfl,by rw [hr2];rfl,τ',?_⟩
   simp [Fam1.out,hr2]
end Go.Am.Room
set_option maxRecDepth 8000
namespace Go.Am.Room
def y1:=And.intro @bD (And.intro @aI (And.intro @aX (And.intro @aW (And.intro @aV (And.intro @aS (And.intro @bC (And.intro @a9 (And.intro @aZ (And.intro @dH (And.intro @dF (And.intro @Nat.not_lt_zero (And.intro @List.length_append.{0} (And.intro @Nat.zero_add (And.intro @Nat.mul_one (And.intro @Int.toNat_natCast (And.intro @eH (And.intro @fO (And.intro @fP (And.intro @kQ (And.intro @fQ (And.intro @g7 (And.intro @g9 (And.intro @g8 (And.intro @gY (And.intro @hH (And.intro @gZ (And.intro @Nat.add_lt_add_iff_left (@Nat.lt_add_right_iff_pos))))))))))))))))))))))))))))
theorem HD (v:Net) (b m p:Nat) (σ:St) (hσ:aK σ p=some (db v b m)) (t:Nat) (ht:t<v.trams.length) (c:Int):jJ T (.func 111 [.ptr p 0] []) [.int .i64 t,.int .i64 c] σ (.bool (iR v t c)):=by
 refine eV (af:=a111) rfl (by simp [a111]) ?_
 have hit:=xK (v:=v) (t:=t) (z:=v.trams[t]) (by simp [ht]) c
 obtain ⟨z,hz⟩:∃ z,v.trams[t]=z:=⟨_,rfl⟩
 rw [hz] at hit
 have e:decide (c = -1)=(c==-1):=by rw [Bool.eq_iff_iff];simp
 rw [e] at hit
 rw [hit]
 cases h:(c==-1)
 ·(repeat (first|simp only [↓QA,QB,Nat.reduceLT,reduceIte,Nat.reduceEqDiff,Nat.reduceAdd,Nat.reduceLeDiff,Nat.reduceMul,Nat.reduceBEq,y1,a111,h,hσ,ht,hz]|refine rd0 rfl ?_))
  refine fI [] (by first|rfl|simp) ?_
  try simp only [QS,QC,Nat.reduceLT,reduceIte,Nat.reduceEqDiff,Nat.reduceAdd,Nat.reduceLeDiff,Nat.reduceMul,Nat.reduceBEq,y1]
 ·(repeat (first|simp only [↓QA,QB,Nat.reduceLT,reduceIte,Nat.reduceEqDiff,Nat.reduceAdd,Nat.reduceLeDiff,Nat.reduceMul,Nat.reduceBEq,y1,a111,h]|refine rd0 rfl ?_))
  refine fI [] (by first|rfl|simp) ?_
  try simp only [QS,QC,Nat.reduceLT,reduceIte,Nat.reduceEqDiff,Nat.reduceAdd,Nat.reduceLeDiff,Nat.reduceMul,Nat.reduceBEq,y1,Bool.false_and]
def XH (p:Nat):AV:=.func 111 [.ptr p 0] []
theorem FE (p:Nat):XH p = .func 111 [.ptr p 0] []:=by simp only [XH]
end Go.Am.Room
set_option maxRecDepth 8000
namespace Go.Am.Room
def mZ:=And.intro @bD (And.intro @aI (And.intro @aX (And.intro @aW (And.intro @aV (And.intro @aS (And.intro @bC (And.intro @a9 (And.intro @aZ (And.intro @dH (And.intro @dF (And.intro @Nat.not_lt_zero (And.intro @List.length_append.{0} (And.intro @Nat.zero_add (And.intro @Nat.mul_one (And.intro @Int.toNat_natCast (And.intro @eH (And.intro @fO (And.intro @fP (And.intro @kQ (And.intro @fQ (And.intro @g7 (And.intro @g9 (And.intro @g8 (And.intro @gY (And.intro @hH (And.intro @gZ (And.intro @Nat.add_lt_add_iff_left (And.intro @Nat.lt_add_right_iff_pos (And.intro @oH (@oB))))))))))))))))))))))))))))))
theorem CG {X:Type} {S:X→List K5→St} {v:Net} {b p m N:Nat} {bl:List Int} (hS:∀ x,MemAt (S x) (db v b m) (tEs v) p m N) (hK:∀ x A y B k i,N≤k→i<N→fD (S x A) (S y B) k i) (hpl:p<N) (hv:Vd v) (hb:ButIs b bl) (U UD:X→St) (n:Nat) (hU:∀ x,(U x).length=n) (hUD:∀ x,(UD x).length=n) (ok:∀ x y,y∈U x→∀ k,N≤k→aJ k y) (okD:∀ x y,y∈UD x→∀ k,N≤k→aJ k y)
  (J:AJump) {f:List Int→X→X×Bool} (e:Env) (k:Nat) (ps:List Nat) (a bb:ACode) (ek:Env.get e k = .func 106 [] [.ptr (N+n) 0])
  (hy:vW (fun x B=>S x B++(U x++[.cells [.ptr p 0],.loop .ready none e ps a bb])) (fun x B=>S x B++(UD x++[.cells [.ptr p 0],.loop .done (some J) e ps a bb])) (N+n+1) (o4 v) (TOk v bl) f)
  (x:X) (A:List K5) (K:KJ)
  (hT:∀ τ,(bT f (TL v bl) x).2=true→K none e (S (bT f (TL v bl) x).1 (fR v bl f x A).1.2++(U (bT f (TL v bl) x).1++(.cells [.ptr p 0]::.dead::τ))))
  (hD:∀ τ,(bT f (TL v bl) x).2=false→K (some J) e (S (bT f (TL v bl) x).1 (fR v bl f x A).1.2++(UD (bT f (TL v bl) x).1++(.cells [.ptr p 0]::.dead::τ)))) :
  rK (K:=⟨K⟩) T (.rangeFunc (.t k) ps a bb) e (S x A++(U x++[.cells [.ptr p 0]])):=by
 have hrun:=yR (R1 hS hK hpl U UD n hU hUD ok okD e ps a bb .ready .done none (some J)) hv hb hy (fun c h1 h2=>⟨h1,h2⟩) x A
 rw [tX] at hrun
 exact NG hS U UD n hU hUD J e k ps a bb 106 ek (bT f (TL v bl) x) (fR v bl f x A).1.2 x A hrun K hT hD
def rQ (p:Nat) (x:B64):St:=[.cells [.ptr p 0],.cells [.int .i64 (x.1.1:Nat)],.cells [.int .i64 (x.1.2:Nat)],.cells [XH p]]
theorem CW {S:List K5→St} {v:Net} {b p m N:Nat} (hR:MemAt S (db v b m) (tEs v) p m N) (hv:Vd v) (c:List Int) (x:B64) (B:List K5) (lp:ABlk) (τ:St) (e:Env) (G:Option AJump→St→Prop)
  (e1:Env.get e 1 = .ptr N 0) (e2:Env.get e 2 = .ptr (N+1) 0) (e3:Env.get e 3 = .ptr (N+2) 0) (e4:Env.get e 4 = .ptr (N+3) 0) (e6:Env.get e 6 = .ptr (N+(τ.length+1+1+1+1+1+1)) 0) (R:B64×Bool) (hRr:oD (gN v) v.trams.length c x=R) :
  wp T PR e (S B++(rQ p x++(.cells [.ptr p 0]::lp::(τ++[.cells (bL 3 (cM (dO v c)))])))) (fun j e'' σ''=>(R.2=true∧j=none∧∃ τ',σ''=S B++(rQ p R.1++(.cells [.ptr p 0]::lp::(τ++τ'))))∨G j σ''):=by
 have hnt:=hv.ntr
 have hR1:R.1.1=eB (gN v c) v.trams.length x.1:=by rw [←hRr,w5 (gN v) (by omega)]
 have hR2:R.2=true:=by rw [←hRr];exact zX _ _ _ _
 have hpl:=hR.pl
 have hta:∀ (b0 b1 b2 b3 b4 b5:ABlk),aK (S B++(b0::b1::b2::b3::b4::b5::(τ++[.cells (bL 3 (cM (dO v c)))]))) (N+(τ.length+1+1+1+1+1+1))=some (bL 3 (cM (dO v c))):=fun b0 b1 b2 b3 b4 b5=>by
  rw [hR.base]
  simp only [rA]
  rw [jG];rfl
 have hlt:=fun k hk=>o6 (gN v c) (n:=6) x.2 k hk
 simp only [rQ,hR1,FE]
 (repeat (first|simp only [↓QA,QB,Nat.reduceLT,reduceIte,Nat.reduceEqDiff,Nat.reduceAdd,Nat.reduceLeDiff,Nat.reduceMul,Nat.reduceBEq,mZ,hR.len,hR.base,hR.base0,hR.bset,hR.bset0,hR.at1,hR.at0,PR,e1]|refine rd0 rfl ?_))
 refine bY (S:=Nat) 0 (fun k=>k≤v.trams.length) (fun k=>v.trams.length-k)
  (fun k=>[(2,.ptr (N+1) 0),(3,.ptr (N+2) 0),(4,.ptr (N+3) 0),(6,.ptr (N+(τ.length+1+1+1+1+1+1)) 0),(27,.int .i64 v.trams.length),(28,.int .i64 k)])
  (fun k=>S B++(.cells [.ptr p 0]::.cells [.int .i64 ((eB (gN v c) k x.1).1:Nat)]::.cells [.int .i64 ((eB (gN v c) k x.1).2:Nat)]::.cells [.func 111 [.ptr p 0] []]::.cells [.ptr p 0]::lp::(τ++[.cells (bL 3 (cM (dO v c)))]))) (Nat.zero_le _) rfl ?_ fun k hk=>?_
 ·try simp only [aC,QE,Nat.reduceLT,reduceIte,Nat.reduceEqDiff,Nat.reduceAdd,Nat.reduceLeDiff,Nat.reduceMul,Nat.reduceBEq,mZ,hR.len,hR.base,hR.base0,hR.bset,hR.bset0,hR.at1,hR.at0,e2,e3,e4,e6]
  try simp
 ·(repeat (first|simp only [↓QA,QB,Nat.reduceLT,reduceIte,Nat.reduceEqDiff,Nat.reduceAdd,Nat.reduceLeDiff,Nat.reduceMul,Nat.reduceBEq,mZ,hR.len,hR.base,hR.base0,hR.bset,hR.bset0,hR.at1,hR.at0,YK]|refine rd0 rfl ?_))
  refine aG (fun hd=>?_) fun hd=>?_
  ·have hk1:k<v.trams.length:=by simpa using hd
   have hw:=bV hk1 (by omega)
   have hst:eB (gN v c) (k+1) x.1=if gN v c k=true then (CD (eB (gN v c) k x.1).1 (2^k),(eB (gN v c) k x.1).2) else ((eB (gN v c) k x.1).1,(eB (gN v c) k x.1).2|||2^k):=rfl
   obtain ⟨l1,l2⟩:=hlt k (by omega)
   obtain ⟨⟨Y1,Y2⟩,hY⟩:∃ Y,eB (gN v c) k x.1=Y:=⟨_,rfl⟩
   rw [hY] at hst l1 l2
   simp only at hst l1 l2
   have hp2:=kH (show k≤60 by omega)
   have hsh:=uM k (by omega)
   have hor:=aAV Y2 (2^k) (by omega) (by omega)
   have han:=HU Y1 (2^k) (by omega) (by omega)
   have i3:(0:Int)≤(k:Int)∧(k:Int)<((3:Nat):Int):=⟨by omega,by omega⟩
   have hg:=jS 3 (cM (dO v c)) (i:=k) (by omega)
   have hin:=fun σ (hσ:aK σ p=some (db v b m))=>HD v b m p σ hσ k hk1 (cM (dO v c) k)
   have hfe:iR v k (cM (dO v c) k)=gN v c k:=rfl
   rw [hY]
   (repeat (first|simp only [↓QA,QB,Nat.reduceLT,reduceIte,Nat.reduceEqDiff,Nat.reduceAdd,Nat.reduceLeDiff,Nat.reduceMul,Nat.reduceBEq,mZ,hR.len,hR.base,hR.base0,hR.bset,hR.bset0,hR.at1,hR.at0,hta,i3,hg]|refine rd0 rfl ?_))
   refine BA (hin _ (hR.at1 _ _)) ?_
   rw [hfe]
   cases hf:gN v c k
   ·rw [hf] at hst
    simp only [Bool.false_eq_true,if_false] at hst
    (repeat (first|simp only [↓QA,QB,Nat.reduceLT,reduceIte,Nat.reduceEqDiff,Nat.reduceAdd,Nat.reduceLeDiff,Nat.reduceMul,Nat.reduceBEq,mZ,hR.len,hR.base,hR.base0,hR.bset,hR.bset0,hR.at1,hR.at0,hta,i3,hg,hsh,hor]|refine rd0 rfl ?_))
    refine ⟨k+1,by omega,by omega,?_⟩
    rw [hst]
    try simp only [aC,QE,Nat.reduceLT,reduceIte,Nat.reduceEqDiff,Nat.reduceAdd,Nat.reduceLeDiff,Nat.reduceMul,Nat.reduceBEq,mZ,hR.len,hR.base,hR.base0,hR.bset,hR.bset0,hR.at1,hR.at0,hw,hR.eqS]
    try simp [aJ,okVs,okV]
    try omega
   ·rw [hf] at hst
    simp only [if_true] at hst
    (repeat (first|simp only [↓QA,QB,Nat.reduceLT,reduceIte,Nat.reduceEqDiff,Nat.reduceAdd,Nat.reduceLeDiff,Nat.reduceMul,Nat.reduceBEq,mZ,hR.len,hR.base,hR.base0,hR.bset,hR.bset0,hR.at1,hR.at0,hta,i3,hg,hsh,han]|refine rd0 rfl ?_))
    refine ⟨k+1,by omega,by omega,?_⟩
    rw [hst]
    try simp only [aC,QE,Nat.reduceLT,reduceIte,Nat.reduceEqDiff,Nat.reduceAdd,Nat.reduceLeDiff,Nat.reduceMul,Nat.reduceBEq,mZ,hR.len,hR.base,hR.base0,hR.bset,hR.bset0,hR.at1,hR.at0,hw,hR.eqS]
    try simp [aJ,okVs,okV]
    try omega
  ·have hk1:k=v.trams.length:=by
    have:¬k<v.trams.length:=by simpa using hd
    omega
   rw [hk1]
   (repeat (first|simp only [↓QA,QB,Nat.reduceLT,reduceIte,Nat.reduceEqDiff,Nat.reduceAdd,Nat.reduceLeDiff,Nat.reduceMul,Nat.reduceBEq,mZ,hR.len,hR.base,hR.base0,hR.bset,hR.bset0,hR.at1,hR.at0]|refine rd0 rfl ?_))
   exact .inl ⟨hR2,[.cells (bL 3 (cM (dO v c)))],rfl⟩
end Go.Am.Room
set_option maxRecDepth 8000
namespace Go.Am.Room
def qA:=And.intro @bD (And.intro @aI (And.intro @aX (And.intro @aW (And.intro @aV (And.intro @aS (And.intro @bC (And.intro @a9 (And.intro @aZ (And.intro @dH (And.intro @dF (And.intro @Nat.not_lt_zero (And.intro @List.length_append.{0} (And.intro @Nat.zero_add (And.intro @Nat.mul_one (And.intro @Int.toNat_natCast (And.intro @eH (And.intro @fO (And.intro @fP (And.intro @kQ (And.intro @fQ (And.intro @g7 (And.intro @g9 (And.intro @g8 (And.intro @gY (And.intro @hH (And.intro @gZ (And.intro @Nat.add_lt_add_iff_left (And.intro @Nat.lt_add_right_iff_pos (And.intro @oH (@oB))))))))))))))))))))))))))))))
def DH (v:Net) (h:v.trams.length≤6):B64:=mN (gN v) v.trams.length (TL v []) (lB _ h)
def F4 (v:Net) (h:v.trams.length≤6) (A:List K5):List K5:=(fR v [] (oD (gN v) v.trams.length) (lB _ h) A).1.2
theorem D3 {A:Type} (fine:A→Nat→Bool) (n:Nat) (l:List A) (x:B64):bT (oD fine n) l x=(mN fine n l x,true):=AU (zX fine n) l x
theorem C8 {S:List K5→St} {v:Net} {b p m N:Nat} (hR:MemAt S (db v b m) (tEs v) p m N) (hv:Vd v) (hb:ButIs b []) (h6:v.trams.length≤6) (A:List K5) :
  zS T (.func 84 [] []) [.ptr p 0] (S A) (.tuple [.int .i64 ((DH v h6).1.1:Nat),.int .i64 ((DH v h6).1.2:Nat)]) (S (F4 v h6 A)):=by
 have hit:=D3 (gN v) v.trams.length (TL v []) (lB _ h6)
 obtain ⟨Y,hY⟩:∃ Y,mN (gN v) v.trams.length (TL v []) (lB _ h6)=Y:=⟨_,rfl⟩
 have hl:DH v h6=Y:=hY
 rw [hY] at hit
 rw [hl]
 have hsh:=uM v.trams.length (by omega)
 have hp2:=kH (show v.trams.length≤60 by omega)
 have hw:IntKind.i64.wrap (((2^v.trams.length:Nat):Int)-1)=((2^v.trams.length-1:Nat):Int):=by
  have:=Nat.two_pow_pos v.trams.length
  rw [eO ⟨by omega,by omega⟩];omega
 have hok:∀ (x:B64) (y:ABlk),y∈rQ p x→∀ k,N≤k→aJ k y:=by
  intro x y hy k hk
  have hpl:=hR.pl
  simp only [rQ,List.mem_cons,List.not_mem_nil,or_false] at hy
  rcases hy with rfl|rfl|rfl|rfl<;>simp [aJ,okVs,okV,XH]<;>omega
 refine xD hR (af:=a84) rfl (by simp [a84]) ?_
 have hrg:=m7 hR hv hb (rQ p) (rQ p) 4 (fun _=>rfl) (fun _=>rfl) hok hok .ret (f:=oD (gN v) v.trams.length)
 (repeat (first|simp only [↓QA,QB,Nat.reduceLT,reduceIte,Nat.reduceEqDiff,Nat.reduceAdd,Nat.reduceLeDiff,Nat.reduceMul,Nat.reduceBEq,qA,hR.len,hR.base,hR.base0,hR.bset,hR.bset0,hR.at1,hR.at0,a84,hsh,hw]|refine rd0 rfl ?_))
 refine sV rfl (by simp [a80]) ?_
 (repeat (first|simp only [↓QA,QB,Nat.reduceLT,reduceIte,Nat.reduceEqDiff,Nat.reduceAdd,Nat.reduceLeDiff,Nat.reduceMul,Nat.reduceBEq,qA,hR.len,hR.base,hR.base0,hR.bset,hR.bset0,hR.at1,hR.at0,a80]|refine rd0 rfl ?_))
 refine hrg _ 19 [20,21] _ _ ?_ ?_ (lB _ h6) A _ ?_ ?_
 ·try simp only [aC,QE,Nat.reduceLT,reduceIte,Nat.reduceEqDiff,Nat.reduceAdd,Nat.reduceLeDiff,Nat.reduceMul,Nat.reduceBEq,qA,hR.len,hR.base,hR.base0,hR.bset,hR.bset0,hR.at1,hR.at0]
 ·refine oA (S:=fun _=>S) (fun _=>hR) (rQ p) (rQ p) 4 (fun _=>rfl) (fun _=>rfl) .ret _ _ (o4 v) (fun _ _ _=>rfl) _ _ ?_
  intro c _ fl tk x B τ
  simp only [kK,o4]
  obtain ⟨R,hRr⟩:∃ R,oD (gN v) v.trams.length c x=R:=⟨_,rfl⟩
  rw [hRr]
  have lb:=fun lp e G=>CW hR hv c x B lp τ e G
  simp only [rQ,FE] at lb ⊢
  (repeat (first|simp only [↓QA,QB,Nat.reduceLT,reduceIte,Nat.reduceEqDiff,Nat.reduceAdd,Nat.reduceLeDiff,Nat.reduceMul,Nat.reduceBEq,qA,hR.len,hR.base,hR.base0,hR.bset,hR.bset0,hR.at1,hR.at0]|refine rd0 rfl ?_))
  refine ⟨[.cells (bL 3 (cM (dO v c)))],by simp,?_⟩
  simp only [←FE]
  refine CW hR hv c x B _ τ _ _ ?_ ?_ ?_ ?_ ?_ R hRr
  all_goals try simp only [aC,QE,Nat.reduceLT,reduceIte,Nat.reduceEqDiff,Nat.reduceAdd,Nat.reduceLeDiff,Nat.reduceMul,Nat.reduceBEq,qA,hR.len,hR.base,hR.base0,hR.bset,hR.bset0,hR.at1,hR.at0]
 ·intro τ h2
  rw [hit]
  simp only [rQ]
  (repeat (first|simp only [↓QA,QB,Nat.reduceLT,reduceIte,Nat.reduceEqDiff,Nat.reduceAdd,Nat.reduceLeDiff,Nat.reduceMul,Nat.reduceBEq,qA,hR.len,hR.base,hR.base0,hR.bset,hR.bset0,hR.at1,hR.at0]|refine rd0 rfl ?_))
  refine ⟨_,_,rfl,rfl,?_⟩
  try simp only [QS,QC,Nat.reduceLT,reduceIte,Nat.reduceEqDiff,Nat.reduceAdd,Nat.reduceLeDiff,Nat.reduceMul,Nat.reduceBEq,qA,hR.len,hR.base,hR.base0,hR.bset,hR.bset0,hR.at1,hR.at0]
 ·intro τ h2
  rw [hit] at h2
  cases h2
end Go.Am.Room
set_option maxRecDepth 8000
namespace Go.Am.Room
def d7:=And.intro @bD (And.intro @aI (And.intro @aX (And.intro @aW (And.intro @aV (And.intro @aS (And.intro @bC (And.intro @a9 (And.intro @aZ (And.intro @dH (And.intro @dF (And.intro @Nat.not_lt_zero (And.intro @List.length_append.{0} (And.intro @Nat.zero_add (And.intro @Nat.mul_one (And.intro @Int.toNat_natCast (And.intro @Nat.add_lt_add_iff_left (@Nat.lt_add_right_iff_pos)))))))))))))))))
theorem vI (v:Net) (hf:Fits v):dY T 25 [bX v] (qP (uU v)):=by
 refine bA (af:=a25) rfl (by simp [a25]) dd ?_
 have her:=fun σ=>tD σ v [] (.inl rfl) hf
 simp only [List.map_nil,mC,pU,lV] at her
 (repeat (first|simp only [↓QA,QB,Nat.reduceLT,reduceIte,Nat.reduceEqDiff,Nat.reduceAdd,Nat.reduceLeDiff,Nat.reduceMul,Nat.reduceBEq,d7,a25]|refine rd0 rfl ?_))
 refine dM (her _) ?_
 by_cases h0:eQ v=0
 ·obtain ⟨hv,hne⟩:=m9 h0
  have hnt:=hv.ntr
  have h6:v.trams.length≤6:=by omega
  obtain ⟨hl1,hl2⟩:=G5 hv h6
  have hld:=C8 (BT [.cells (aB v)] v) hv OM h6 (pL v)
  have hlt:=(DH v h6).2
  obtain ⟨⟨⟨P,Q⟩,hPQ⟩,hY⟩:∃ Y,DH v h6=Y:=⟨_,rfl⟩
  have hYl:mN (gN v) v.trams.length (TL v []) (lB _ h6)=⟨(P,Q),hPQ⟩:=hY
  rw [hYl] at hl1 hl2
  rw [hY] at hld
  simp only at hl1 hl2 hld hPQ
  have hm:uU v=(lst v.trams.length P,lst v.trams.length Q,0):=by rw [uU,if_pos h0,hl1,hl2]
  have hlo1:=tG P v.trams.length (by omega) (by omega)
  have hlo2:=tG Q v.trams.length (by omega) (by omega)
  rw [if_pos h0,if_pos h0,hm]
  simp only [lA] at hld ⊢
  try simp only [↓QA,QB,Nat.reduceLT,reduceIte,Nat.reduceEqDiff,Nat.reduceAdd,Nat.reduceLeDiff,Nat.reduceMul,Nat.reduceBEq,d7] at hld
  (repeat (first|simp only [↓QA,QB,Nat.reduceLT,reduceIte,Nat.reduceEqDiff,Nat.reduceAdd,Nat.reduceLeDiff,Nat.reduceMul,Nat.reduceBEq,d7,show ((0:Int)==0)=true from rfl]|refine rd0 rfl ?_))
  refine dM hld ?_
  (repeat (first|simp only [↓QA,QB,Nat.reduceLT,reduceIte,Nat.reduceEqDiff,Nat.reduceAdd,Nat.reduceLeDiff,Nat.reduceMul,Nat.reduceBEq,d7]|refine rd0 rfl ?_))
  ((first|refine aE (hlo1) rfl dd ?_|refine aF (hlo1) rfl dd ?_);(repeat (first|simp only [↓QA,QB,Nat.reduceLT,reduceIte,Nat.reduceEqDiff,Nat.reduceAdd,Nat.reduceLeDiff,Nat.reduceMul,Nat.reduceBEq,d7]|refine rd0 rfl ?_)))
  ((first|refine aE (hlo2) rfl dd ?_|refine aF (hlo2) rfl dd ?_);(repeat (first|simp only [↓QA,QB,Nat.reduceLT,reduceIte,Nat.reduceEqDiff,Nat.reduceAdd,Nat.reduceLeDiff,Nat.reduceMul,Nat.reduceBEq,d7,qP]|refine rd0 rfl ?_)))
 ·have h0':(eQ v==0)=false:=by simpa using h0
  have hm:uU v=([],[],eQ v):=by rw [uU,if_neg h0]
  rw [if_neg h0,if_neg h0,hm]
  (repeat (first|simp only [↓QA,QB,Nat.reduceLT,reduceIte,Nat.reduceEqDiff,Nat.reduceAdd,Nat.reduceLeDiff,Nat.reduceMul,Nat.reduceBEq,d7,h0',qP]|refine rd0 rfl ?_))
  try rfl
theorem nD (v:Net) (hf:Fits v):dY T 28 [bX v] (AR (mX v)):=by
 refine bA (af:=a28) rfl (by simp [a28]) dd ?_
 have her:=fun σ=>tD σ v [] (.inl rfl) hf
 simp only [List.map_nil,mC,pU,lV] at her
 (repeat (first|simp only [↓QA,QB,Nat.reduceLT,reduceIte,Nat.reduceEqDiff,Nat.reduceAdd,Nat.reduceLeDiff,Nat.reduceMul,Nat.reduceBEq,d7,a28]|refine rd0 rfl ?_))
 refine dM (her _) ?_
 by_cases h0:eQ v=0
 ·obtain ⟨hv,hne⟩:=m9 h0
  have hnt:=hv.ntr
  have h6:v.trams.length≤6:=by omega
  obtain ⟨hl1,hl2⟩:=G5 hv h6
  have hld:=C8 (BT [.cells (aB v)] v) hv OM h6 (pL v)
  obtain ⟨⟨⟨P,Q⟩,hPQ⟩,hY⟩:∃ Y,DH v h6=Y:=⟨_,rfl⟩
  have hYl:mN (gN v) v.trams.length (TL v []) (lB _ h6)=⟨(P,Q),hPQ⟩:=hY
  rw [hYl] at hl1 hl2
  rw [hY] at hld
  simp only at hl1 hl2 hld hPQ
  have hin:=W5 (v:=v) (l:=bF v [])
  have hml:=PU v (bF v [])
  have hlo2:=tG Q v.trams.length (by omega) (by omega)
  rw [hl2] at hlo2
  obtain ⟨M,hM⟩:∃ M,xF v (bF v [])=M:=⟨_,rfl⟩
  have hfo:mX v=if M=[] then (0,9) else (jX v M (-1),0):=by rw [mX,if_pos h0,hM]
  rw [hM] at hlo2 hml
  simp only [hM] at hin
  obtain ⟨Z,hZ⟩:∃ Z,jX v M (-1)=Z:=⟨_,rfl⟩
  have hZM:(Z<0↔M=[]):=by
   have key:∀ (l:List Int) (b:Int),(∀ t∈l,0≤t)→(jX v l b<0↔b<0∧l=[]):=by
    intro l
    induction l with
    |nil=>intro b _;simp [jX]
    |cons t l ih =>
     intro b h
     have ht:=h t (by simp)
     rw [jX,ih _ fun x hx=>h x (by simp [hx])]
     split<;>simp_all<;>omega
   rw [←hZ,key M (-1) fun t ht=>(hin t ht).1]
   simp
  have hfo2:mX v=if Z<0 then (0,9) else (Z,0):=by
   rw [hfo,hZ]
   by_cases h:M=[]
   ·rw [if_pos h,if_pos (hZM.2 h)]
   ·rw [if_neg h,if_neg fun q=>h (hZM.1 q)]
  rw [if_pos h0,if_pos h0,hfo2]
  simp only [lA] at hld ⊢
  try simp only [↓QA,QB,Nat.reduceLT,reduceIte,Nat.reduceEqDiff,Nat.reduceAdd,Nat.reduceLeDiff,Nat.reduceMul,Nat.reduceBEq,d7] at hld
  (repeat (first|simp only [↓QA,QB,Nat.reduceLT,reduceIte,Nat.reduceEqDiff,Nat.reduceAdd,Nat.reduceLeDiff,Nat.reduceMul,Nat.reduceBEq,d7,show ((0:Int)==0)=true from rfl]|refine rd0 rfl ?_))
  refine dM hld ?_
  (repeat (first|simp only [↓QA,QB,Nat.reduceLT,reduceIte,Nat.reduceEqDiff,Nat.reduceAdd,Nat.reduceLeDiff,Nat.reduceMul,Nat.reduceBEq,d7]|refine rd0 rfl ?_))
  ((first|refine aE (hlo2) rfl dd ?_|refine aF (hlo2) rfl dd ?_);(repeat (first|simp only [↓QA,QB,Nat.reduceLT,reduceIte,Nat.reduceEqDiff,Nat.reduceAdd,Nat.reduceLeDiff,Nat.reduceMul,Nat.reduceBEq,d7]|refine rd0 rfl ?_)))
  refine bY (S:=Nat×Int) (0,-1) (fun a=>a.1≤M.length∧a.2<v.trams.length∧jX v (M.drop a.1) a.2=Z) (fun a=>M.length-a.1)
   (fun a=>[(1,.ptr 0 0),(8,.int .i64 a.2),(28,ints M),(29,.int .i64 M.length),(30,.int .i64 a.1)]) (fun a=>[.cells (aB v),.cells (aB v),.cells (aB v),.map (tEs v (F4 v h6 (pL v))),.cells (db v 0 3)]) ⟨Nat.zero_le _,by simp only;omega,hZ⟩ (by simp [aB,ints]) ?_ fun a ha=>?_
  ·try simp only [aC,QE,Nat.reduceLT,reduceIte,Nat.reduceEqDiff,Nat.reduceAdd,Nat.reduceLeDiff,Nat.reduceMul,Nat.reduceBEq,d7,ints]
   try simp
  ·obtain ⟨k,b⟩:=a
   obtain ⟨hk,hb,hgo⟩:=ha
   simp only at hk hb hgo
   (repeat (first|simp only [↓QA,QB,Nat.reduceLT,reduceIte,Nat.reduceEqDiff,Nat.reduceAdd,Nat.reduceLeDiff,Nat.reduceMul,Nat.reduceBEq,d7,ZR]|refine rd0 rfl ?_))
   refine aG (fun h2=>?_) fun h2=>?_
   ·have hk1:k<M.length:=by simpa using h2
    have hw:=bV hk1 (by omega)
    have hx:=hin _ (List.getElem_mem hk1)
    rw [EW hk1] at hgo
    obtain ⟨x,hxe⟩:∃ x:Nat,M[k]=(x:Int):=⟨M[k].toNat,by omega⟩
    rw [hxe] at hx hgo
    have hx1:x<v.trams.length:=by omega
    (repeat (first|simp only [↓QA,QB,Nat.reduceLT,reduceIte,Nat.reduceEqDiff,Nat.reduceAdd,Nat.reduceLeDiff,Nat.reduceMul,Nat.reduceBEq,d7,hk1,hxe]|refine rd0 rfl ?_))
    cases hbn:decide (b<0)
    ·have hbn':¬b<0:=by simpa using hbn
     obtain ⟨B,rfl⟩:∃ B:Nat,b=(B:Int):=⟨b.toNat,by omega⟩
     have hB1:B<v.trams.length:=by omega
     rw [Int.toNat_natCast,Int.toNat_natCast,RR hx1,RR hB1] at hgo
     obtain ⟨zx,hzx⟩:∃ z,v.trams[x]=z:=⟨_,rfl⟩
     obtain ⟨zb,hzb⟩:∃ z,v.trams[B]=z:=⟨_,rfl⟩
     rw [hzx,hzb] at hgo
     cases q:decide (zx.due<zb.due)
     ·have q':¬zx.due<zb.due:=by simpa using q
      rw [if_neg (by omega)] at hgo
      (repeat (first|simp only [↓QA,QB,Nat.reduceLT,reduceIte,Nat.reduceEqDiff,Nat.reduceAdd,Nat.reduceLeDiff,Nat.reduceMul,Nat.reduceBEq,d7,hbn,hx1,hB1,hzx,hzb,q,hw]|refine rd0 rfl ?_))
      refine ⟨(k+1,(B:Int)),⟨by simp only;omega,by simp only;omega,hgo⟩,by simp only;omega,?_⟩
      try simp only [aC,QE,Nat.reduceLT,reduceIte,Nat.reduceEqDiff,Nat.reduceAdd,Nat.reduceLeDiff,Nat.reduceMul,Nat.reduceBEq,d7,hw,ints]
      try simp [aJ]
     ·have q':zx.due<zb.due:=by simpa using q
      rw [if_pos (.inr q')] at hgo
      (repeat (first|simp only [↓QA,QB,Nat.reduceLT,reduceIte,Nat.reduceEqDiff,Nat.reduceAdd,Nat.reduceLeDiff,Nat.reduceMul,Nat.reduceBEq,d7,hbn,hx1,hB1,hzx,hzb,q,hw]|refine rd0 rfl ?_))
      refine ⟨(k+1,(x:Int)),⟨by simp only;omega,by simp only;omega,hgo⟩,by simp only;omega,?_⟩
      try simp only [aC,QE,Nat.reduceLT,reduceIte,Nat.reduceEqDiff,Nat.reduceAdd,Nat.reduceLeDiff,Nat.reduceMul,Nat.reduceBEq,d7,hw,ints]
      try simp [aJ]
    ·have hbn':b<0:=by simpa using hbn
     rw [if_pos (.inl hbn')] at hgo
     (repeat (first|simp only [↓QA,QB,Nat.reduceLT,reduceIte,Nat.reduceEqDiff,Nat.reduceAdd,Nat.reduceLeDiff,Nat.reduceMul,Nat.reduceBEq,d7,hbn,hw]|refine rd0 rfl ?_))
     refine ⟨(k+1,(x:Int)),⟨by simp only;omega,by simp only;omega,hgo⟩,by simp only;omega,?_⟩
     try simp only [aC,QE,Nat.reduceLT,reduceIte,Nat.reduceEqDiff,Nat.reduceAdd,Nat.reduceLeDiff,Nat.reduceMul,Nat.reduceBEq,d7,hw,ints]
     try simp [aJ]
   ·have hk1:k=M.length:=by simp at h2;omega
    rw [hk1,List.drop_length,jX] at hgo
    subst hgo
    cases q:decide (b<0)
    ·have q':¬b<0:=by simpa using q
     rw [if_neg q']
     (repeat (first|simp only [↓QA,QB,Nat.reduceLT,reduceIte,Nat.reduceEqDiff,Nat.reduceAdd,Nat.reduceLeDiff,Nat.reduceMul,Nat.reduceBEq,d7,q,AR]|refine rd0 rfl ?_))
     try try simp only [QS,QC,Nat.reduceLT,reduceIte,Nat.reduceEqDiff,Nat.reduceAdd,Nat.reduceLeDiff,Nat.reduceMul,Nat.reduceBEq,d7]
    ·have q':b<0:=by simpa using q
     rw [if_pos q']
     (repeat (first|simp only [↓QA,QB,Nat.reduceLT,reduceIte,Nat.reduceEqDiff,Nat.reduceAdd,Nat.reduceLeDiff,Nat.reduceMul,Nat.reduceBEq,d7,q,AR]|refine rd0 rfl ?_))
     try try simp only [QS,QC,Nat.reduceLT,reduceIte,Nat.reduceEqDiff,Nat.reduceAdd,Nat.reduceLeDiff,Nat.reduceMul,Nat.reduceBEq,d7]
 ·have h0':(eQ v==0)=false:=by simpa using h0
  have hm:mX v=(0,eQ v):=by rw [mX,if_neg h0]
  rw [if_neg h0,if_neg h0,hm]
  (repeat (first|simp only [↓QA,QB,Nat.reduceLT,reduceIte,Nat.reduceEqDiff,Nat.reduceAdd,Nat.reduceLeDiff,Nat.reduceMul,Nat.reduceBEq,d7,h0',AR]|refine rd0 rfl ?_))
  try rfl
end Go.Am.Room
set_option maxRecDepth 8000
namespace Go.Am.Room
def iH:=And.intro @bD (And.intro @aI (And.intro @aX (And.intro @aW (And.intro @aV (And.intro @aS (And.intro @bC (And.intro @a9 (And.intro @aZ (And.intro @dH (And.intro @dF (And.intro @Nat.not_lt_zero (And.intro @List.length_append.{0} (And.intro @Nat.zero_add (And.intro @Nat.mul_one (And.intro @Int.toNat_natCast (And.intro @Nat.add_lt_add_iff_left (And.intro @Nat.lt_add_right_iff_pos (And.intro @eH (And.intro @fO (And.intro @fP (And.intro @kQ (@fQ))))))))))))))))))))))
theorem xI (σ:St) (v:Net) (ns:List Int) (hns:ns=[]∨∃ t,ns=[t,(v.trams.length:Int)]) (hf:Fits v) (h:vS v ns=0):zS T (.func 79 [] []) [bX v,.lit (ns.map (.int .i64)) true none] σ (.tuple [.ptr (σ.length+3) 0,.int .i64 0]) (lA σ v (pL v)):=by
 have:=tD σ v ns hns hf
 rwa [mC,if_pos h,pU,if_pos h] at this
theorem BK (σ:St) (v:Net) (ns:List Int) (hns:ns=[]∨∃ t,ns=[t,(v.trams.length:Int)]) (hf:Fits v) (h:vS v ns≠0):zS T (.func 79 [] []) [bX v,.lit (ns.map (.int .i64)) true none] σ (.tuple [.nilPtr,.int .i64 (vS v ns)]) σ:=by
 have:=tD σ v ns hns hf
 rwa [mC,if_neg h,pU,if_neg h] at this
abbrev Com:=Span×Bool×Bool
def cU (x:Com):St:=[.cells [.bool x.2.1],.cells [.bool x.2.2]]
theorem XY (N:Nat) (x:Com) (y:ABlk) (hy:y∈cU x) (k:Nat) (hk:N≤k):aJ k y:=by
 simp only [cU,List.mem_cons,List.not_mem_nil,or_false] at hy
 rcases hy with rfl|rfl<;>simp [aJ,okVs,okV]
def cS (v:Net) (t:Nat) (x:Com) (A:List K5):St:=lA [.cells (aB v),.cells [.int .i64 t],.cells [.int .i64 x.1.lo,.int .i64 x.1.hi]] v A
theorem XX (v:Net) (t:Nat) (x:Com):MemAt (cS v t x) (db v 0 5) (tEs v) 6 5 7:=BT [.cells (aB v),.cells [.int .i64 t],.cells [.int .i64 x.1.lo,.int .i64 x.1.hi]] v
theorem UM (v:Net) (t:Nat) (x:Com) (A:List K5) (y:Com) (B:List K5) (k i:Nat) (hk:7≤k) (hi:i<7):fD (cS v t x A) (cS v t y B) k i:=by
 match i,hi with
 |0,_=>exact .inl rfl
 |1,_=>exact .inl rfl
 |2,_=>exact .inr (.inl ⟨_,rfl,by simp [aJ,okVs,okV]⟩)
 |3,_=>exact .inl rfl
 |4,_=>exact .inl rfl
 |5,_=>exact .inr (.inl ⟨_,rfl,sG v B k⟩)
 |6,_=>exact .inl rfl
def QH (v:Net) (t:Nat) (c:List Int) (x:Com):Com×Bool:=(PW (d8 (dO v c) (t:Int)) x,true)
theorem nE (v:Net) (hf:Fits v) (n:Int):dY T 23 [bX v,.int .i64 n] (rT (rP v n)):=by
 refine bA (af:=a23) rfl (by simp [a23]) dd ?_
 (repeat (first|simp only [↓QA,QB,Nat.reduceLT,reduceIte,Nat.reduceEqDiff,Nat.reduceAdd,Nat.reduceLeDiff,Nat.reduceMul,Nat.reduceBEq,iH,a23]|refine rd0 rfl ?_))
 by_cases h0:mS v n=0
 ·have hck:(dL v).2.2=0∧inR n 0 ((v.trams.length:Int)-1)=true∧bF v []≠[]:=by
   have h1:=h0
   by_cases q:(dL v).2.2=0
   ·cases q2:inR n 0 ((v.trams.length:Int)-1)
    ·simp [mS,gQ,q,q2] at h1
    ·refine ⟨q,rfl,fun e=>?_⟩
     simp [mS,gQ,q,q2,e] at h1
   ·simp [mS,gQ,q] at h1
  obtain ⟨hc0,hin,hne⟩:=hck
  have hv:=hJ hc0
  have hnt:=hv.ntr
  rw [eK] at hin
  obtain ⟨t,rfl⟩:∃ t:Nat,n=t:=⟨n.toNat,by omega⟩
  have htl:t<v.trams.length:=by omega
  have hmem:=JL (T5 hv [] t)
  have hTne:CB v (TL v []) t≠[]:=by
   intro e
   have:TL v []=[]:=by simpa [CB] using e
   have h2:=K3 hv []
   rw [this] at h2
   simp at h2
   exact hne h2
  have hst:=IP hTne
  have hca:=XG (CB v (TL v []) t)
  have hgo:=AU (f:=QH v t) (fun _ _=>rfl) (TL v []) (⟨0,0⟩,false,false)
  have hfd:(TL v []).foldl (fun x c=>(QH v t c x).1) (⟨0,0⟩,false,false)=(CB v (TL v []) t).foldl (fun x a=>PW a x) (⟨0,0⟩,false,false):=by
   rw [CB,List.foldl_map];rfl
  rw [hfd,hca] at hgo
  have hm:rP v t=((pW (CB v (TL v []) t)).1,(pW (CB v (TL v []) t)).2,0):=by rw [rP,if_pos h0,Int.toNat_natCast,hmem]
  obtain ⟨AT,hAT⟩:∃ AT,CB v (TL v []) t=AT:=⟨_,rfl⟩
  rw [hAT] at hm hgo hst
  have hcs:pW AT=(gI (fH AT),fC (fH AT).length AT.length):=rfl
  rw [hcs,hst] at hm
  obtain ⟨SP,hSP⟩:∃ SP,gI (fH AT)=SP:=⟨_,rfl⟩
  obtain ⟨EM,hEM⟩:∃ EM,(fH AT).isEmpty=EM:=⟨_,rfl⟩
  obtain ⟨SY,hSY⟩:∃ SY,AT.contains (-1)=SY:=⟨_,rfl⟩
  rw [hSP,hEM,hSY] at hgo
  rw [hSP,hEM,hSY] at hm
  rw [hm]
  have her:=fun σ=>xI σ v [(t:Int),(v.trams.length:Int)] (.inr ⟨_,rfl⟩) hf h0
  simp only [List.map_nil,List.map_cons] at her
  have hrng:=CG (S:=cS v t) (XX v t) (UM v t) (by decide) hv OM cU cU 2 (fun _=>rfl) (fun _=>rfl) (XY _) (XY _) .ret (f:=QH v t)
  simp only [cS,lA] at hrng her
  simp only [aI] at hrng her
  refine dM (her _) ?_
  (repeat (first|simp only [↓QA,QB,Nat.reduceLT,reduceIte,Nat.reduceEqDiff,Nat.reduceAdd,Nat.reduceLeDiff,Nat.reduceMul,Nat.reduceBEq,iH,show ((0:Int)==0)=true from rfl]|refine rd0 rfl ?_))
  refine sV rfl (by simp [a80]) ?_
  (repeat (first|simp only [↓QA,QB,Nat.reduceLT,reduceIte,Nat.reduceEqDiff,Nat.reduceAdd,Nat.reduceLeDiff,Nat.reduceMul,Nat.reduceBEq,iH,a80]|refine rd0 rfl ?_))
  refine hrng _ 28 [29,30] _ _ ?_ ?_ (⟨0,0⟩,false,false) (pL v) _ ?_ ?_
  ·try simp only [aC,QE,Nat.reduceLT,reduceIte,Nat.reduceEqDiff,Nat.reduceAdd,Nat.reduceLeDiff,Nat.reduceMul,Nat.reduceBEq,iH]
  ·refine oA (XX v t) cU cU 2 (fun _=>rfl) (fun _=>rfl) .ret _ _ (o4 v) (fun _ _ _=>rfl) _ _ ?_
   intro c _ fl tk x B τ
   have i3:(0:Int)≤(t:Int)∧(t:Int)<((3:Nat):Int):=⟨by omega,by omega⟩
   have hg:=jS 3 (cM (dO v c)) (i:=t) (by omega)
   have hcf:cM (dO v c) t=d8 (dO v c) (t:Int):=rfl
   rw [hcf] at hg
   have hta:∀ (b0 b1 b2 b3 b4 b5 b6 b7 b8 b9 b10:ABlk),aK (b0::b1::b2::b3::b4::b5::b6::b7::b8::b9::b10::(τ++[.cells (bL 3 (cM (dO v c)))])) (τ.length+1+1+1+1+1+1+1+1+1+1+1)=some (bL 3 (cM (dO v c))):=fun b0 b1 b2 b3 b4 b5 b6 b7 b8 b9 b10=>by
    simp only [rA]
    rw [jG];rfl
   obtain ⟨C,hC⟩:∃ C,d8 (dO v c) (t:Int)=C:=⟨_,rfl⟩
   have hcy:QH v t c x=(if C = -1 then (x.1,x.2.1,true) else if x.2.1=false then (⟨C,C⟩,true,x.2.2) else (lI x.1 C,true,x.2.2),true):=by rw [QH,hC];rfl
   rw [hC] at hg
   rw [hcy]
   obtain ⟨⟨lo,hi⟩,ru,sy⟩:=x
   simp only [kK,o4,cS,lA,cU,aI]
   (repeat (first|simp only [↓QA,QB,Nat.reduceLT,reduceIte,Nat.reduceEqDiff,Nat.reduceAdd,Nat.reduceLeDiff,Nat.reduceMul,Nat.reduceBEq,iH]|refine rd0 rfl ?_))
   refine ⟨[.cells (bL 3 (cM (dO v c)))],by simp,?_⟩
   cases q1:(C==-1)
   ·have q1':C≠-1:=by simpa using q1
    rw [if_neg q1']
    cases ru
    ·(repeat (first|simp only [↓QA,QB,Nat.reduceLT,reduceIte,Nat.reduceEqDiff,Nat.reduceAdd,Nat.reduceLeDiff,Nat.reduceMul,Nat.reduceBEq,iH,LQ,hta,i3,hg,q1]|refine rd0 rfl ?_))
     exact .inl ⟨[.cells (bL 3 (cM (dO v c)))],by simp⟩
    ·(repeat (first|simp only [↓QA,QB,Nat.reduceLT,reduceIte,Nat.reduceEqDiff,Nat.reduceAdd,Nat.reduceLeDiff,Nat.reduceMul,Nat.reduceBEq,iH,LQ,hta,i3,hg,q1]|refine rd0 rfl ?_))
     exact .inl ⟨[.cells (bL 3 (cM (dO v c)))],by simp [lI]⟩
   ·have q1':C = -1:=by simpa using q1
    rw [if_pos q1']
    (repeat (first|simp only [↓QA,QB,Nat.reduceLT,reduceIte,Nat.reduceEqDiff,Nat.reduceAdd,Nat.reduceLeDiff,Nat.reduceMul,Nat.reduceBEq,iH,LQ,hta,i3,hg,q1]|refine rd0 rfl ?_))
    exact .inl ⟨[.cells (bL 3 (cM (dO v c)))],by simp⟩
  ·intro τ h2
   rw [hgo]
   simp only [cU,cS,lA,aI]
   cases SY
   ·(repeat (first|simp only [↓QA,QB,Nat.reduceLT,reduceIte,Nat.reduceEqDiff,Nat.reduceAdd,Nat.reduceLeDiff,Nat.reduceMul,Nat.reduceBEq,iH,rT]|refine rd0 rfl ?_))
    try try simp only [QS,QC,Nat.reduceLT,reduceIte,Nat.reduceEqDiff,Nat.reduceAdd,Nat.reduceLeDiff,Nat.reduceMul,Nat.reduceBEq,iH]
   ·cases EM
    ·(repeat (first|simp only [↓QA,QB,Nat.reduceLT,reduceIte,Nat.reduceEqDiff,Nat.reduceAdd,Nat.reduceLeDiff,Nat.reduceMul,Nat.reduceBEq,iH,rT,Bool.true_eq_false,Bool.false_eq_true]|refine rd0 rfl ?_))
     try try simp only [QS,QC,Nat.reduceLT,reduceIte,Nat.reduceEqDiff,Nat.reduceAdd,Nat.reduceLeDiff,Nat.reduceMul,Nat.reduceBEq,iH]
    ·(repeat (first|simp only [↓QA,QB,Nat.reduceLT,reduceIte,Nat.reduceEqDiff,Nat.reduceAdd,Nat.reduceLeDiff,Nat.reduceMul,Nat.reduceBEq,iH,rT,Bool.true_eq_false,Bool.false_eq_true]|refine rd0 rfl ?_))
     try try simp only [QS,QC,Nat.reduceLT,reduceIte,Nat.reduceEqDiff,Nat.reduceAdd,Nat.reduceLeDiff,Nat.reduceMul,Nat.reduceBEq,iH]
  ·intro τ h2
   rw [hgo] at h2
   cases h2
 ·have h0':(mS v n==0)=false:=by simpa using h0
  have hm:rP v n=(⟨0,0⟩,0,mS v n):=by rw [rP,if_neg h0]
  have her:=fun σ=>BK σ v [n,(v.trams.length:Int)] (.inr ⟨n,rfl⟩) hf h0
  simp only [List.map_nil,List.map_cons,S4] at her
  rw [hm]
  refine dM (her _) ?_
  (repeat (first|simp only [↓QA,QB,Nat.reduceLT,reduceIte,Nat.reduceEqDiff,Nat.reduceAdd,Nat.reduceLeDiff,Nat.reduceMul,Nat.reduceBEq,iH,h0',rT]|refine rd0 rfl ?_))
  try rfl
end Go.Am.Room
set_option maxRecDepth 8000
namespace Go.Am.Room
def iV:=And.intro @bD (And.intro @aI (And.intro @aX (And.intro @aW (And.intro @aV (And.intro @aS (And.intro @bC (And.intro @a9 (And.intro @aZ (And.intro @dH (And.intro @dF (And.intro @Nat.not_lt_zero (And.intro @List.length_append.{0} (And.intro @Nat.zero_add (And.intro @Nat.mul_one (And.intro @Int.toNat_natCast (And.intro @eH (And.intro @fO (And.intro @fP (And.intro @kQ (And.intro @fQ (And.intro @g7 (And.intro @g9 (And.intro @g8 (And.intro @gY (And.intro @hH (And.intro @gZ (And.intro @Nat.add_lt_add_iff_left (@Nat.lt_add_right_iff_pos))))))))))))))))))))))))))))
theorem EK (v:Net) (b m p:Nat) (σ:St) (hσ:aK σ p=some (db v b m)) (t:Nat) (ht:t<v.trams.length) (c:Int):jJ T (.func 111 [] []) [.ptr p 0,.int .i64 t,.int .i64 c] σ (.bool (iR v t c)):=by
 refine eV (af:=a111) rfl (by simp [a111]) ?_
 have hit:=xK (v:=v) (t:=t) (z:=v.trams[t]) (by simp [ht]) c
 obtain ⟨z,hz⟩:∃ z,v.trams[t]=z:=⟨_,rfl⟩
 rw [hz] at hit
 have e:decide (c = -1)=(c==-1):=by rw [Bool.eq_iff_iff];simp
 rw [e] at hit
 rw [hit]
 cases h:(c==-1)
 ·(repeat (first|simp only [↓QA,QB,Nat.reduceLT,reduceIte,Nat.reduceEqDiff,Nat.reduceAdd,Nat.reduceLeDiff,Nat.reduceMul,Nat.reduceBEq,iV,a111,h,hσ,ht,hz]|refine rd0 rfl ?_))
  refine fI [] (by first|rfl|simp) ?_
  try simp only [QS,QC,Nat.reduceLT,reduceIte,Nat.reduceEqDiff,Nat.reduceAdd,Nat.reduceLeDiff,Nat.reduceMul,Nat.reduceBEq,iV]
 ·(repeat (first|simp only [↓QA,QB,Nat.reduceLT,reduceIte,Nat.reduceEqDiff,Nat.reduceAdd,Nat.reduceLeDiff,Nat.reduceMul,Nat.reduceBEq,iV,a111,h]|refine rd0 rfl ?_))
  refine fI [] (by first|rfl|simp) ?_
  try simp only [QS,QC,Nat.reduceLT,reduceIte,Nat.reduceEqDiff,Nat.reduceAdd,Nat.reduceLeDiff,Nat.reduceMul,Nat.reduceBEq,iV,Bool.false_and]
theorem IC (a b:List Int) (ha:a.length<9223372036854775808) (hb:b.length<9223372036854775808):dY T 88 [ints a,ints b] (.bool (decide (a=b))):=by
 refine bA (af:=a88) rfl (by simp [a88]) dd ?_
 by_cases h:a.length=b.length
 ·have g:((a.length:Int)==(b.length:Int))=true:=by simp;omega
  (repeat (first|simp only [↓QA,QB,Nat.reduceLT,reduceIte,Nat.reduceEqDiff,Nat.reduceAdd,Nat.reduceLeDiff,Nat.reduceMul,Nat.reduceBEq,iV,a88,g]|refine rd0 rfl ?_))
  refine bY (S:=Nat) 0 (fun k=>k≤a.length∧a.take k=b.take k) (fun k=>a.length-k) (fun k=>[(0,ints a),(1,ints b),(12,.int .i64 a.length),(13,.int .i64 k)]) (fun _=>[]) ⟨Nat.zero_le _,by simp⟩ rfl ?_ fun k hk=>?_
  ·try simp only [aC,QE,Nat.reduceLT,reduceIte,Nat.reduceEqDiff,Nat.reduceAdd,Nat.reduceLeDiff,Nat.reduceMul,Nat.reduceBEq,iV,ints]
   try simp
  ·obtain ⟨hk,hq⟩:=hk
   (repeat (first|simp only [↓QA,QB,Nat.reduceLT,reduceIte,Nat.reduceEqDiff,Nat.reduceAdd,Nat.reduceLeDiff,Nat.reduceMul,Nat.reduceBEq,iV,YZ]|refine rd0 rfl ?_))
   refine aG (fun hd=>?_) fun hd=>?_
   ·have hk1:k<a.length:=by simpa using hd
    have hk2:k<b.length:=by omega
    have hw:=bV hk1 ha
    obtain ⟨x,hx⟩:∃ x,a[k]=x:=⟨_,rfl⟩
    obtain ⟨y,hy⟩:∃ y,b[k]=y:=⟨_,rfl⟩
    cases q:(x==y)
    ·have q':x≠y:=by simpa using q
     have hne:decide (a=b)=false:=by
      simp only [decide_eq_false_iff_not]
      rintro rfl
      exact q' (hx.symm.trans hy)
     rw [hne]
     (repeat (first|simp only [↓QA,QB,Nat.reduceLT,reduceIte,Nat.reduceEqDiff,Nat.reduceAdd,Nat.reduceLeDiff,Nat.reduceMul,Nat.reduceBEq,iV,hk1,hk2,hx,hy,q]|refine rd0 rfl ?_))
    ·have q':x=y:=by simpa using q
     (repeat (first|simp only [↓QA,QB,Nat.reduceLT,reduceIte,Nat.reduceEqDiff,Nat.reduceAdd,Nat.reduceLeDiff,Nat.reduceMul,Nat.reduceBEq,iV,hk1,hk2,hx,hy,q]|refine rd0 rfl ?_))
     refine ⟨k+1,⟨by omega,by rw [List.take_succ_eq_append_getElem hk1,List.take_succ_eq_append_getElem hk2,hq,hx,hy,q']⟩,by omega,?_⟩
     try simp only [aC,QE,Nat.reduceLT,reduceIte,Nat.reduceEqDiff,Nat.reduceAdd,Nat.reduceLeDiff,Nat.reduceMul,Nat.reduceBEq,iV,hw,ints]
     try simp [aJ]
   ·have hk1:k=a.length:=by
     have:¬k<a.length:=by simpa using hd
     omega
    rw [hk1,List.take_length,h,List.take_length] at hq
    have he:decide (a=b)=true:=by simpa using hq
    rw [he]
    (repeat (first|simp only [↓QA,QB,Nat.reduceLT,reduceIte,Nat.reduceEqDiff,Nat.reduceAdd,Nat.reduceLeDiff,Nat.reduceMul,Nat.reduceBEq,iV]|refine rd0 rfl ?_))
 ·have g:((a.length:Int)==(b.length:Int))=false:=by simp;omega
  have hne:decide (a=b)=false:=by
   simp only [decide_eq_false_iff_not]
   rintro rfl
   exact h rfl
  rw [hne]
  (repeat (first|simp only [↓QA,QB,Nat.reduceLT,reduceIte,Nat.reduceEqDiff,Nat.reduceAdd,Nat.reduceLeDiff,Nat.reduceMul,Nat.reduceBEq,iV,a88,g]|refine rd0 rfl ?_))
def k7:Option (List Int)→AV
 |none=>.lit [] true none
 |some l=>ints l
theorem B5 (P:List (List Int)):(P.map some).map k7=P.map ints:=by simp [k7]
theorem MT (ps:List (List Int)) (pl n k:Nat) (hn:n=ps.length) (σ:St) (h1:aK σ k=some [.ref pl 0 n 1]) (h2:aK σ pl=some (ps.map ints)) (i:Nat) (hi:i<ps.length):jJ T (.func 112 [] [.ptr k 0]) [.int .i64 i] σ (ints (cH ps i)):=by
 refine eV (af:=a112) rfl (by simp [a112]) ?_
 rw [zA hi]
 obtain ⟨w,hw⟩:∃ w,ps[i]=w:=⟨_,rfl⟩
 have i1:(0:Int)≤(i:Int)∧(i:Int)<(n:Int)∧1=1:=⟨by omega,by omega,rfl⟩
 rw [hw]
 (repeat (first|simp only [↓QA,QB,Nat.reduceLT,reduceIte,Nat.reduceEqDiff,Nat.reduceAdd,Nat.reduceLeDiff,Nat.reduceMul,Nat.reduceBEq,iV,a112,h1,h2,i1,hi,hw]|refine rd0 rfl ?_))
 refine fI [] (by first|rfl|simp) ?_
 try simp only [QS,QC,Nat.reduceLT,reduceIte,Nat.reduceEqDiff,Nat.reduceAdd,Nat.reduceLeDiff,Nat.reduceMul,Nat.reduceBEq,iV]
end Go.Am.Room
set_option maxRecDepth 8000
namespace Go.Am.Room
def fV:=And.intro @bD (And.intro @aI (And.intro @aX (And.intro @aW (And.intro @aV (And.intro @aS (And.intro @bC (And.intro @a9 (And.intro @aZ (And.intro @dH (And.intro @dF (And.intro @Nat.not_lt_zero (And.intro @List.length_append.{0} (And.intro @Nat.zero_add (And.intro @Nat.mul_one (And.intro @Int.toNat_natCast (And.intro @eH (And.intro @fO (And.intro @fP (And.intro @kQ (And.intro @fQ (And.intro @g7 (And.intro @g9 (And.intro @g8 (And.intro @gY (And.intro @hH (And.intro @gZ (And.intro @Nat.add_lt_add_iff_left (And.intro @Nat.lt_add_right_iff_pos (And.intro @oH (@oB))))))))))))))))))))))))))))))
def FB (v:Net) (ps:List (List Int)) (c:List Int) (x:Unit):Unit×Bool:=(x,HV v ps c)
theorem HE (v:Net) (ps:List (List Int)):∀ l:List (List Int),(bT (FB v ps) l ()).2=l.all (HV v ps)
 |[]=>rfl
 |c::l=>by
  have ih:=HE v ps l
  rw [List.all_cons]
  by_cases h:HV v ps c=true
  ·have:bT (FB v ps) (c::l) ()=bT (FB v ps) l ():=by simp only [bT,FB];exact if_pos h
   rw [this,h,Bool.true_and,ih]
  ·have:bT (FB v ps) (c::l) ()=((),false):=by simp only [bT,FB];exact if_neg h
   rw [this]
   rw [Bool.not_eq_true] at h
   rw [h];rfl
def zW (v:Net) (ps:List (List Int)) (A:List K5):List K5:=(fR v [] (FB v ps) () A).1.2
def doU (p pl n:Nat) (_:Unit):St:=[.cells [.ptr p 0],.cells [.ref pl 0 n 1],.cells [.bool false]]
theorem MQ {S:List K5→St} {v:Net} {b p m N:Nat} (hR:MemAt S (db v b m) (tEs v) p m N) (hv:Vd v) (ps:List (List Int)) (hps:RunOk v ps) (pl:Nat) (hpl:∀ A,aK (S A) pl=some (ps.map ints)) (hplN:pl<N) (c:List Int) (hcl:c.length=v.rails.length) (hcm:BS v (rlI c)) (B:List K5) (lp:ABlk) (τ:St) (e:Env)
  (e2:Env.get e 2 = .ptr N 0) (e3:Env.get e 3 = .ptr (N+1) 0) (e4:Env.get e 4 = .ptr (N+2) 0) (e5:Env.get e 5 = .ptr (N+(τ.length+1+1+1+1+1)) 0) :
  wp T RF e (S B++(doU p pl v.trams.length ()++(.cells [.ptr p 0]::lp::(τ++[.cells (bL 5 (rl c))])))) (fun j e'' σ''=>(mG v (gE v ps (rlI c)) v.trams.length=true∧j=none∧∃ τ',σ''=S B++(doU p pl v.trams.length ()++(.cells [.ptr p 0]::lp::(τ++τ')))) ∨
   (mG v (gE v ps (rlI c)) v.trams.length=false∧j=some .ret∧∃ τ',σ''=S B++(doU p pl v.trams.length ()++(.cells [.ptr p 0]::lp::(τ++τ'))))):=by
 have hnt:=hv.ntr
 have hpN:=hR.pl
 have hlen:=hps.len
 have hta:∀ (b0 b1 b2 b3 b4:ABlk) (cs:List AV) (τ2:St),aK (S B++(b0::b1::b2::b3::b4::(τ++(.cells cs::τ2)))) (N+(τ.length+1+1+1+1+1))=some cs:=fun b0 b1 b2 b3 b4 cs τ2=>by
  rw [hR.base]
  simp only [rA]
  rw [jG];rfl
 have htb:∀ (b0 b1 b2 b3 b4 b5:ABlk) (cs:List AV) (τ2:St),aK (S B++(b0::b1::b2::b3::b4::(τ++(b5::.cells cs::τ2)))) (N+(τ.length+1+1+1+1+1+1))=some cs:=fun b0 b1 b2 b3 b4 b5 cs τ2=>by
  rw [hR.base]
  simp only [rA]
  have:τ++(b5::.cells cs::τ2)=(τ++[b5])++(.cells cs::τ2):=by simp
  rw [this,show τ.length+1=(τ++[b5]).length by simp,jG];rfl
 have hrun:∀ (σ:St) (k:Nat),aK σ p=some (db v b m)→aK σ pl=some (ps.map ints)→aK σ k=some [.ref pl 0 v.trams.length 1]→jJ T (.func 109 [] []) [.ptr p 0,.agg (bL 5 (rl c)),.func 112 [] [.ptr k 0]] σ (.agg (bL 3 (cM (gE v ps (rlI c))))):=fun σ k h1 h2 h3=>by
  have hkl:=pK h3
  exact IH v hv b m p σ h1 (pK h1) _ (fun τ n hn=>by
   try simp only [QS,QC,Nat.reduceLT,reduceIte,Nat.reduceEqDiff,Nat.reduceAdd,Nat.reduceLeDiff,Nat.reduceMul,Nat.reduceBEq,fV,hR.len,hR.base,hR.base0,hR.bset,hR.bset0,hR.at1,hR.at0,E3]
   simp [show k<n by omega]) ps hps (fun i hi τ=>MT ps pl v.trams.length k hlen.symm _ (j5 h3 τ) (j5 h2 τ) i (by omega)) (rl c) (rlI c) (SJ c) hcm
 have hcc:(gE v ps (rlI c)).length=v.trams.length:=oE _ _ _ _
 obtain ⟨CS,hCS⟩:∃ CS,gE v ps (rlI c)=CS:=⟨_,rfl⟩
 simp only [hCS] at hrun
 rw [hCS] at hcc
 rw [hCS]
 have hplS:∀ τ,aK (S B++τ) pl=some (ps.map ints):=fun τ=>j5 (hpl B) τ
 have hk3:∀ (b0 b2 b3 b4:ABlk) (cs:List AV) (τ2:St),aK (S B++(b0::.cells cs::b2::τ2)) (N+1)=some cs:=fun b0 b2 b3 b4 cs τ2=>by rw [hR.base];rfl
 simp only [doU]
 (repeat (first|simp only [↓QA,QB,Nat.reduceLT,reduceIte,Nat.reduceEqDiff,Nat.reduceAdd,Nat.reduceLeDiff,Nat.reduceMul,Nat.reduceBEq,fV,hR.len,hR.base,hR.base0,hR.bset,hR.bset0,hR.at1,hR.at0,RF,hta,e2,e3,e4,e5]|refine rd0 rfl ?_))
 refine bW (hrun _ (N+1) (hR.at1 _ _) (hplS _) (by rw [hR.base];rfl)) ?_
 (repeat (first|simp only [↓QA,QB,Nat.reduceLT,reduceIte,Nat.reduceEqDiff,Nat.reduceAdd,Nat.reduceLeDiff,Nat.reduceMul,Nat.reduceBEq,fV,hR.len,hR.base,hR.base0,hR.bset,hR.bset0,hR.at1,hR.at0,hta,htb,e2,e3,e4,e5]|refine rd0 rfl ?_))
 refine bY (S:=Nat) 0 (fun k=>k≤v.trams.length∧mG v CS k=true) (fun k=>v.trams.length-k)
  (fun k=>[(2,.ptr N 0),(4,.ptr (N+2) 0),(6,.ptr (N+(τ.length+1+1+1+1+1+1)) 0),(21,.int .i64 v.trams.length),(22,.int .i64 k)])
  (fun k=>S B++(.cells [.ptr p 0]::.cells [.ref pl 0 v.trams.length 1]::.cells [.bool false]::.cells [.ptr p 0]::lp::(τ++[.cells (bL 5 (rl c)),.cells (bL 3 (cM CS))]))) ⟨Nat.zero_le _,rfl⟩ rfl ?_ fun k hk=>?_
 ·try simp only [aC,QE,Nat.reduceLT,reduceIte,Nat.reduceEqDiff,Nat.reduceAdd,Nat.reduceLeDiff,Nat.reduceMul,Nat.reduceBEq,fV,hR.len,hR.base,hR.base0,hR.bset,hR.bset0,hR.at1,hR.at0,e2,e4]
  try simp
 ·obtain ⟨hk,hf⟩:=hk
  (repeat (first|simp only [↓QA,QB,Nat.reduceLT,reduceIte,Nat.reduceEqDiff,Nat.reduceAdd,Nat.reduceLeDiff,Nat.reduceMul,Nat.reduceBEq,fV,hR.len,hR.base,hR.base0,hR.bset,hR.bset0,hR.at1,hR.at0,ZT]|refine rd0 rfl ?_))
  refine aG (fun hd=>?_) fun hd=>?_
  ·have hk1:k<v.trams.length:=by simpa using hd
   have hw:=bV hk1 (by omega)
   have hsu:=xT v CS k
   rw [hf,Bool.true_and] at hsu
   have i3:(0:Int)≤(k:Int)∧(k:Int)<((3:Nat):Int):=⟨by omega,by omega⟩
   have hg:=jS 3 (cM CS) (i:=k) (by omega)
   have hin:=fun σ (hσ:aK σ p=some (db v b m))=>EK v b m p σ hσ k hk1 (cM CS k)
   have hfe:iR v k (cM CS k)=iR v k (d8 CS (k:Int)):=rfl
   (repeat (first|simp only [↓QA,QB,Nat.reduceLT,reduceIte,Nat.reduceEqDiff,Nat.reduceAdd,Nat.reduceLeDiff,Nat.reduceMul,Nat.reduceBEq,fV,hR.len,hR.base,hR.base0,hR.bset,hR.bset0,hR.at1,hR.at0,htb,i3,hg]|refine rd0 rfl ?_))
   refine BA (hin _ (hR.at1 _ _)) ?_
   rw [hfe]
   cases hq:iR v k (d8 CS (k:Int))
   ·rw [hq] at hsu
    have hff:=CQ hsu (show k+1≤v.trams.length by omega)
    rw [hff]
    (repeat (first|simp only [↓QA,QB,Nat.reduceLT,reduceIte,Nat.reduceEqDiff,Nat.reduceAdd,Nat.reduceLeDiff,Nat.reduceMul,Nat.reduceBEq,fV,hR.len,hR.base,hR.base0,hR.bset,hR.bset0,hR.at1,hR.at0,htb,i3,hg]|refine rd0 rfl ?_))
    exact .inr ⟨[.cells (bL 5 (rl c)),.cells (bL 3 (cM CS))],by simp⟩
   ·rw [hq] at hsu
    (repeat (first|simp only [↓QA,QB,Nat.reduceLT,reduceIte,Nat.reduceEqDiff,Nat.reduceAdd,Nat.reduceLeDiff,Nat.reduceMul,Nat.reduceBEq,fV,hR.len,hR.base,hR.base0,hR.bset,hR.bset0,hR.at1,hR.at0,htb,i3,hg]|refine rd0 rfl ?_))
    refine ⟨k+1,⟨by omega,hsu⟩,by omega,?_⟩
    try simp only [aC,QE,Nat.reduceLT,reduceIte,Nat.reduceEqDiff,Nat.reduceAdd,Nat.reduceLeDiff,Nat.reduceMul,Nat.reduceBEq,fV,hR.len,hR.base,hR.base0,hR.bset,hR.bset0,hR.at1,hR.at0,hw,hR.eqS]
    try simp [aJ,okVs,okV]
    try omega
  ·have hk1:k=v.trams.length:=by
    have:¬k<v.trams.length:=by simpa using hd
    omega
   rw [hk1] at hf
   rw [hf]
   (repeat (first|simp only [↓QA,QB,Nat.reduceLT,reduceIte,Nat.reduceEqDiff,Nat.reduceAdd,Nat.reduceLeDiff,Nat.reduceMul,Nat.reduceBEq,fV,hR.len,hR.base,hR.base0,hR.bset,hR.bset0,hR.at1,hR.at0]|refine rd0 rfl ?_))
   exact .inl ⟨[.cells (bL 5 (rl c)),.cells (bL 3 (cM CS))],by simp⟩
theorem MJ {S:List K5→St} {v:Net} {b p m N:Nat} (hR:MemAt S (db v b m) (tEs v) p m N) (hv:Vd v) (hb:ButIs b []) (ps:List (List Int)) (hps:RunOk v ps) (pl:Nat) (hpl:∀ A,aK (S A) pl=some (ps.map ints)) (hplN:pl<N) (A:List K5) :
  zS T (.func 87 [] []) [.ptr p 0,.ref pl 0 v.trams.length 1] (S A) (.bool (n4 v ps)) (S (zW v ps A)):=by
 have hnt:=hv.ntr
 have hpN:=hR.pl
 have hlen:=hps.len
 have hit:=HE v ps (TL v [])
 have hok:∀ (x:Unit) (y:ABlk),y∈doU p pl v.trams.length x→∀ k,N≤k→aJ k y:=by
  intro x y hy k hk
  simp only [doU,List.mem_cons,List.not_mem_nil,or_false] at hy
  rcases hy with rfl|rfl|rfl<;>simp [aJ,okVs,okV]<;>omega
 refine xD hR (af:=a87) rfl (by simp [a87]) ?_
 have hrg:=m7 hR hv hb (doU p pl v.trams.length) (doU p pl v.trams.length) 3 (fun _=>rfl) (fun _=>rfl) hok hok .ret (f:=FB v ps)
 (repeat (first|simp only [↓QA,QB,Nat.reduceLT,reduceIte,Nat.reduceEqDiff,Nat.reduceAdd,Nat.reduceLeDiff,Nat.reduceMul,Nat.reduceBEq,fV,hR.len,hR.base,hR.base0,hR.bset,hR.bset0,hR.at1,hR.at0,a87]|refine rd0 rfl ?_))
 refine sV rfl (by simp [a80]) ?_
 (repeat (first|simp only [↓QA,QB,Nat.reduceLT,reduceIte,Nat.reduceEqDiff,Nat.reduceAdd,Nat.reduceLeDiff,Nat.reduceMul,Nat.reduceBEq,fV,hR.len,hR.base,hR.base0,hR.bset,hR.bset0,hR.at1,hR.at0,a80]|refine rd0 rfl ?_))
 refine hrg _ 9 [10,11] _ _ ?_ ?_ () A _ ?_ ?_
 ·try simp only [aC,QE,Nat.reduceLT,reduceIte,Nat.reduceEqDiff,Nat.reduceAdd,Nat.reduceLeDiff,Nat.reduceMul,Nat.reduceBEq,fV,hR.len,hR.base,hR.base0,hR.bset,hR.bset0,hR.at1,hR.at0]
 ·refine oA (S:=fun _=>S) (fun _=>hR) (doU p pl v.trams.length) (doU p pl v.trams.length) 3 (fun _=>rfl) (fun _=>rfl) .ret _ _ (o4 v) (fun _ _ _=>rfl) _ _ ?_
  intro c hc fl tk x B τ
  obtain ⟨hcl,hcm⟩:=hc.1
  simp only [kK,o4,doU]
  have hfin:FB v ps c x=((),mG v (gE v ps (rlI c)) v.trams.length):=rfl
  rw [hfin]
  have db:=fun lp e=>MQ hR hv ps hps pl hpl hplN c hcl hcm B lp τ e
  simp only [doU] at db
  (repeat (first|simp only [↓QA,QB,Nat.reduceLT,reduceIte,Nat.reduceEqDiff,Nat.reduceAdd,Nat.reduceLeDiff,Nat.reduceMul,Nat.reduceBEq,fV,hR.len,hR.base,hR.base0,hR.bset,hR.bset0,hR.at1,hR.at0]|refine rd0 rfl ?_))
  refine ⟨[.cells (bL 5 (rl c))],by simp,?_⟩
  refine db _ _ ?_ ?_ ?_ ?_
  all_goals try simp only [aC,QE,Nat.reduceLT,reduceIte,Nat.reduceEqDiff,Nat.reduceAdd,Nat.reduceLeDiff,Nat.reduceMul,Nat.reduceBEq,fV,hR.len,hR.base,hR.base0,hR.bset,hR.bset0,hR.at1,hR.at0]
 ·intro τ h2
  rw [hit] at h2
  have h3:n4 v ps=true:=h2
  rw [h3]
  simp only [doU]
  (repeat (first|simp only [↓QA,QB,Nat.reduceLT,reduceIte,Nat.reduceEqDiff,Nat.reduceAdd,Nat.reduceLeDiff,Nat.reduceMul,Nat.reduceBEq,fV,hR.len,hR.base,hR.base0,hR.bset,hR.bset0,hR.at1,hR.at0]|refine rd0 rfl ?_))
  refine ⟨_,_,rfl,rfl,?_⟩
  try simp only [QS,QC,Nat.reduceLT,reduceIte,Nat.reduceEqDiff,Nat.reduceAdd,Nat.reduceLeDiff,Nat.reduceMul,Nat.reduceBEq,fV,hR.len,hR.base,hR.base0,hR.bset,hR.bset0,hR.at1,hR.at0]
 ·intro τ h2
  rw [hit] at h2
  have h3:n4 v ps=false:=h2
  rw [h3]
  simp only [doU]
  (repeat (first|simp only [↓QA,QB,Nat.reduceLT,reduceIte,Nat.reduceEqDiff,Nat.reduceAdd,Nat.reduceLeDiff,Nat.reduceMul,Nat.reduceBEq,fV,hR.len,hR.base,hR.base0,hR.bset,hR.bset0,hR.at1,hR.at0]|refine rd0 rfl ?_))
  refine ⟨_,_,rfl,rfl,?_⟩
  try simp only [QS,QC,Nat.reduceLT,reduceIte,Nat.reduceEqDiff,Nat.reduceAdd,Nat.reduceLeDiff,Nat.reduceMul,Nat.reduceBEq,fV,hR.len,hR.base,hR.base0,hR.bset,hR.bset0,hR.at1,hR.at0]
abbrev PS:=List (Option (List Int))×List K5
def MF (l:List (Option (List Int))):List (List Int):=l.map fun o=>o.getD []
theorem C4 (P:List (List Int)):MF (P.map some)=P:=by
 rw [MF,List.map_map]
 exact List.map_id P
def yZ (v:Net) (rec:Nat→PS→Bool×PS) (t left:Nat):List (List Int)→PS→Bool×PS
 |[],y=>(false,y)
 |w::ws,y =>
  if gU v t w≤left then (if (rec (left-gU v t w) (y.1.set t (some w),y.2)).1=true then rec (left-gU v t w) (y.1.set t (some w),y.2) else yZ v rec t left ws (rec (left-gU v t w) (y.1.set t (some w),y.2)).2)
  else yZ v rec t left ws (y.1.set t (some w),y.2)
def fnd (v:Net):Nat→Nat→Nat→PS→Bool×PS
 |0,_,left,y=>if left=0 then (n4 v (MF y.1),(y.1,zW v (MF y.1) y.2)) else (false,y)
 |k+1,t,left,y=>yZ v (fun left y=>fnd v k (t+1) left y) t left (cJ v (eR v t) []) y
structure Fnd (v:Net) (p:List (List Int)) (t k:Nat) (y:PS):Prop where
 len:y.1.length=t+k
 pre:y.1.take t=p.map some
theorem sJ {y:List (Option (List Int))} {t:Nat} {p:List (List Int)} {w:List Int} (h1:y.take t=p.map some) (h2:t<y.length):(y.set t (some w)).take (t+1)=(p++[w]).map some:=by
 have hl:(y.set t (some w)).length=y.length:=by simp
 rw [List.take_succ_eq_append_getElem (by rw [hl];exact h2)]
 simp [List.take_set_of_le,h1]
theorem y8 (v:Net):∀ (k t left:Nat) (y:PS) (p:List (List Int)),p.length=t→Fnd v p t k y →
  ((fnd v k t left y).1=(dfs v (n4 v) k p left).isSome)∧(∀ P,dfs v (n4 v) k p left=some P→(fnd v k t left y).2.1=P.map some)∧Fnd v p t k (fnd v k t left y).2
 |0,t,left,y,p,hp,hy=>by
  have hl:y.1=p.map some:=by
   rw [←hy.pre,List.take_of_length_le (by rw [hy.len];omega)]
  simp only [fnd,dfs]
  by_cases h0:left=0
  ·rw [if_pos h0,hl,C4]
   subst h0
   simp only [decide_true,Bool.true_and]
   cases hd:n4 v p
   ·exact ⟨rfl,fun P h=>(by cases h),⟨by rw [←hl];exact hy.len,by simp only;rw [←hl];exact hy.pre.trans hl.symm⟩⟩
   ·refine ⟨rfl,fun P h=>?_,⟨by rw [←hl];exact hy.len,by simp only;rw [←hl];exact hy.pre.trans hl.symm⟩⟩
    simp only [if_true,Option.some.injEq] at h
    rw [h]
  ·rw [if_neg h0]
   simp only [h0,decide_false,Bool.false_and,Bool.false_eq_true,if_false]
   exact ⟨rfl,fun P h=>(by cases h),hy⟩
 |k+1,t,left,y,p,hp,hy=>by
  simp only [fnd,dfs,hp]
  have key:∀ (ws:List (List Int)) (y:PS),Fnd v p t (k+1) y →
    ((yZ v (fun left y=>fnd v k (t+1) left y) t left ws y).1=(ws.findSome? fun w=>if gU v t w≤left then dfs v (n4 v) k (p++[w]) (left-gU v t w) else none).isSome) ∧
    (∀ P,(ws.findSome? fun w=>if gU v t w≤left then dfs v (n4 v) k (p++[w]) (left-gU v t w) else none)=some P→(yZ v (fun left y=>fnd v k (t+1) left y) t left ws y).2.1=P.map some)∧Fnd v p t (k+1) (yZ v (fun left y=>fnd v k (t+1) left y) t left ws y).2:=by
   intro ws
   induction ws with
   |nil=>intro y hy;exact ⟨rfl,fun P h=>(by cases h),hy⟩
   |cons w ws ih =>
    intro y hy
    have hlt:t<y.1.length:=by have:=hy.len;omega
    have hset:Fnd v (p++[w]) (t+1) k (y.1.set t (some w),y.2):=⟨by have:=hy.len;simp;omega,sJ hy.pre hlt⟩
    have hset2:Fnd v p t (k+1) (y.1.set t (some w),y.2):=⟨by have:=hy.len;simp;omega,by
     rw [←hy.pre];simp [List.take_set_of_le]⟩
    simp only [yZ,List.findSome?_cons]
    by_cases ho:gU v t w≤left
    ·rw [if_pos ho,if_pos ho]
     obtain ⟨a,b,c⟩:=y8 v k (t+1) (left-gU v t w) (y.1.set t (some w),y.2) (p++[w]) (by simp [hp]) hset
     obtain ⟨R,hR⟩:∃ R,fnd v k (t+1) (left-gU v t w) (y.1.set t (some w),y.2)=R:=⟨_,rfl⟩
     rw [hR] at a b c ⊢
     have c':Fnd v p t (k+1) R.2:=⟨by have:=c.len;omega,by
      have h1:=congrArg (List.take t) c.pre
      rw [List.take_take,show min t (t+1)=t by omega] at h1
      rw [h1,List.map_append]
      exact List.take_left' (by simp [hp])⟩
     cases hd:dfs v (n4 v) k (p++[w]) (left-gU v t w) with
     |some P =>
      rw [hd] at a b
      rw [a]
      simp only [Option.isSome_some,if_true]
      exact ⟨a,fun Q h=>by rw [←(Option.some.inj h)];exact b P rfl,c'⟩
     |none =>
      rw [hd] at a
      rw [a]
      simp only [Option.isSome_none,Bool.false_eq_true,if_false]
      exact ih R.2 c'
    ·rw [if_neg ho,if_neg ho]
     exact ih _ hset2
  exact key _ y hy
end Go.Am.Room
set_option maxRecDepth 4000
namespace Go.Am.Room
structure Vary {Y:Type} (S:Y→St) (N:Nat):Prop where
 len:∀ y,(S y).length=N
 keep:∀ y z i,i<N→fD (S y) (S z) N i
 eqS:∀ k,N≤k→∀ y z a b c,EqS k (S y++a) (S z++b) (S z++c)=EqS k a b c
theorem DR {Y:Type} {S:Y→St} {N:Nat} (hV:Vary S N) {f:FuncId} {first cap args:List AV} {af:AFunc} {v:AV} {y z:Y} (hf:T f=some af) (hn:(first++args++cap).length≤af.ntmps)
  (h:wp T af.body (gB 0 (first++args++cap)) (S y) (fun j e σ1=>(j=none∨j=some .ret)∧∃ v0 τ,gX af.results e σ1=some v0∧σ1=S z++τ∧cN σ1 N 20 v0=some v)):zS T (.func f first cap) args (S y) v (S z):=by
 refine .callf (.call hf hn (jQ h fun o ho=>ho) fun o ho=>?_)
 obtain ⟨hj,v0,τ,hres,hσ,h4⟩:=ho
 refine ⟨hj,v0,hres,?_⟩
 unfold cN at h4
 cases hs:snap o.σ N 20 v0 with
 |none=>rw [hs] at h4;cases h4
 |some v1 =>
  rw [hs] at h4
  simp at h4
  refine .inr ⟨20,v1,v,by rw [hV.len];exact hs,.inr h4.symm,fun i hi=>?_,?_,rfl,?_⟩
  ·rw [hσ]
   rw [hV.len] at hi ⊢
   have:=hV.keep y z i hi
   have e2:(S z++τ)[i]? = (S z)[i]?:=List.getElem?_append_left (by rw [hV.len];exact hi)
   simp only [fD,e2] at this ⊢
   exact this
  ·rw [hσ,List.length_append,hV.len,hV.len];omega
  ·rw [hσ,hV.len,←hV.len z,List.take_left]
end Go.Am.Room
set_option maxRecDepth 8000
namespace Go.Am.Room
def dV:=And.intro @bD (And.intro @aI (And.intro @aX (And.intro @aW (And.intro @aV (And.intro @aS (And.intro @bC (And.intro @a9 (And.intro @aZ (And.intro @dH (And.intro @dF (And.intro @Nat.not_lt_zero (And.intro @List.length_append.{0} (And.intro @Nat.zero_add (And.intro @Nat.mul_one (And.intro @Int.toNat_natCast (And.intro @Nat.add_lt_add_iff_left (@Nat.lt_add_right_iff_pos)))))))))))))))))
def pD (v:Net) (n:Nat):List AV:=(List.range n).map fun t=>aN (cJ v (eR v t) [])
theorem SC (v:Net) {n t:Nat} (h:t<n):(pD v n)[t]? = some (aN (cJ v (eR v t) [])):=by simp [pD,h]
theorem vO (l:List (Option (List Int))) (m:Nat):okVs m (l.map k7):=by
 induction l with
 |nil=>trivial
 |cons o l ih =>
  refine ⟨?_,ih⟩
  cases o with
  |none=>simp [k7,okV,okVs]
  |some w=>exact y0 (kC w) m
theorem OG (l:List (Option (List Int))) {t:Nat} (h:t<l.length) (w:List Int):(l.map k7).take t++[AV.lit (w.map (.int .i64)) false none]++(l.map k7).drop (t+1)=(l.set t (some w)).map k7:=by
 rw [List.map_set,List.set_eq_take_append_cons_drop,if_pos (by simpa using h)]
 simp [k7,ints]
def OQ:AV:=.func 86 [] [.ptr 10 0,.ptr 5 0,.ptr 7 0,.ptr 0 0,.ptr 11 0]
theorem iT:OQ = .func 86 [] [.ptr 10 0,.ptr 5 0,.ptr 7 0,.ptr 0 0,.ptr 11 0]:=by simp only [OQ]
def mvS (v:Net) (y:PS):St:=[.cells (aB v),.cells (aB v),.cells (aB v),.map (tEs v y.2),.cells (db v 0 3),.cells [.ptr 4 0],.cells (pD v v.trams.length),.cells [.ref 6 0 v.trams.length 1],.tok 1 0 false,.cells (y.1.map k7),.cells [.ref 9 0 v.trams.length 1],.cells [OQ]]
theorem aBA (v:Net) (l:List (Option (List Int))):MemAt (fun A=>mvS v (l,A)) (db v 0 3) (tEs v) 4 3 12 :=
 ⟨fun M=>rfl,fun M=>rfl,fun M=>rfl,fun M M'=>rfl,fun A k=>sG v A k,by omega,by omega⟩
theorem GT (v:Net):Vary (mvS v) 12 where
 len:=fun y=>rfl
 keep:=fun y z i hi=>by
  match i,hi with
  |0,_=>exact .inl rfl
  |1,_=>exact .inl rfl
  |2,_=>exact .inl rfl
  |3,_=>exact .inr (.inl ⟨_,rfl,sG v z.2 _⟩)
  |4,_=>exact .inl rfl
  |5,_=>exact .inl rfl
  |6,_=>exact .inl rfl
  |7,_=>exact .inl rfl
  |8,_=>exact .inl rfl
  |9,_=>exact .inr (.inl ⟨_,rfl,vO z.1 _⟩)
  |10,_=>exact .inl rfl
  |11,_=>exact .inl rfl
 eqS:=fun k hk y z a b c=>by
  have h1:=sG v z.2 k
  have h2:aJ k (.cells (z.1.map k7)):=vO z.1 k
  simp only [mvS,List.cons_append,List.nil_append,EqS,h1,h2,or_true,true_or,true_and,and_self]
theorem wR (v:Net) (hv:Vd v):∀ (k t left:Nat) (y:PS) (p:List (List Int)),t+k=v.trams.length→left≤10→p.length=t→Fnd v p t k y→(∀ w∈p,w.length≤4∧∀ r∈w,0≤r∧r<v.rails.length) →
  zS T OQ [.int .i64 t,.int .i64 left] (mvS v y) (.bool (fnd v k t left y).1) (mvS v (fnd v k t left y).2)
 |0,t,left,y,p,hn,hleft,hp,hF,hpin=>by
  have hnt:=hv.ntr
  have hl:y.1=p.map some:=by rw [←hF.pre,List.take_of_length_le (by rw [hF.len];omega)]
  have hro:RunOk v p:=⟨by omega,fun w hw=>(hpin w hw).1,fun w hw=>(hpin w hw).2⟩
  have hE:((t:Int)==(v.trams.length:Int))=true:=by simp;omega
  obtain ⟨l,A⟩:=y
  simp only at hl
  subst hl
  have hdo:=MJ (aBA v (p.map some)) hv OM p hro 9 (fun A=>by show some _=_;rw [B5]) (by omega) A
  have hr:fnd v 0 t left (p.map some,A)=if left=0 then (n4 v p,(p.map some,zW v p A)) else (false,(p.map some,A)):=by simp only [fnd,C4]
  refine DR (GT v) (af:=a86) rfl (by simp [a86]) ?_
  rw [hr]
  cases h0:((left:Int)==0)
  ·have h0':¬left=0:=by simp at h0;omega
   rw [if_neg h0']
   simp only [mvS,iT]
   (repeat (first|simp only [↓QA,QB,Nat.reduceLT,reduceIte,Nat.reduceEqDiff,Nat.reduceAdd,Nat.reduceLeDiff,Nat.reduceMul,Nat.reduceBEq,dV,a86,hE,h0]|refine rd0 rfl ?_))
   exact ⟨_,[],rfl,by simp,by try simp only [QS,QC,Nat.reduceLT,reduceIte,Nat.reduceEqDiff,Nat.reduceAdd,Nat.reduceLeDiff,Nat.reduceMul,Nat.reduceBEq,dV]⟩
  ·have h0':left=0:=by simp at h0;omega
   rw [if_pos h0']
   simp only [mvS,iT] at hdo ⊢
   try simp only [↓QA,QB,Nat.reduceLT,reduceIte,Nat.reduceEqDiff,Nat.reduceAdd,Nat.reduceLeDiff,Nat.reduceMul,Nat.reduceBEq,dV] at hdo
   (repeat (first|simp only [↓QA,QB,Nat.reduceLT,reduceIte,Nat.reduceEqDiff,Nat.reduceAdd,Nat.reduceLeDiff,Nat.reduceMul,Nat.reduceBEq,dV,a86,hE,h0]|refine rd0 rfl ?_))
   refine dM hdo ?_
   (repeat (first|simp only [↓QA,QB,Nat.reduceLT,reduceIte,Nat.reduceEqDiff,Nat.reduceAdd,Nat.reduceLeDiff,Nat.reduceMul,Nat.reduceBEq,dV]|refine rd0 rfl ?_))
   exact ⟨_,[],rfl,by simp,by try simp only [QS,QC,Nat.reduceLT,reduceIte,Nat.reduceEqDiff,Nat.reduceAdd,Nat.reduceLeDiff,Nat.reduceMul,Nat.reduceBEq,dV]⟩
 |k+1,t,left,y,p,hn,hleft,hp,hF,hpin0=>by
  have hnt:=hv.ntr
  have hok1:∀ A,aJ 12 (.map (tEs v A)):=fun A=>sG v A 12
  have hok2:∀ l:List (Option (List Int)),aJ 12 (.cells (l.map k7)):=fun l=>vO l 12
  have htt:t<v.trams.length:=by omega
  have hE:((t:Int)==(v.trams.length:Int))=false:=by simp;omega
  obtain ⟨z,hz⟩:∃ z,v.trams[t]=z:=⟨_,rfl⟩
  have hpth:cH (gR v) t=z.path:=by rw [xH htt,hz]
  have hzl:=(sD hv htt).len
  rw [hz] at hzl
  have hfr:=tM htt
  rw [hz] at hfr
  have hwg:=SC v (n:=v.trams.length) htt
  have hwi:∀ w∈cJ v (eR v t) [],w.length≤4∧∀ r∈w,0≤r∧r<v.rails.length:=fun w hw=>zF hw
  have hwc:=u5 (v:=v) (by have:=hv.nra;omega) (eR v t) []
  have hr:fnd v (k+1) t left y=yZ v (fun left y=>fnd v k (t+1) left y) t left (cJ v (eR v t) []) y:=rfl
  obtain ⟨W,hW⟩:∃ W,cJ v (eR v t) []=W:=⟨_,rfl⟩
  rw [hW] at hwg hwc hr
  simp only [hW] at hwi
  obtain ⟨R,hR⟩:∃ R,fnd v (k+1) t left y=R:=⟨_,rfl⟩
  rw [hR] at hr
  have hr':yZ v (fun left y=>fnd v k (t+1) left y) t left (W.drop 0) y=R:=hr.symm
  have iA:(0:Int)≤(t:Int)∧(t:Int)<(v.trams.length:Int)∧1=1:=⟨by omega,by omega,rfl⟩
  have hwt:IntKind.i64.wrap ((t:Int)+1)=((t+1:Nat):Int):=bV htt (by omega)
  refine DR (GT v) (af:=a86) rfl (by simp [a86]) ?_
  rw [hR]
  simp only [mvS,iT]
  (repeat (first|simp only [↓QA,QB,Nat.reduceLT,reduceIte,Nat.reduceEqDiff,Nat.reduceAdd,Nat.reduceLeDiff,Nat.reduceMul,Nat.reduceBEq,dV,a86,hE,iA,hwg,bP]|refine rd0 rfl ?_))
  refine bY (S:=Nat×PS) (0,y) (fun a=>a.1≤W.length∧Fnd v p t (k+1) a.2∧yZ v (fun left y=>fnd v k (t+1) left y) t left (W.drop a.1) a.2=R) (fun a=>W.length-a.1)
   (fun a=>[(0,.int .i64 t),(1,.int .i64 left),(2,.ptr 10 0),(5,.ptr 0 0),(6,.ptr 11 0),(27,aN W),(28,.int .i64 W.length),(29,.int .i64 a.1)])
   (fun a=>mvS v a.2) ⟨Nat.zero_le _,hF,hr'⟩ (by simp [mvS,iT,aB,ints]) ?_ fun a ha=>?_
  ·try simp only [aC,QE,Nat.reduceLT,reduceIte,Nat.reduceEqDiff,Nat.reduceAdd,Nat.reduceLeDiff,Nat.reduceMul,Nat.reduceBEq,dV,bP]
   try simp
  ·obtain ⟨j,y⟩:=a
   obtain ⟨hj,hF,hR⟩:=ha
   simp only at hj hF hR
   have hlt:t<y.1.length:=by have:=hF.len;omega
   simp only [mvS,iT]
   (repeat (first|simp only [↓QA,QB,Nat.reduceLT,reduceIte,Nat.reduceEqDiff,Nat.reduceAdd,Nat.reduceLeDiff,Nat.reduceMul,Nat.reduceBEq,dV,X8,bP]|refine rd0 rfl ?_))
   refine aG (fun hd=>?_) fun hd=>?_
   ·have hj1:j<W.length:=by simpa using hd
    have hwj:=bV hj1 (by omega)
    rw [List.drop_eq_getElem_cons hj1,yZ] at hR
    have hwl:=hwi _ (List.getElem_mem hj1)
    obtain ⟨w,hw⟩:∃ w,W[j]=w:=⟨_,rfl⟩
    rw [hw] at hR hwl
    have hpin:∀ u∈p++[w],u.length≤4∧∀ r∈u,0≤r∧r<v.rails.length:=fun u hu=>by
     rcases List.mem_append.1 hu with hu|hu
     ·exact hpin0 u hu
     ·simp only [List.mem_singleton] at hu;subst hu;exact hwl
    have hss:=OG y.1 hlt w
    have i8:(0:Int)≤(t:Int)∧(t:Int)<(v.trams.length:Int)∧1=1:=iA
    have c8:t+1≤y.1.length:=hlt
    have hot:gU v t w=if w=z.path then 0 else 1:=by rw [gU,hpth]
    have heq:=IC w z.path (by omega) (by omega)
    simp only [mA] at heq
    (repeat (first|simp only [↓QA,QB,Nat.reduceLT,reduceIte,Nat.reduceEqDiff,Nat.reduceAdd,Nat.reduceLeDiff,Nat.reduceMul,Nat.reduceBEq,dV,hj1,hw,htt,hz,bP]|refine rd0 rfl ?_))
    ((first|refine aE (heq) rfl dd ?_|refine aF (heq) rfl dd ?_);(repeat (first|simp only [↓QA,QB,Nat.reduceLT,reduceIte,Nat.reduceEqDiff,Nat.reduceAdd,Nat.reduceLeDiff,Nat.reduceMul,Nat.reduceBEq,dV,hj1,hw,htt,hz,bP]|refine rd0 rfl ?_)))
    cases q:decide (w=z.path)
    ·have q':¬w=z.path:=by simpa using q
     rw [if_neg q'] at hot
     rw [hot] at hR
     simp only [Bool.not_false,nB]
     by_cases hl1:1≤left
     ·have hlo:IntKind.i64.wrap ((left:Int)-1)=((left-1:Nat):Int):=(eO ⟨by omega,by omega⟩).trans (by omega)
      have hle:decide ((1:Int)≤(left:Int))=true:=decide_eq_true (by omega)
      have hrec:=wR v hv k (t+1) (left-1) (y.1.set t (some w),y.2) (p++[w]) (by omega) (by omega) (by simp [hp]) ⟨by have:=hF.len;simp;omega,sJ hF.pre hlt⟩ hpin
      rw [if_pos (show 1≤left by omega)] at hR
      obtain ⟨Q,hQ⟩:∃ Q,fnd v k (t+1) (left-1) (y.1.set t (some w),y.2)=Q:=⟨_,rfl⟩
      rw [hQ] at hrec hR
      have hFQ:Fnd v p t (k+1) Q.2:=by
       have:=(y8 v k (t+1) (left-1) (y.1.set t (some w),y.2) (p++[w]) (by simp [hp]) ⟨by have:=hF.len;simp;omega,sJ hF.pre hlt⟩).2.2
       rw [hQ] at this
       refine ⟨by have:=this.len;omega,?_⟩
       have h1:=congrArg (List.take t) this.pre
       rw [List.take_take,show min t (t+1)=t by omega] at h1
       rw [h1,List.map_append]
       exact List.take_left' (by simp [hp])
      obtain ⟨Qb,Qy⟩:=Q
      simp only [mvS,iT] at hrec
      simp only at hR hFQ hrec
      try simp only [↓QA,QB,Nat.reduceLT,reduceIte,Nat.reduceEqDiff,Nat.reduceAdd,Nat.reduceLeDiff,Nat.reduceMul,Nat.reduceBEq,dV] at hrec
      (repeat (first|simp only [↓QA,QB,Nat.reduceLT,reduceIte,Nat.reduceEqDiff,Nat.reduceAdd,Nat.reduceLeDiff,Nat.reduceMul,Nat.reduceBEq,dV,q,i8,c8,hss,hle,hwt,hlo,hj1,hw,htt,hz,bP]|refine rd0 rfl ?_))
      refine dM hrec ?_
      cases Qb
      ·simp only [Bool.false_eq_true,if_false] at hR
       (repeat (first|simp only [↓QA,QB,Nat.reduceLT,reduceIte,Nat.reduceEqDiff,Nat.reduceAdd,Nat.reduceLeDiff,Nat.reduceMul,Nat.reduceBEq,dV,hwj]|refine rd0 rfl ?_))
       refine ⟨(j+1,Qy),⟨by simp only;omega,hFQ,hR⟩,by simp only;omega,?_⟩
       try simp only [aC,QE,Nat.reduceLT,reduceIte,Nat.reduceEqDiff,Nat.reduceAdd,Nat.reduceLeDiff,Nat.reduceMul,Nat.reduceBEq,dV,hwj,bP]
       try simp only [hok1,hok2,or_true,true_or,and_self,true_and]
      ·simp only [if_true] at hR
       subst hR
       (repeat (first|simp only [↓QA,QB,Nat.reduceLT,reduceIte,Nat.reduceEqDiff,Nat.reduceAdd,Nat.reduceLeDiff,Nat.reduceMul,Nat.reduceBEq,dV]|refine rd0 rfl ?_))
       exact ⟨_,[],rfl,by simp [mvS,iT],by try simp only [QS,QC,Nat.reduceLT,reduceIte,Nat.reduceEqDiff,Nat.reduceAdd,Nat.reduceLeDiff,Nat.reduceMul,Nat.reduceBEq,dV]⟩
     ·have hle:decide ((1:Int)≤(left:Int))=false:=by simp;omega
      rw [if_neg hl1] at hR
      (repeat (first|simp only [↓QA,QB,Nat.reduceLT,reduceIte,Nat.reduceEqDiff,Nat.reduceAdd,Nat.reduceLeDiff,Nat.reduceMul,Nat.reduceBEq,dV,q,i8,c8,hss,hle,hwj]|refine rd0 rfl ?_))
      refine ⟨(j+1,(y.1.set t (some w),y.2)),⟨by simp only;omega,⟨by have:=hF.len;simp;omega,by rw [←hF.pre];simp [List.take_set_of_le]⟩,hR⟩,by simp only;omega,?_⟩
      try simp only [aC,QE,Nat.reduceLT,reduceIte,Nat.reduceEqDiff,Nat.reduceAdd,Nat.reduceLeDiff,Nat.reduceMul,Nat.reduceBEq,dV,hwj,bP]
      try simp only [hok1,hok2,or_true,true_or,and_self,true_and]
    ·have q':w=z.path:=by simpa using q
     rw [if_pos q'] at hot
     rw [hot] at hR
     simp only [Bool.not_true,lD]
     have hlo:IntKind.i64.wrap ((left:Int)-0)=((left-0:Nat):Int):=(eO ⟨by omega,by omega⟩).trans (by omega)
     have hle:decide ((0:Int)≤(left:Int))=true:=decide_eq_true (by omega)
     have hrec:=wR v hv k (t+1) (left-0) (y.1.set t (some w),y.2) (p++[w]) (by omega) (by omega) (by simp [hp]) ⟨by have:=hF.len;simp;omega,sJ hF.pre hlt⟩ hpin
     rw [if_pos (show 0≤left by omega)] at hR
     obtain ⟨Q,hQ⟩:∃ Q,fnd v k (t+1) (left-0) (y.1.set t (some w),y.2)=Q:=⟨_,rfl⟩
     rw [hQ] at hrec hR
     have hFQ:Fnd v p t (k+1) Q.2:=by
      have:=(y8 v k (t+1) (left-0) (y.1.set t (some w),y.2) (p++[w]) (by simp [hp]) ⟨by have:=hF.len;simp;omega,sJ hF.pre hlt⟩).2.2
      rw [hQ] at this
      refine ⟨by have:=this.len;omega,?_⟩
      have h1:=congrArg (List.take t) this.pre
      rw [List.take_take,show min t (t+1)=t by omega] at h1
      rw [h1,List.map_append]
      exact List.take_left' (by simp [hp])
     obtain ⟨Qb,Qy⟩:=Q
     simp only [mvS,iT] at hrec
     simp only at hR hFQ hrec
     try simp only [↓QA,QB,Nat.reduceLT,reduceIte,Nat.reduceEqDiff,Nat.reduceAdd,Nat.reduceLeDiff,Nat.reduceMul,Nat.reduceBEq,dV] at hrec
     (repeat (first|simp only [↓QA,QB,Nat.reduceLT,reduceIte,Nat.reduceEqDiff,Nat.reduceAdd,Nat.reduceLeDiff,Nat.reduceMul,Nat.reduceBEq,dV,q,i8,c8,hss,hle,hwt,hlo,hj1,hw,htt,hz,bP]|refine rd0 rfl ?_))
     refine dM hrec ?_
     cases Qb
     ·simp only [Bool.false_eq_true,if_false] at hR
      (repeat (first|simp only [↓QA,QB,Nat.reduceLT,reduceIte,Nat.reduceEqDiff,Nat.reduceAdd,Nat.reduceLeDiff,Nat.reduceMul,Nat.reduceBEq,dV,hwj]|refine rd0 rfl ?_))
      refine ⟨(j+1,Qy),⟨by simp only;omega,hFQ,hR⟩,by simp only;omega,?_⟩
      try simp only [aC,QE,Nat.reduceLT,reduceIte,Nat.reduceEqDiff,Nat.reduceAdd,Nat.reduceLeDiff,Nat.reduceMul,Nat.reduceBEq,dV,hwj,bP]
      try simp only [hok1,hok2,or_true,true_or,and_self,true_and]
     ·simp only [if_true] at hR
      subst hR
      (repeat (first|simp only [↓QA,QB,Nat.reduceLT,reduceIte,Nat.reduceEqDiff,Nat.reduceAdd,Nat.reduceLeDiff,Nat.reduceMul,Nat.reduceBEq,dV]|refine rd0 rfl ?_))
      exact ⟨_,[],rfl,by simp [mvS,iT],by try simp only [QS,QC,Nat.reduceLT,reduceIte,Nat.reduceEqDiff,Nat.reduceAdd,Nat.reduceLeDiff,Nat.reduceMul,Nat.reduceBEq,dV]⟩
   ·have hj1:j=W.length:=by
     have:¬j<W.length:=by simpa using hd
     omega
    rw [hj1,List.drop_length,yZ] at hR
    subst hR
    (repeat (first|simp only [↓QA,QB,Nat.reduceLT,reduceIte,Nat.reduceEqDiff,Nat.reduceAdd,Nat.reduceLeDiff,Nat.reduceMul,Nat.reduceBEq,dV]|refine rd0 rfl ?_))
    exact ⟨_,[],rfl,by simp [mvS,iT],by try simp only [QS,QC,Nat.reduceLT,reduceIte,Nat.reduceEqDiff,Nat.reduceAdd,Nat.reduceLeDiff,Nat.reduceMul,Nat.reduceBEq,dV]⟩
end Go.Am.Room
set_option maxRecDepth 8000
namespace Go.Am.Room
def dQ:=And.intro @bD (And.intro @aI (And.intro @aX (And.intro @aW (And.intro @aV (And.intro @aS (And.intro @bC (And.intro @a9 (And.intro @aZ (And.intro @dH (And.intro @dF (And.intro @Nat.not_lt_zero (And.intro @List.length_append.{0} (And.intro @List.length_replicate.{0} (And.intro @Nat.zero_add (And.intro @Nat.mul_one (And.intro @Int.toNat_natCast (And.intro @Nat.add_lt_add_iff_left (@Nat.lt_add_right_iff_pos))))))))))))))))))
theorem sL (x:AV) (n:Nat):(List.replicate n [x]).flatten=List.replicate n x:=by
 induction n with
 |zero=>rfl
 |succ n ih=>simp [List.replicate_succ,ih]
theorem C2:∀ l:List (List Int),uV 1 l.length (l.map ints)=l.map ints
 |[]=>rfl
 |x::l=>by simp [uV,C2 l,AV.cell,ints]
theorem aCG {σ:St} {m id n:Nat} {l:List (List Int)} (hm:¬id<m) (hn:n=l.length) (hl:aK σ id=some (l.map ints)):cN σ m 20 (.ref id 0 n 1)=some (.lit (l.map ints) false none):=by
 subst hn
 have hv:kN σ (.ref id 0 l.length 1)=some (l.map ints):=by simp [kN,hl,C2]
 rw [LH,if_neg hm,hv]
 simp [iM,RS]
def mL (v:Net) (n k:Nat):List AV:=(List.range n).map fun t=>if t<k then aN (cJ v (eR v t) []) else .lit [] true none
theorem aBR (v:Net) (n:Nat):mL v n 0=List.replicate n (.lit [] true none):=by simp [mL,List.map_const']
theorem O4 (v:Net) (n:Nat):mL v n n=pD v n:=List.map_congr_left fun t ht=>by
 rw [if_pos (by simpa using ht)]
theorem rO (v:Net) (n k:Nat):(mL v n k).length=n:=by simp [mL]
theorem WC (v:Net) (n k m:Nat):okVs m (mL v n k):=by
 have key:∀ l:List Nat,okVs m (l.map fun t=>if t<k then aN (cJ v (eR v t) []) else AV.lit [] true none):=by
  intro l
  induction l with
  |nil=>trivial
  |cons t l ih =>
   refine ⟨?_,ih⟩
   simp only
   split
   ·exact y0 (nN _) m
   ·simp [okV,okVs]
 exact key _
theorem RC (v:Net) {n k:Nat} (h:k<n):(mL v n k).take k++[aN (cJ v (eR v k) [])]++(mL v n k).drop (k+1)=mL v n (k+1):=by
 have h1:(mL v n k).take k++[aN (cJ v (eR v k) [])]++(mL v n k).drop (k+1)=(mL v n k).set k (aN (cJ v (eR v k) [])):=by
  rw [List.set_eq_take_append_cons_drop,if_pos (by rw [rO];exact h)];simp
 rw [h1]
 refine List.ext_getElem? fun j=>?_
 by_cases hj:j<n
 ·rw [List.getElem?_set]
  by_cases e:k=j
  ·subst e;simp [rO,hj,mL]
  ·rw [if_neg e]
   simp only [mL,List.getElem?_map,List.getElem?_range hj,Option.map_some]
   by_cases h2:j<k
   ·simp [h2,show j<k+1 by omega]
   ·simp [h2,show ¬j<k+1 by omega]
 ·rw [List.getElem?_eq_none (by rw [List.length_set,rO];omega),List.getElem?_eq_none (by rw [rO];omega)]
theorem pG (v:Net) (hf:Fits v):dY T 30 [bX v] (pQ (jO v)):=by
 refine bA (af:=a30) rfl (by simp [a30]) dd ?_
 (repeat (first|simp only [↓QA,QB,Nat.reduceLT,reduceIte,Nat.reduceEqDiff,Nat.reduceAdd,Nat.reduceLeDiff,Nat.reduceMul,Nat.reduceBEq,dQ,a30]|refine rd0 rfl ?_))
 by_cases h0:eQ v=0
 ·obtain ⟨hv,hne⟩:=m9 h0
  have hnt:=hv.ntr
  have her:=xI [.cells (aB v)] v [] (.inl rfl) hf (by rw [lV];exact h0)
  have hsome:∀ p,iZ v (bF v [])=some p→jO v=(p,dB v p,0):=fun p hp=>by rw [jO,if_pos h0,hp]
  have hnone:iZ v (bF v [])=none→jO v=([],[],9):=fun hp=>by rw [jO,if_pos h0,hp]
  have hbp:=UK hv
  obtain ⟨MO,hMO⟩:∃ MO,jO v=MO:=⟨_,rfl⟩
  rw [hMO] at hnone
  simp only [hMO] at hsome
  rw [hMO]
  obtain ⟨W,hW⟩:∃ W,iZ v (bF v [])=W:=⟨_,rfl⟩
  rw [hW] at hbp hnone
  simp only [hW] at hsome
  simp only [lA,List.map_nil] at her
  simp only [aI] at her
  try simp only [↓QA,QB,Nat.reduceLT,reduceIte,Nat.reduceEqDiff,Nat.reduceAdd,Nat.reduceLeDiff,Nat.reduceMul,Nat.reduceBEq,dQ] at her
  have hwi:∀ (n:Nat),n=v.trams.length→True:=fun _ _=>trivial
  have hmk:pC 24 (.int .i64 v.trams.length) (.int .i64 v.trams.length)=some v.trams.length:=by simp [pC,room];omega
  have hok1:∀ A k,aJ k (.map (tEs v A)):=fun A k=>sG v A k
  have hok2:∀ (l:List (Option (List Int))) k,aJ k (.cells (l.map k7)):=fun l k=>vO l k
  have hok3:∀ k m,aJ m (.cells (mL v v.trams.length k)):=fun k m=>WC v _ k m
  refine dM her ?_
  (repeat (first|simp only [↓QA,QB,Nat.reduceLT,reduceIte,Nat.reduceEqDiff,Nat.reduceAdd,Nat.reduceLeDiff,Nat.reduceMul,Nat.reduceBEq,dQ,show ((0:Int)==0)=true from rfl,hmk,sL,←aBR v]|refine rd0 rfl ?_))
  refine jP 3 1 [] rfl ?_
  refine bY (S:=Nat) 0 (fun k=>k≤v.trams.length) (fun k=>v.trams.length-k)
   (fun k=>[(1,.ptr 0 0),(3,.lit [] false (some 8)),(5,.ptr 5 0),(6,.ptr 7 0),(27,.lit (v.trams.map cV) false none),(28,.int .i64 v.trams.length),(29,.int .i64 k)])
   (fun k=>[.cells (aB v),.cells (aB v),.cells (aB v),.map (tEs v (pL v)),.cells (db v 0 3),.cells [.ptr 4 0],.cells (mL v v.trams.length k),.cells [.ref 6 0 v.trams.length 1],.tok 1 0 false]) (Nat.zero_le _) (by simp [aB,ints]) ?_ fun k hk=>?_
  ·try simp only [aC,QE,Nat.reduceLT,reduceIte,Nat.reduceEqDiff,Nat.reduceAdd,Nat.reduceLeDiff,Nat.reduceMul,Nat.reduceBEq,dQ]
   try simp
  ·(repeat (first|simp only [↓QA,QB,Nat.reduceLT,reduceIte,Nat.reduceEqDiff,Nat.reduceAdd,Nat.reduceLeDiff,Nat.reduceMul,Nat.reduceBEq,dQ,XN]|refine rd0 rfl ?_))
   refine aG (fun hd=>?_) fun hd=>?_
   ·have hk1:k<v.trams.length:=by simpa using hd
    have hw:=bV hk1 (by omega)
    have hfr:=tM hk1
    have hto:=(sD hv hk1).frm
    obtain ⟨z,hz⟩:∃ z,v.trams[k]=z:=⟨_,rfl⟩
    rw [hz] at hfr hto
    obtain ⟨S,hS⟩:∃ S:Nat,z.frm=(S:Int):=⟨z.frm.toNat,by omega⟩
    have hst:=hv.st
    have hpw:=AD v hv S (by omega) (-1)
    have hb1:pE (-1)=[]:=rfl
    have hfs:=RC v hk1
    rw [hb1,←hS,←hfr] at hpw
    rw [hfr,hS] at hpw
    rw [hfr,hS] at hfs
    obtain ⟨Y,hY⟩:∃ Y,cJ v (S:Int) []=Y:=⟨_,rfl⟩
    rw [hY] at hpw hfs
    have iA:(0:Int)≤(k:Int)∧(k:Int)<(v.trams.length:Int)∧1=1:=⟨by omega,by omega,rfl⟩
    have hfl:=rO v v.trams.length k
    have c8:k+1≤v.trams.length:=hk1
    simp only [bP] at hpw hfs
    (repeat (first|simp only [↓QA,QB,Nat.reduceLT,reduceIte,Nat.reduceEqDiff,Nat.reduceAdd,Nat.reduceLeDiff,Nat.reduceMul,Nat.reduceBEq,dQ,hk1,hz,hS]|refine rd0 rfl ?_))
    ((first|refine aE (hpw) rfl dd ?_|refine aF (hpw) rfl dd ?_);(repeat (first|simp only [↓QA,QB,Nat.reduceLT,reduceIte,Nat.reduceEqDiff,Nat.reduceAdd,Nat.reduceLeDiff,Nat.reduceMul,Nat.reduceBEq,dQ,hk1,hz,hS,iA,hfl,c8,hfs,hw]|refine rd0 rfl ?_)))
    refine ⟨k+1,by omega,by omega,?_⟩
    try simp only [aC,QE,Nat.reduceLT,reduceIte,Nat.reduceEqDiff,Nat.reduceAdd,Nat.reduceLeDiff,Nat.reduceMul,Nat.reduceBEq,dQ,hw]
    try simp only [hok3,or_true,true_or,and_self,true_and]
   ·have hk1:k=v.trams.length:=by
     have:¬k<v.trams.length:=by simpa using hd
     omega
    rw [hk1,O4]
    have hwn:IntKind.i64.wrap ((v.trams.length:Int)+1)=((v.trams.length+1:Nat):Int):=by rw [eO ⟨by omega,by omega⟩];omega
    have hrep:List.replicate v.trams.length (AV.lit [] true none)=(List.replicate v.trams.length none).map k7:=by simp [k7]
    have hF0:Fnd v [] 0 v.trams.length (List.replicate v.trams.length none,pL v):=⟨by simp,by simp⟩
    (repeat (first|simp only [↓QA,QB,Nat.reduceLT,reduceIte,Nat.reduceEqDiff,Nat.reduceAdd,Nat.reduceLeDiff,Nat.reduceMul,Nat.reduceBEq,dQ,hmk,sL,hrep,hwn]|refine rd0 rfl ?_))
    refine bY (S:=Nat×PS) (0,(List.replicate v.trams.length none,pL v)) (fun a=>a.1≤v.trams.length+1∧Fnd v [] 0 v.trams.length a.2∧uP v (n4 v) (v.trams.length+1-a.1) a.1=W) (fun a=>v.trams.length+1-a.1)
     (fun a=>[(1,.ptr 0 0),(3,.lit [] false (some 8)),(9,.ptr 10 0),(10,.ptr 11 0),(49,.int .i64 ((v.trams.length+1:Nat):Int)),(50,.int .i64 a.1)])
     (fun a=>mvS v a.2) ⟨Nat.zero_le _,hF0,hbp.symm⟩ (by simp [mvS,iT,aB,ints]) ?_ fun a ha=>?_
    ·try simp only [aC,QE,Nat.reduceLT,reduceIte,Nat.reduceEqDiff,Nat.reduceAdd,Nat.reduceLeDiff,Nat.reduceMul,Nat.reduceBEq,dQ]
     try simp [clr,clrs]
    ·obtain ⟨m,y⟩:=a
     obtain ⟨hm,hF,hq⟩:=ha
     simp only at hm hF hq
     cases hml:decide ((m:Int)<((v.trams.length+1:Nat):Int))
     ·have hm1:m=v.trams.length+1:=by
       have:¬(m:Int)<((v.trams.length+1:Nat):Int):=by simpa using hml
       omega
      rw [hm1,Nat.sub_self,uP] at hq
      have hres:=hnone hq.symm
      subst hres
      simp only [mvS,iT]
      (repeat (first|simp only [↓QA,QB,Nat.reduceLT,reduceIte,Nat.reduceEqDiff,Nat.reduceAdd,Nat.reduceLeDiff,Nat.reduceMul,Nat.reduceBEq,dQ,R2,hml,pQ,bP,List.map_nil]|refine rd0 rfl ?_))
      try try simp only [QS,QC,Nat.reduceLT,reduceIte,Nat.reduceEqDiff,Nat.reduceAdd,Nat.reduceLeDiff,Nat.reduceMul,Nat.reduceBEq,dQ]
     ·have hm1:m<v.trams.length+1:=by
       have:(m:Int)<((v.trams.length+1:Nat):Int):=by simpa using hml
       omega
      have hwm:=bV hm1 (by omega)
      rw [show v.trams.length+1-m=(v.trams.length+1-(m+1))+1 by omega,uP] at hq
      have hfd:=wR v hv v.trams.length 0 m y [] (by omega) (by omega) rfl hF (fun w hw=>by cases hw)
      obtain ⟨l1,l2,l3⟩:=y8 v v.trams.length 0 m y [] rfl hF
      obtain ⟨⟨Rb,Ry⟩,hRe⟩:∃ R,fnd v v.trams.length 0 m y=R:=⟨_,rfl⟩
      rw [hRe] at l1 l2 l3 hfd
      simp only at l1 l2 l3 hfd
      simp only [mvS,iT] at hfd ⊢
      try simp only [↓QA,QB,Nat.reduceLT,reduceIte,Nat.reduceEqDiff,Nat.reduceAdd,Nat.reduceLeDiff,Nat.reduceMul,Nat.reduceBEq,dQ] at hfd
      have h00:((0:Nat):Int)=0:=rfl
      rw [h00] at hfd
      (repeat (first|simp only [↓QA,QB,Nat.reduceLT,reduceIte,Nat.reduceEqDiff,Nat.reduceAdd,Nat.reduceLeDiff,Nat.reduceMul,Nat.reduceBEq,dQ,R2,hml]|refine rd0 rfl ?_))
      refine dM hfd ?_
      cases hdf:dfs v (n4 v) v.trams.length [] m with
      |none =>
       rw [hdf] at l1 hq
       simp only [Option.isSome_none] at l1 hq
       subst l1
       (repeat (first|simp only [↓QA,QB,Nat.reduceLT,reduceIte,Nat.reduceEqDiff,Nat.reduceAdd,Nat.reduceLeDiff,Nat.reduceMul,Nat.reduceBEq,dQ,hwm]|refine rd0 rfl ?_))
       refine ⟨(m+1,Ry),⟨by simp only;omega,l3,hq⟩,by simp only;omega,?_⟩
       try simp only [aC,QE,Nat.reduceLT,reduceIte,Nat.reduceEqDiff,Nat.reduceAdd,Nat.reduceLeDiff,Nat.reduceMul,Nat.reduceBEq,dQ,hwm]
       try simp only [hok1,hok2,or_true,true_or,and_self,true_and]
      |some P =>
       rw [hdf] at l1 hq
       have l2:=l2 P hdf
       simp only [Option.isSome_some] at l1 hq
       subst l1
       have hres:=hsome P hq.symm
       subst hres
       obtain ⟨Rl,RA⟩:=Ry
       simp only at l2 l3
       subst l2
       have hPl:P.length=v.trams.length:=by have:=l3.len;simpa using this
       have hPin:∀ w∈P,w.length≤4:=fun w hw=>by
        have h1:=hdf
        rw [zK,←wN] at h1
        exact (tP (List.mem_of_find?_eq_some h1)).few w hw
       obtain ⟨A,hA⟩:∃ A,dB v P=A:=⟨_,rfl⟩
       have hA':[]++(aT ((0:Nat):Int) ((v.trams.length:Int)-((0:Nat):Int)).toNat).filter (H2 v P)=A:=by rw [←hA,dB,hPl];simp;rfl
       rw [hA,B5]
       (repeat (first|simp only [↓QA,QB,Nat.reduceLT,reduceIte,Nat.reduceEqDiff,Nat.reduceAdd,Nat.reduceLeDiff,Nat.reduceMul,Nat.reduceBEq,dQ,hPl]|refine rd0 rfl ?_))
       refine bY (S:=Nat×List Int×Bool) (0,[],false) (fun a=>a.1≤v.trams.length∧a.2.1++(aT (a.1:Int) ((v.trams.length:Int)-a.1).toNat).filter (H2 v P)=A∧a.2.1.length≤a.1) (fun a=>v.trams.length-a.1)
        (fun a=>[(1,.ptr 0 0),(3,.lit (a.2.1.map (.int .i64)) false (some 8)),(9,.ptr 10 0),(57,.ref 9 0 v.trams.length 1),(58,.int .i64 v.trams.length),(59,.int .i64 a.1)])
        (fun a=>[.cells (aB v),.cells (aB v),.cells (aB v),.map (tEs v RA),.cells (db v 0 3),.cells [.ptr 4 0],.cells (pD v v.trams.length),.cells [.ref 6 0 v.trams.length 1],.tok 1 a.2.1.length a.2.2,.cells (P.map ints),.cells [.ref 9 0 v.trams.length 1],.cells [OQ]]) ⟨Nat.zero_le _,hA',by simp⟩ (by simp [aB,ints,iT]) ?_ fun a ha=>?_
       ·try simp only [aC,QE,Nat.reduceLT,reduceIte,Nat.reduceEqDiff,Nat.reduceAdd,Nat.reduceLeDiff,Nat.reduceMul,Nat.reduceBEq,dQ,J3 (show 9<12 by omega)]
        try simp
       ·obtain ⟨t,acc,ex⟩:=a
        obtain ⟨ht,hacc,hal⟩:=ha
        simp only at ht hacc hal
        (repeat (first|simp only [↓QA,QB,Nat.reduceLT,reduceIte,Nat.reduceEqDiff,Nat.reduceAdd,Nat.reduceLeDiff,Nat.reduceMul,Nat.reduceBEq,dQ,XM]|refine rd0 rfl ?_))
        refine aG (fun hd=>?_) fun hd=>?_
        ·have ht1:t<v.trams.length:=by simpa using hd
         have hw:=bV ht1 (by omega)
         have htp:t<P.length:=by omega
         rw [xX ht1] at hacc
         have hmv:H2 v P (t:Int) = !decide (P[t]=v.trams[t].path):=by rw [H2,Int.toNat_natCast,zA htp,xH ht1]
         have hpl:=hPin _ (List.getElem_mem htp)
         have htl:=(sD hv ht1).len
         obtain ⟨z,hz⟩:∃ z,v.trams[t]=z:=⟨_,rfl⟩
         obtain ⟨p,hpe⟩:∃ p,P[t]=p:=⟨_,rfl⟩
         rw [hz,hpe] at hmv
         rw [hz] at htl
         rw [hpe] at hpl
         have iA:(0:Int)≤(t:Int)∧(t:Int)<(v.trams.length:Int)∧1=1:=⟨by omega,by omega,rfl⟩
         have heq:=IC p z.path (by omega) (by omega)
         simp only [mA] at heq
         have hap:=fun (b0 b1 b2 b3 b4 b5 b6 b7:ABlk) (τ:St)=>lW (σ:=b0::b1::b2::b3::b4::b5::b6::b7::.tok 1 acc.length ex::τ) (l:=acc) (a:=(t:Int)) (ex:=ex) (t:=8) (by omega) rfl
         (repeat (first|simp only [↓QA,QB,Nat.reduceLT,reduceIte,Nat.reduceEqDiff,Nat.reduceAdd,Nat.reduceLeDiff,Nat.reduceMul,Nat.reduceBEq,dQ,iA,htp,hpe,ht1,hz,mA]|refine rd0 rfl ?_))
         ((first|refine aE (heq) rfl dd ?_|refine aF (heq) rfl dd ?_);(repeat (first|simp only [↓QA,QB,Nat.reduceLT,reduceIte,Nat.reduceEqDiff,Nat.reduceAdd,Nat.reduceLeDiff,Nat.reduceMul,Nat.reduceBEq,dQ,iA,htp,hpe,ht1,hz,mA]|refine rd0 rfl ?_)))
         cases q:decide (p=z.path)
         ·rw [hmv,q] at hacc
          simp only [Bool.not_false,nB]
          (repeat (first|simp only [↓QA,QB,Nat.reduceLT,reduceIte,Nat.reduceEqDiff,Nat.reduceAdd,Nat.reduceLeDiff,Nat.reduceMul,Nat.reduceBEq,dQ,hap,hw]|refine rd0 rfl ?_))
          refine ⟨(t+1,acc++[(t:Int)],true),⟨by simp only;omega,by simpa using hacc,by simp;omega⟩,by simp only;omega,?_⟩
          try simp only [aC,QE,Nat.reduceLT,reduceIte,Nat.reduceEqDiff,Nat.reduceAdd,Nat.reduceLeDiff,Nat.reduceMul,Nat.reduceBEq,dQ,hw,nL,J3 (show 9<12 by omega),List.map_append,List.map_cons,List.map_nil]
          try simp [aJ]
         ·rw [hmv,q] at hacc
          simp only [Bool.not_true,lD]
          (repeat (first|simp only [↓QA,QB,Nat.reduceLT,reduceIte,Nat.reduceEqDiff,Nat.reduceAdd,Nat.reduceLeDiff,Nat.reduceMul,Nat.reduceBEq,dQ,hw]|refine rd0 rfl ?_))
          refine ⟨(t+1,acc,ex),⟨by simp only;omega,by simpa using hacc,by simp only;omega⟩,by simp only;omega,?_⟩
          try simp only [aC,QE,Nat.reduceLT,reduceIte,Nat.reduceEqDiff,Nat.reduceAdd,Nat.reduceLeDiff,Nat.reduceMul,Nat.reduceBEq,dQ,hw,nL,J3 (show 9<12 by omega)]
          try simp [aJ]
        ·have ht1:t=v.trams.length:=by
          have:¬t<v.trams.length:=by simpa using hd
          omega
         rw [F2 ht1,List.append_nil] at hacc
         subst hacc
         have hsr:=fun (b0 b1 b2 b3 b4 b5 b6 b7 b8:ABlk) (τ:St)=>aCG (σ:=b0::b1::b2::b3::b4::b5::b6::b7::b8::.cells (P.map ints)::τ) (m:=0) (id:=9) (n:=v.trams.length) (l:=P) (by omega) hPl.symm rfl
         (repeat (first|simp only [↓QA,QB,Nat.reduceLT,reduceIte,Nat.reduceEqDiff,Nat.reduceAdd,Nat.reduceLeDiff,Nat.reduceMul,Nat.reduceBEq,dQ,pQ,bP,mA]|refine rd0 rfl ?_))
         try try simp only [QS,QC,Nat.reduceLT,reduceIte,Nat.reduceEqDiff,Nat.reduceAdd,Nat.reduceLeDiff,Nat.reduceMul,Nat.reduceBEq,dQ,hsr]
 ·have h0':(eQ v==0)=false:=by simpa using h0
  have her:=BK [.cells (aB v)] v [] (.inl rfl) hf (by rw [lV];exact h0)
  rw [lV] at her
  have hm:jO v=([],[],eQ v):=by rw [jO,if_neg h0]
  rw [hm]
  simp only [List.map_nil] at her
  simp only [aI] at her
  refine dM her ?_
  (repeat (first|simp only [↓QA,QB,Nat.reduceLT,reduceIte,Nat.reduceEqDiff,Nat.reduceAdd,Nat.reduceLeDiff,Nat.reduceMul,Nat.reduceBEq,dQ,h0',pQ,bP,List.map_nil]|refine rd0 rfl ?_))
  try rfl
end Go.Am.Room
set_option maxRecDepth 8000
namespace Go.Am.Room
def oK:=And.intro @bD (And.intro @aI (And.intro @aX (And.intro @aW (And.intro @aV (And.intro @aS (And.intro @bC (And.intro @a9 (And.intro @aZ (And.intro @dH (And.intro @dF (And.intro @Nat.not_lt_zero (And.intro @List.length_append.{0} (And.intro @Nat.zero_add (And.intro @Nat.mul_one (And.intro @Int.toNat_natCast (And.intro @eH (And.intro @fO (And.intro @fP (And.intro @kQ (And.intro @fQ (And.intro @Nat.add_lt_add_iff_left (And.intro @Nat.lt_add_right_iff_pos (And.intro @oH (@oB))))))))))))))))))))))))
def sB (x:B64):St:=[.cells [.int .i64 (x.1.1:Nat)],.cells [.int .i64 (x.1.2:Nat)]]
theorem OP {v:Net} (hv:Vd v) (c:List Int) (x:B64) (B:List K5) (lp:ABlk) (τ:St) (e:Env) (G:Option AJump→St→Prop)
  (e1:Env.get e 1 = .ptr 0 0) (e6:Env.get e 6 = .ptr 5 0) (e7:Env.get e 7 = .ptr 6 0) (e8:Env.get e 8 = .ptr (τ.length+9) 0) (R:B64×Bool) (hRr:oD iW v.rails.length c x=R) :
  wp T TE e (lA [.cells (aB v)] v B++(sB x++(.cells [.ptr 4 0]::lp::(τ++[.cells (bL 5 (rl c))])))) (fun j e'' σ''=>(R.2=true∧j=none∧∃ τ',σ''=lA [.cells (aB v)] v B++(sB R.1++(.cells [.ptr 4 0]::lp::(τ++τ'))))∨G j σ''):=by
 have hnt:=hv.nra
 have hR1:R.1.1=eB (iW c) v.rails.length x.1:=by rw [←hRr,w5 iW (by omega)]
 have hR2:R.2=true:=by rw [←hRr];exact zX _ _ _ _
 have hlt:=fun k hk=>o6 (iW c) (n:=6) x.2 k hk
 have hta:∀ (b0 b1 b2 b3 b4 b5 b6 b7 b8:ABlk),aK (b0::b1::b2::b3::b4::b5::b6::b7::b8::(τ++[.cells (bL 5 (rl c))])) (τ.length+9)=some (bL 5 (rl c)):=fun b0 b1 b2 b3 b4 b5 b6 b7 b8=>by
  simp only [rA]
  rw [jG];rfl
 simp only [sB,hR1,lA,aI]
 (repeat (first|simp only [↓QA,QB,Nat.reduceLT,reduceIte,Nat.reduceEqDiff,Nat.reduceAdd,Nat.reduceLeDiff,Nat.reduceMul,Nat.reduceBEq,oK,TE,e1]|refine rd0 rfl ?_))
 refine bY (S:=Nat) 0 (fun k=>k≤v.rails.length) (fun k=>v.rails.length-k)
  (fun k=>[(1,.ptr 0 0),(6,.ptr 5 0),(7,.ptr 6 0),(8,.ptr (τ.length+9) 0),(29,.int .i64 v.rails.length),(30,.int .i64 k)])
  (fun k=>lA [.cells (aB v)] v B++(.cells [.int .i64 ((eB (iW c) k x.1).1:Nat)]::.cells [.int .i64 ((eB (iW c) k x.1).2:Nat)]::.cells [.ptr 4 0]::lp::(τ++[.cells (bL 5 (rl c))]))) (Nat.zero_le _) (by simp [lA,aB,eB]) ?_ fun k hk=>?_
 ·try simp only [aC,QE,Nat.reduceLT,reduceIte,Nat.reduceEqDiff,Nat.reduceAdd,Nat.reduceLeDiff,Nat.reduceMul,Nat.reduceBEq,oK,e1,e6,e7,e8]
  try simp
 ·(repeat (first|simp only [↓QA,QB,Nat.reduceLT,reduceIte,Nat.reduceEqDiff,Nat.reduceAdd,Nat.reduceLeDiff,Nat.reduceMul,Nat.reduceBEq,oK,YC,lA]|refine rd0 rfl ?_))
  refine aG (fun hd=>?_) fun hd=>?_
  ·have hk1:k<v.rails.length:=by simpa using hd
   have hw:=bV hk1 (by omega)
   have hst:eB (iW c) (k+1) x.1=if iW c k=true then (CD (eB (iW c) k x.1).1 (2^k),(eB (iW c) k x.1).2) else ((eB (iW c) k x.1).1,(eB (iW c) k x.1).2|||2^k):=rfl
   obtain ⟨l1,l2⟩:=hlt k (by omega)
   obtain ⟨⟨Y1,Y2⟩,hY⟩:∃ Y,eB (iW c) k x.1=Y:=⟨_,rfl⟩
   rw [hY] at hst l1 l2
   simp only at hst l1 l2
   have hp2:=kH (show k≤60 by omega)
   have hsh:=uM k (by omega)
   have hor:=aAV Y2 (2^k) (by omega) (by omega)
   have han:=HU Y1 (2^k) (by omega) (by omega)
   have i3:(0:Int)≤(k:Int)∧(k:Int)<((5:Nat):Int):=⟨by omega,by omega⟩
   have hg:=jS 5 (rl c) (i:=k) (by omega)
   have hop:iW c k = !(rl c k==0):=rfl
   rw [hY]
   cases hf:(rl c k==0)
   ·rw [hop,hf] at hst
    simp only [Bool.not_false,if_true] at hst
    (repeat (first|simp only [↓QA,QB,Nat.reduceLT,reduceIte,Nat.reduceEqDiff,Nat.reduceAdd,Nat.reduceLeDiff,Nat.reduceMul,Nat.reduceBEq,oK,hta,i3,hg,hsh,han,hf]|refine rd0 rfl ?_))
    refine ⟨k+1,by omega,by omega,?_⟩
    rw [hst]
    try simp only [aC,QE,Nat.reduceLT,reduceIte,Nat.reduceEqDiff,Nat.reduceAdd,Nat.reduceLeDiff,Nat.reduceMul,Nat.reduceBEq,oK,hw]
    try simp [aJ,okVs,okV]
    try omega
   ·rw [hop,hf] at hst
    simp only [Bool.not_true,Bool.false_eq_true,if_false] at hst
    (repeat (first|simp only [↓QA,QB,Nat.reduceLT,reduceIte,Nat.reduceEqDiff,Nat.reduceAdd,Nat.reduceLeDiff,Nat.reduceMul,Nat.reduceBEq,oK,hta,i3,hg,hsh,hor,hf]|refine rd0 rfl ?_))
    refine ⟨k+1,by omega,by omega,?_⟩
    rw [hst]
    try simp only [aC,QE,Nat.reduceLT,reduceIte,Nat.reduceEqDiff,Nat.reduceAdd,Nat.reduceLeDiff,Nat.reduceMul,Nat.reduceBEq,oK,hw]
    try simp [aJ,okVs,okV]
    try omega
  ·have hk1:k=v.rails.length:=by
    have:¬k<v.rails.length:=by simpa using hd
    omega
   rw [hk1]
   (repeat (first|simp only [↓QA,QB,Nat.reduceLT,reduceIte,Nat.reduceEqDiff,Nat.reduceAdd,Nat.reduceLeDiff,Nat.reduceMul,Nat.reduceBEq,oK]|refine rd0 rfl ?_))
   exact .inl ⟨hR2,[.cells (bL 5 (rl c))],rfl⟩
end Go.Am.Room
set_option maxRecDepth 8000
namespace Go.Am.Room
def lO:=And.intro @bD (And.intro @aI (And.intro @aX (And.intro @aW (And.intro @aV (And.intro @aS (And.intro @bC (And.intro @a9 (And.intro @aZ (And.intro @dH (And.intro @dF (And.intro @Nat.not_lt_zero (And.intro @List.length_append.{0} (And.intro @Nat.zero_add (And.intro @Nat.mul_one (And.intro @Int.toNat_natCast (And.intro @eH (And.intro @fO (And.intro @fP (And.intro @kQ (And.intro @fQ (And.intro @Nat.add_lt_add_iff_left (And.intro @Nat.lt_add_right_iff_pos (And.intro @oH (@oB))))))))))))))))))))))))
theorem IB (v:Net) (hf:Fits v):dY T 32 [bX v] (qP (wO v)):=by
 refine bA (af:=a32) rfl (by simp [a32]) dd ?_
 (repeat (first|simp only [↓QA,QB,Nat.reduceLT,reduceIte,Nat.reduceEqDiff,Nat.reduceAdd,Nat.reduceLeDiff,Nat.reduceMul,Nat.reduceBEq,lO,a32]|refine rd0 rfl ?_))
 by_cases h0:eQ v=0
 ·obtain ⟨hv,hne⟩:=m9 h0
  have hnt:=hv.nra
  have h6:v.rails.length≤6:=by omega
  obtain ⟨hl1,hl2⟩:=QW hv h6
  have hit:=D3 iW v.rails.length (TL v []) (lB _ h6)
  obtain ⟨⟨⟨P,Q⟩,hPQ⟩,hY⟩:∃ Y,mN iW v.rails.length (TL v []) (lB _ h6)=Y:=⟨_,rfl⟩
  rw [hY] at hl1 hl2 hit
  simp only at hl1 hl2 hPQ
  have hm:wO v=(lst v.rails.length P,lst v.rails.length Q,0):=by rw [wO,if_pos h0,hl1,hl2]
  have hlo1:=tG P v.rails.length (by omega) (by omega)
  have hlo2:=tG Q v.rails.length (by omega) (by omega)
  have hsh:=uM v.rails.length (by omega)
  have hp2:=kH (show v.rails.length≤60 by omega)
  have hw:IntKind.i64.wrap (((2^v.rails.length:Nat):Int)-1)=((2^v.rails.length-1:Nat):Int):=by
   have:=Nat.two_pow_pos v.rails.length
   rw [eO ⟨by omega,by omega⟩];omega
  have hok:∀ (x:B64) (y:ABlk),y∈sB x→∀ k,5≤k→aJ k y:=by
   intro x y hy k hk
   simp only [sB,List.mem_cons,List.not_mem_nil,or_false] at hy
   rcases hy with rfl|rfl<;>simp [aJ,okVs,okV]
  have hR:=BT [.cells (aB v)] v
  have hrng:=m7 hR hv OM sB sB 2 (fun _=>rfl) (fun _=>rfl) hok hok .ret (f:=oD iW v.rails.length)
  have her:=fun σ=>xI σ v [] (.inl rfl) hf (by rw [lV];exact h0)
  simp only [List.map_nil] at her
  rw [hm]
  simp only [lA] at hrng her
  simp only [aI] at hrng her
  refine dM (her _) ?_
  (repeat (first|simp only [↓QA,QB,Nat.reduceLT,reduceIte,Nat.reduceEqDiff,Nat.reduceAdd,Nat.reduceLeDiff,Nat.reduceMul,Nat.reduceBEq,lO,show ((0:Int)==0)=true from rfl,hsh,hw]|refine rd0 rfl ?_))
  refine sV rfl (by simp [a80]) ?_
  (repeat (first|simp only [↓QA,QB,Nat.reduceLT,reduceIte,Nat.reduceEqDiff,Nat.reduceAdd,Nat.reduceLeDiff,Nat.reduceMul,Nat.reduceBEq,lO,a80]|refine rd0 rfl ?_))
  refine hrng _ 24 [25,26] _ _ ?_ ?_ (lB _ h6) (pL v) _ ?_ ?_
  ·try simp only [aC,QE,Nat.reduceLT,reduceIte,Nat.reduceEqDiff,Nat.reduceAdd,Nat.reduceLeDiff,Nat.reduceMul,Nat.reduceBEq,lO]
  ·refine oA (S:=fun _=>lA [.cells (aB v)] v) (fun _=>hR) sB sB 2 (fun _=>rfl) (fun _=>rfl) .ret _ _ (o4 v) (fun _ _ _=>rfl) _ _ ?_
   intro c _ fl tk x B τ
   simp only [kK,o4]
   obtain ⟨R,hRr⟩:∃ R,oD iW v.rails.length c x=R:=⟨_,rfl⟩
   rw [hRr]
   have lb:=fun lp e G=>OP hv c x B lp τ e G
   simp only [sB,lA,aI] at lb ⊢
   (repeat (first|simp only [↓QA,QB,Nat.reduceLT,reduceIte,Nat.reduceEqDiff,Nat.reduceAdd,Nat.reduceLeDiff,Nat.reduceMul,Nat.reduceBEq,lO]|refine rd0 rfl ?_))
   refine ⟨[.cells (bL 5 (rl c))],by simp,?_⟩
   refine lb _ _ _ ?_ ?_ ?_ ?_ R hRr
   all_goals try simp only [aC,QE,Nat.reduceLT,reduceIte,Nat.reduceEqDiff,Nat.reduceAdd,Nat.reduceLeDiff,Nat.reduceMul,Nat.reduceBEq,lO]
  ·intro τ h2
   rw [hit]
   simp only [sB]
   (repeat (first|simp only [↓QA,QB,Nat.reduceLT,reduceIte,Nat.reduceEqDiff,Nat.reduceAdd,Nat.reduceLeDiff,Nat.reduceMul,Nat.reduceBEq,lO]|refine rd0 rfl ?_))
   ((first|refine aE (hlo1) rfl dd ?_|refine aF (hlo1) rfl dd ?_);(repeat (first|simp only [↓QA,QB,Nat.reduceLT,reduceIte,Nat.reduceEqDiff,Nat.reduceAdd,Nat.reduceLeDiff,Nat.reduceMul,Nat.reduceBEq,lO]|refine rd0 rfl ?_)))
   ((first|refine aE (hlo2) rfl dd ?_|refine aF (hlo2) rfl dd ?_);(repeat (first|simp only [↓QA,QB,Nat.reduceLT,reduceIte,Nat.reduceEqDiff,Nat.reduceAdd,Nat.reduceLeDiff,Nat.reduceMul,Nat.reduceBEq,lO,qP]|refine rd0 rfl ?_)))
  ·intro τ h2
   rw [hit] at h2
   cases h2
 ·have her:=fun σ=>BK σ v [] (.inl rfl) hf (by rw [lV];exact h0)
  simp only [List.map_nil,lV] at her
  have h0':(eQ v==0)=false:=by simpa using h0
  have hm:wO v=([],[],eQ v):=by rw [wO,if_neg h0]
  rw [hm]
  refine dM (her _) ?_
  (repeat (first|simp only [↓QA,QB,Nat.reduceLT,reduceIte,Nat.reduceEqDiff,Nat.reduceAdd,Nat.reduceLeDiff,Nat.reduceMul,Nat.reduceBEq,lO,h0',qP]|refine rd0 rfl ?_))
  try rfl
end Go.Am.Room
set_option maxRecDepth 8000
namespace Go.Am.Room
def dU:=And.intro @bD (And.intro @aI (And.intro @aX (And.intro @aW (And.intro @aV (And.intro @aS (And.intro @bC (And.intro @a9 (And.intro @aZ (And.intro @dH (And.intro @dF (And.intro @Nat.not_lt_zero (And.intro @List.length_append.{0} (And.intro @Nat.zero_add (And.intro @Nat.mul_one (@Int.toNat_natCast)))))))))))))))
theorem C0 (v:Net) (hf:Fits v):dY T 34 [bX v] (zP (tS v)):=by
 refine bA (af:=a34) rfl (by simp [a34]) dd ?_
 (repeat (first|simp only [↓QA,QB,Nat.reduceLT,reduceIte,Nat.reduceEqDiff,Nat.reduceAdd,Nat.reduceLeDiff,Nat.reduceMul,Nat.reduceBEq,dU,a34]|refine rd0 rfl ?_))
 ((first|refine aE (lR v hf) rfl dd ?_|refine aF (lR v hf) rfl dd ?_);(repeat (first|simp only [↓QA,QB,Nat.reduceLT,reduceIte,Nat.reduceEqDiff,Nat.reduceAdd,Nat.reduceLeDiff,Nat.reduceMul,Nat.reduceBEq,dU,pA]|refine rd0 rfl ?_)))
 cases h0:((dL v).2.2==0)
 ·have h0':(dL v).2.2≠0:=by simpa using h0
  have hr:tS v=(0,0,(dL v).2.2):=by rw [tS,if_neg h0']
  rw [hr]
  (repeat (first|simp only [↓QA,QB,Nat.reduceLT,reduceIte,Nat.reduceEqDiff,Nat.reduceAdd,Nat.reduceLeDiff,Nat.reduceMul,Nat.reduceBEq,dU,h0,zP]|refine rd0 rfl ?_))
  try rfl
 ·have h0':(dL v).2.2=0:=by simpa using h0
  have hv:=hJ h0'
  have hnr:=hv.nra
  have hnt:=hv.ntr
  obtain ⟨R,hR⟩:∃ R,v5 v=R:=⟨_,rfl⟩
  have hr:tS v=if R.1<0 then (0,0,9) else (R.1,R.2,0):=by rw [tS,if_pos h0',hR]
  have hR':rU v (aT ((0:Nat):Int) ((v.rails.length:Int)-((0:Nat):Int)).toNat) (-1,0)=R:=by rw [←hR,v5];simp
  rw [hr]
  (repeat (first|simp only [↓QA,QB,Nat.reduceLT,reduceIte,Nat.reduceEqDiff,Nat.reduceAdd,Nat.reduceLeDiff,Nat.reduceMul,Nat.reduceBEq,dU,h0]|refine rd0 rfl ?_))
  refine bY (S:=Nat×Int×Int) (0,-1,0) (fun a=>a.1≤v.rails.length∧rU v (aT (a.1:Int) ((v.rails.length:Int)-a.1).toNat) a.2=R) (fun a=>v.rails.length-a.1)
   (fun a=>[(1,.ptr 0 0),(2,.int .i64 a.2.1),(3,.int .i64 a.2.2),(4,.int .i64 (dL v).2.2),(20,.lit (v.rails.map d5) false none),(21,.int .i64 v.rails.length),(22,.int .i64 a.1)]) (fun _=>[.cells (aB v)]) ⟨Nat.zero_le _,hR'⟩ (by simp [aB,ints]) ?_ fun a ha=>?_
  ·try simp only [aC,QE,Nat.reduceLT,reduceIte,Nat.reduceEqDiff,Nat.reduceAdd,Nat.reduceLeDiff,Nat.reduceMul,Nat.reduceBEq,dU]
   try simp
  ·obtain ⟨k,b,c⟩:=a
   obtain ⟨hk,hq⟩:=ha
   simp only at hk hq
   (repeat (first|simp only [↓QA,QB,Nat.reduceLT,reduceIte,Nat.reduceEqDiff,Nat.reduceAdd,Nat.reduceLeDiff,Nat.reduceMul,Nat.reduceBEq,dU,YV]|refine rd0 rfl ?_))
   refine aG (fun h2=>?_) fun h2=>?_
   ·have hk1:k<v.rails.length:=by simpa using h2
    have hw:=bV hk1 (by omega)
    rw [HY hk1] at hq
    obtain ⟨z,hz⟩:∃ z,v.rails[k]=z:=⟨_,rfl⟩
    rw [hz] at hq
    obtain ⟨C,hC⟩:∃ C,A7 v k=C:=⟨_,rfl⟩
    rw [hC] at hq
    (repeat (first|simp only [↓QA,QB,Nat.reduceLT,reduceIte,Nat.reduceEqDiff,Nat.reduceAdd,Nat.reduceLeDiff,Nat.reduceMul,Nat.reduceBEq,dU,hk1,hz]|refine rd0 rfl ?_))
    cases q1:(z.shut==1)
    ·have q1':z.shut≠1:=by simpa using q1
     rw [if_neg q1'] at hq
     (repeat (first|simp only [↓QA,QB,Nat.reduceLT,reduceIte,Nat.reduceEqDiff,Nat.reduceAdd,Nat.reduceLeDiff,Nat.reduceMul,Nat.reduceBEq,dU,q1]|refine rd0 rfl ?_))
     refine bY (S:=Nat) 0 (fun j=>j≤v.trams.length) (fun j=>v.trams.length-j)
      (fun j=>[(1,.ptr 0 0),(2,.int .i64 b),(3,.int .i64 c),(4,.int .i64 (dL v).2.2),(5,.int .i64 k),(7,.int .i64 (t8 v k j:Nat)),(20,.lit (v.rails.map d5) false none),(21,.int .i64 v.rails.length),(22,.int .i64 k),(31,.lit (v.trams.map cV) false none),(32,.int .i64 v.trams.length),(33,.int .i64 j)]) (fun _=>[.cells (aB v),.cells (d5 z).cells]) (Nat.zero_le _) (by simp [aB,ints,t8,d5,AV.cells]) ?_ fun j hj=>?_
     ·try simp only [aC,QE,Nat.reduceLT,reduceIte,Nat.reduceEqDiff,Nat.reduceAdd,Nat.reduceLeDiff,Nat.reduceMul,Nat.reduceBEq,dU,t8]
      try simp
     ·(repeat (first|simp only [↓QA,QB,Nat.reduceLT,reduceIte,Nat.reduceEqDiff,Nat.reduceAdd,Nat.reduceLeDiff,Nat.reduceMul,Nat.reduceBEq,dU,ZM]|refine rd0 rfl ?_))
      refine aG (fun h3=>?_) fun h3=>?_
      ·have hj1:j<v.trams.length:=by simpa using h3
       have hwj:=bV hj1 (by omega)
       have hcl:=RQ v k j
       have hs:=JQ v k j
       have hwc:=bV (show t8 v k j<v.trams.length by omega) (by omega)
       have hwt:=(sD hv hj1).frm
       have hst:=hv.st
       rw [tM hj1] at hs
       obtain ⟨y,hy⟩:∃ y,v.trams[j]=y:=⟨_,rfl⟩
       rw [hy] at hs hwt
       obtain ⟨f,hf1,hf2⟩:∃ f:Nat,y.frm=f∧f<5:=⟨y.frm.toNat,by omega,by omega⟩
       rw [hf1] at hs
       have hpw:=AD v hv f hf2 k
       rw [show pE (k:Int)=[(k:Int)] by rw [pE,if_neg (by omega)]] at hpw
       obtain ⟨W,hW⟩:∃ W,cJ v f [(k:Int)]=W:=⟨_,rfl⟩
       rw [hW] at hpw hs
       have hwe:(((W.length:Nat):Int)==0)=W.isEmpty:=by cases W<;>simp<;>omega
       (repeat (first|simp only [↓QA,QB,Nat.reduceLT,reduceIte,Nat.reduceEqDiff,Nat.reduceAdd,Nat.reduceLeDiff,Nat.reduceMul,Nat.reduceBEq,dU,hj1,hy,hf1]|refine rd0 rfl ?_))
       ((first|refine aE (hpw) rfl dd ?_|refine aF (hpw) rfl dd ?_);(repeat (first|simp only [↓QA,QB,Nat.reduceLT,reduceIte,Nat.reduceEqDiff,Nat.reduceAdd,Nat.reduceLeDiff,Nat.reduceMul,Nat.reduceBEq,dU,bP,hwe]|refine rd0 rfl ?_)))
       cases hse:W.isEmpty
       ·rw [hse] at hs
        simp only [Bool.false_eq_true,if_false,Nat.add_zero] at hs
        (repeat (first|simp only [↓QA,QB,Nat.reduceLT,reduceIte,Nat.reduceEqDiff,Nat.reduceAdd,Nat.reduceLeDiff,Nat.reduceMul,Nat.reduceBEq,dU,hwj]|refine rd0 rfl ?_))
        refine ⟨j+1,by omega,by omega,?_⟩
        rw [hs]
        try simp only [aC,QE,Nat.reduceLT,reduceIte,Nat.reduceEqDiff,Nat.reduceAdd,Nat.reduceLeDiff,Nat.reduceMul,Nat.reduceBEq,dU,hwj]
        try simp [aJ]
       ·rw [hse] at hs
        simp only [if_true] at hs
        (repeat (first|simp only [↓QA,QB,Nat.reduceLT,reduceIte,Nat.reduceEqDiff,Nat.reduceAdd,Nat.reduceLeDiff,Nat.reduceMul,Nat.reduceBEq,dU,hwj,hwc]|refine rd0 rfl ?_))
        refine ⟨j+1,by omega,by omega,?_⟩
        rw [hs]
        try simp only [aC,QE,Nat.reduceLT,reduceIte,Nat.reduceEqDiff,Nat.reduceAdd,Nat.reduceLeDiff,Nat.reduceMul,Nat.reduceBEq,dU,hwj,hwc]
        try simp [aJ]
      ·have hj1:j=v.trams.length:=by
        have:¬j<v.trams.length:=by simpa using h3
        omega
       rw [hj1]
       have hCC:((t8 v k v.trams.length:Nat):Int)=C:=by rw [←hC];rfl
       rw [hCC]
       (repeat (first|simp only [↓QA,QB,Nat.reduceLT,reduceIte,Nat.reduceEqDiff,Nat.reduceAdd,Nat.reduceLeDiff,Nat.reduceMul,Nat.reduceBEq,dU]|refine rd0 rfl ?_))
       cases q2:decide (b<0)
       ·have q2':¬b<0:=by simpa using q2
        cases q3:decide (c<C)
        ·have q3':¬c<C:=by simpa using q3
         rw [if_neg (by simp only;omega)] at hq
         (repeat (first|simp only [↓QA,QB,Nat.reduceLT,reduceIte,Nat.reduceEqDiff,Nat.reduceAdd,Nat.reduceLeDiff,Nat.reduceMul,Nat.reduceBEq,dU,q2,q3,hw]|refine rd0 rfl ?_))
         refine ⟨(k+1,b,c),⟨by simp only;omega,hq⟩,by simp only;omega,?_⟩
         try simp only [aC,QE,Nat.reduceLT,reduceIte,Nat.reduceEqDiff,Nat.reduceAdd,Nat.reduceLeDiff,Nat.reduceMul,Nat.reduceBEq,dU,hw]
         try simp [aJ]
        ·have q3':c<C:=by simpa using q3
         rw [if_pos (.inr q3')] at hq
         (repeat (first|simp only [↓QA,QB,Nat.reduceLT,reduceIte,Nat.reduceEqDiff,Nat.reduceAdd,Nat.reduceLeDiff,Nat.reduceMul,Nat.reduceBEq,dU,q2,q3,hw]|refine rd0 rfl ?_))
         refine ⟨(k+1,(k:Int),C),⟨by simp only;omega,hq⟩,by simp only;omega,?_⟩
         try simp only [aC,QE,Nat.reduceLT,reduceIte,Nat.reduceEqDiff,Nat.reduceAdd,Nat.reduceLeDiff,Nat.reduceMul,Nat.reduceBEq,dU,hw]
         try simp [aJ]
       ·have q2':b<0:=by simpa using q2
        rw [if_pos (.inl q2')] at hq
        (repeat (first|simp only [↓QA,QB,Nat.reduceLT,reduceIte,Nat.reduceEqDiff,Nat.reduceAdd,Nat.reduceLeDiff,Nat.reduceMul,Nat.reduceBEq,dU,q2,hw]|refine rd0 rfl ?_))
        refine ⟨(k+1,(k:Int),C),⟨by simp only;omega,hq⟩,by simp only;omega,?_⟩
        try simp only [aC,QE,Nat.reduceLT,reduceIte,Nat.reduceEqDiff,Nat.reduceAdd,Nat.reduceLeDiff,Nat.reduceMul,Nat.reduceBEq,dU,hw]
        try simp [aJ]
    ·have q1':z.shut=1:=by simpa using q1
     rw [if_pos q1'] at hq
     (repeat (first|simp only [↓QA,QB,Nat.reduceLT,reduceIte,Nat.reduceEqDiff,Nat.reduceAdd,Nat.reduceLeDiff,Nat.reduceMul,Nat.reduceBEq,dU,q1,hw]|refine rd0 rfl ?_))
     refine ⟨(k+1,b,c),⟨by simp only;omega,hq⟩,by simp only;omega,?_⟩
     try simp only [aC,QE,Nat.reduceLT,reduceIte,Nat.reduceEqDiff,Nat.reduceAdd,Nat.reduceLeDiff,Nat.reduceMul,Nat.reduceBEq,dU,hw]
     try simp [aJ]
   ·have hk1:k=v.rails.length:=by
     have:¬k<v.rails.length:=by simpa using h2
     omega
    rw [mW (by omega),rU] at hq
    subst hq
    cases q:decide (b<0)
    ·have q':¬b<0:=by simpa using q
     rw [if_neg (by simpa using q')]
     (repeat (first|simp only [↓QA,QB,Nat.reduceLT,reduceIte,Nat.reduceEqDiff,Nat.reduceAdd,Nat.reduceLeDiff,Nat.reduceMul,Nat.reduceBEq,dU,q,zP]|refine rd0 rfl ?_))
     try rfl
    ·have q':b<0:=by simpa using q
     rw [if_pos (by simpa using q')]
     (repeat (first|simp only [↓QA,QB,Nat.reduceLT,reduceIte,Nat.reduceEqDiff,Nat.reduceAdd,Nat.reduceLeDiff,Nat.reduceMul,Nat.reduceBEq,dU,q,zP]|refine rd0 rfl ?_))
     try rfl
theorem UL {v:Net} (hv:Vd v):fT v.rails []≠[]:=by
 have:v.rails.map (fun r=>if r.shut=1 then 0 else r.mins.lo)∈fT v.rails []:=(kB _ _ _).2 ⟨_,rfl,by simp,fun i h hr=>by
  have h2:=(hv.ra _ (List.getElem_mem hr)).mins
  rw [List.getElem?_eq_getElem (by simpa using hr),Option.getD_some,List.getElem_map]
  obtain ⟨z,hz⟩:∃ z,v.rails[i]=z:=⟨_,rfl⟩
  rw [hz] at h2 ⊢
  simp only [chP,List.mem_append]
  by_cases q:z.shut=1
  ·rw [if_pos q,if_neg (by omega)]
   exact .inl (by simp)
  ·rw [if_neg q,if_neg q]
   exact .inr (lC.2 ⟨Int.le_refl _,by omega⟩)⟩
 exact List.ne_nil_of_mem this
theorem PB {v:Net} {but:List Int} (h:∀ k,k<v.seen.length→but.contains (k:Int)=true) (cs:List Int):kX v but cs=true:=by
 rw [kX,List.all_eq_true]
 intro k hk
 have hk2:k<v.seen.length:=by simpa using hk
 rw [List.getElem?_eq_getElem hk2]
 simp only [h k hk2,Bool.true_or]
theorem OZ {v:Net} (hv:Vd v) {but:List Int} (h:∀ k,k<v.seen.length→but.contains (k:Int)=true):qZ v but=true:=by
 obtain ⟨c,hc⟩:=List.exists_mem_of_ne_nil _ (UL hv)
 have ht:c∈TL v but:=List.mem_filter.2 ⟨hc,PB h _⟩
 obtain ⟨s,hs,_⟩:=sR hv ht
 rw [qZ]
 cases hh:bF v but with
 |nil=>rw [hh] at hs;cases hs
 |cons a b=>rfl
theorem NT {v:Net} (hv:Vd v):∀ c∈eC v.seen.length v.seen.length,qZ v c=true:=fun c hc=>by
 have hl:=hv.nse
 exact OZ hv fun k hk=>E1 ⟨v.seen.length,by omega⟩ c hc ⟨k,by omega⟩ hk
theorem rE (f:List Int→Bool) (n:Nat):∀ k m,eG f n (k+1) m=(eG f n k m).or ((eC n (m+k)).find? f)
 |0,m=>by simp only [eG,Nat.add_zero];cases (eC n m).find? f<;>rfl
 |k+1,m=>by
  rw [eG,rE f n k (m+1)]
  rw [show eG f n (k+1) m=(match (eC n m).find? f with|some l=>some l|none=>eG f n k (m+1)) from rfl]
  rw [show m+1+k=m+(k+1) by omega]
  cases (eC n m).find? f<;>rfl
theorem HQ {v:Net} (hv:Vd v):eG (qZ v) v.seen.length (v.seen.length+1) 0=some (AC v):=by
 have hl:=hv.nse
 have h1:=G4 ⟨v.seen.length,by omega⟩
 simp only at h1
 obtain ⟨w,hw⟩:=List.length_eq_one_iff.1 h1
 have hs:=NT hv w (by rw [hw];simp)
 rw [rE,AC,Nat.zero_add,hw]
 cases eG (qZ v) v.seen.length v.seen.length 0 with
 |some l=>rfl
 |none=>simp [hs]
end Go.Am.Room
set_option maxRecDepth 8000
namespace Go.Am.Room
def bM:=And.intro @bD (And.intro @aI (And.intro @aX (And.intro @aW (And.intro @aV (And.intro @aS (And.intro @bC (And.intro @a9 (And.intro @aZ (And.intro @List.length_append.{0} (And.intro @Nat.mul_one (And.intro @Int.toNat_natCast (And.intro @dH (And.intro @dF (@nL))))))))))))))
def zM (σ:St) (v:Net) (b:Nat) (A:List K5):St:=σ++[.cells (aB v),.map (tEs v A),.cells (db v b (σ.length+1))]
theorem XC (σ:St) (v:Net) (b:Nat):MemAt (zM σ v b) (db v b (σ.length+1)) (tEs v) (σ.length+2) (σ.length+1) (σ.length+3) :=
 ⟨fun M=>by simp [zM],fun M=>by simp [zM,sK,rA,QZ],fun M=>by rw [zM,rW];rfl,fun M M'=>by rw [zM,zM,oN];rfl,fun A k=>sG v A k,by omega,by omega⟩
theorem DB (v:Net) (hf:Fits v):dY T 36 [bX v] (ME (y6 v)):=by
 refine bA (af:=a36) rfl (by simp [a36]) dd ?_
 (repeat (first|simp only [↓QA,QB,Nat.reduceLT,reduceIte,Nat.reduceEqDiff,Nat.reduceAdd,Nat.reduceLeDiff,Nat.reduceMul,Nat.reduceBEq,bM,a36]|refine rd0 rfl ?_))
 ((first|refine aE (lR v hf) rfl dd ?_|refine aF (lR v hf) rfl dd ?_);(repeat (first|simp only [↓QA,QB,Nat.reduceLT,reduceIte,Nat.reduceEqDiff,Nat.reduceAdd,Nat.reduceLeDiff,Nat.reduceMul,Nat.reduceBEq,bM,pA]|refine rd0 rfl ?_)))
 cases h0:((dL v).2.2==0)
 ·have h0':(dL v).2.2≠0:=by simpa using h0
  have hwo:y6 v=([],(dL v).2.2):=if_neg h0'
  rw [hwo]
  (repeat (first|simp only [↓QA,QB,Nat.reduceLT,reduceIte,Nat.reduceEqDiff,Nat.reduceAdd,Nat.reduceLeDiff,Nat.reduceMul,Nat.reduceBEq,bM,h0,ME]|refine rd0 rfl ?_))
  try rfl
 ·have h0':(dL v).2.2=0:=by simpa using h0
  have hwo:y6 v=(AC v,0):=if_pos h0'
  have hv:=hJ h0'
  have hnl:=hv.nse
  have hwf:=HQ hv
  rw [←aCE _ _ (by omega)] at hwf
  rw [hwo]
  obtain ⟨W,hW⟩:∃ W,AC v=W:=⟨_,rfl⟩
  rw [hW] at hwf ⊢
  obtain ⟨n,hn⟩:∃ n,v.seen.length=n:=⟨_,rfl⟩
  rw [hn] at hwf hnl
  have hp:2^n≤2^3:=Nat.pow_le_pow_right (by omega) hnl
  have hshl:=uM n (by omega)
  obtain ⟨P,hP⟩:∃ P,2^n=P:=⟨_,rfl⟩
  have hbl:∀ s,s<P→ButIs s (lst n s):=fun s hs=>VU (by omega) (by omega)
  rw [hP] at hp hshl hwf
  obtain ⟨q,hq⟩:∃ q,qZ v=q:=⟨_,rfl⟩
  have hqd:∀ l,(!(bF v l).isEmpty)=q l:=fun l=>by rw [←hq];rfl
  rw [hq] at hwf
  (repeat (first|simp only [↓QA,QB,Nat.reduceLT,reduceIte,Nat.reduceEqDiff,Nat.reduceAdd,Nat.reduceLeDiff,Nat.reduceMul,Nat.reduceBEq,bM,h0,hn,hshl]|refine rd0 rfl ?_))
  refine bY (S:=Nat×Option (List Int)) (0,none) (fun x=>x.1≤P∧m4 q n (P-x.1) x.1 x.2=some W∧(x.2.getD []).length≤n) (fun x=>P-x.1)
   (fun x=>[(1,.ptr 0 0),(2,ints (x.2.getD [])),(4,.bool x.2.isSome),(19,.int .i64 P),(20,.int .i64 x.1)])
   (fun x=>[.cells (aB v)]) ⟨by simp,by simpa using hwf,by simp⟩ (by simp [aB,ints]) ?_ fun x hx=>?_
  ·try simp only [aC,QE,Nat.reduceLT,reduceIte,Nat.reduceEqDiff,Nat.reduceAdd,Nat.reduceLeDiff,Nat.reduceMul,Nat.reduceBEq,bM,ints,Option.getD_none,Option.isSome_none]
   try simp [clr,clrs]
  ·obtain ⟨s,o⟩:=x
   obtain ⟨hs,hfo,hol⟩:=hx
   simp only at hs hfo hol
   (repeat (first|simp only [↓QA,QB,Nat.reduceLT,reduceIte,Nat.reduceEqDiff,Nat.reduceAdd,Nat.reduceLeDiff,Nat.reduceMul,Nat.reduceBEq,bM,X1]|refine rd0 rfl ?_))
   refine aG (fun h=>?_) fun h=>?_
   ·have hs1:s<P:=by simpa using h
    have hw:=bV hs1 (by omega)
    have hll:=LU n s
    have hlk:=HR [.cells (aB v)] v s
    have hso:=EB (XC [.cells (aB v)] v s) hv (hbl s hs1) []
    have e0:tEs v []=[]:=rfl
    rw [hqd] at hso
    have hlo:=tG s n (by omega) (by omega)
    rw [show P-s=(P-(s+1))+1 by omega] at hfo
    simp only [m4] at hfo
    obtain ⟨L,hL⟩:∃ L,lst n s=L:=⟨_,rfl⟩
    rw [hL] at hfo hll hlo hso
    obtain ⟨qL,hqL⟩:∃ x,q L=x:=⟨_,rfl⟩
    rw [hqL] at hso
    simp only [zM,BP,e0] at hso hlk
    try simp only [↓QA,QB,Nat.reduceLT,reduceIte,Nat.reduceEqDiff,Nat.reduceAdd,Nat.reduceLeDiff,Nat.reduceMul,Nat.reduceBEq,bM,List.cons_append,List.nil_append,List.length_cons,List.length_nil] at hso hlk
    (repeat (first|simp only [↓QA,QB,Nat.reduceLT,reduceIte,Nat.reduceEqDiff,Nat.reduceAdd,Nat.reduceLeDiff,Nat.reduceMul,Nat.reduceBEq,bM,hn,Option.getD_some]|refine rd0 rfl ?_))
    ((first|refine aE (hlo) rfl dd ?_|refine aF (hlo) rfl dd ?_);(repeat (first|simp only [↓QA,QB,Nat.reduceLT,reduceIte,Nat.reduceEqDiff,Nat.reduceAdd,Nat.reduceLeDiff,Nat.reduceMul,Nat.reduceBEq,bM]|refine rd0 rfl ?_)))
    cases o with
    |none =>
     have hst:jD q none L=if q L=true then some L else none:=rfl
     (repeat (first|simp only [↓QA,QB,Nat.reduceLT,reduceIte,Nat.reduceEqDiff,Nat.reduceAdd,Nat.reduceLeDiff,Nat.reduceMul,Nat.reduceBEq,bM,Option.isSome_none,Option.getD_none]|refine rd0 rfl ?_))
     refine dM hlk ?_
     (repeat (first|simp only [↓QA,QB,Nat.reduceLT,reduceIte,Nat.reduceEqDiff,Nat.reduceAdd,Nat.reduceLeDiff,Nat.reduceMul,Nat.reduceBEq,bM]|refine rd0 rfl ?_))
     refine dM hso ?_
     (repeat (first|simp only [↓QA,QB,Nat.reduceLT,reduceIte,Nat.reduceEqDiff,Nat.reduceAdd,Nat.reduceLeDiff,Nat.reduceMul,Nat.reduceBEq,bM]|refine rd0 rfl ?_))
     cases qL
     ·rw [hqL] at hst
      simp only [Bool.false_eq_true,if_false] at hst
      rw [hst] at hfo
      (repeat (first|simp only [↓QA,QB,Nat.reduceLT,reduceIte,Nat.reduceEqDiff,Nat.reduceAdd,Nat.reduceLeDiff,Nat.reduceMul,Nat.reduceBEq,bM,hw]|refine rd0 rfl ?_))
      refine ⟨(s+1,none),⟨by simp only;omega,hfo,by simp⟩,by simp only;omega,?_⟩
      try simp only [aC,QE,Nat.reduceLT,reduceIte,Nat.reduceEqDiff,Nat.reduceAdd,Nat.reduceLeDiff,Nat.reduceMul,Nat.reduceBEq,bM,hw,Option.isSome_none,Option.getD_none]
      try simp [ints,aJ]
     ·rw [hqL] at hst
      simp only [if_true] at hst
      rw [hst] at hfo
      (repeat (first|simp only [↓QA,QB,Nat.reduceLT,reduceIte,Nat.reduceEqDiff,Nat.reduceAdd,Nat.reduceLeDiff,Nat.reduceMul,Nat.reduceBEq,bM,hw]|refine rd0 rfl ?_))
      refine ⟨(s+1,some L),⟨by simp only;omega,hfo,by simpa using hll⟩,by simp only;omega,?_⟩
      try simp only [aC,QE,Nat.reduceLT,reduceIte,Nat.reduceEqDiff,Nat.reduceAdd,Nat.reduceLeDiff,Nat.reduceMul,Nat.reduceBEq,bM,hw,Option.isSome_some,Option.getD_some]
      try simp [ints,aJ]
    |some b =>
     simp only [Option.getD_some] at hol
     simp only [Option.isSome_some,nB]
     (repeat (first|simp only [↓QA,QB,Nat.reduceLT,reduceIte,Nat.reduceEqDiff,Nat.reduceAdd,Nat.reduceLeDiff,Nat.reduceMul,Nat.reduceBEq,bM,Option.isSome_some,Option.getD_some]|refine rd0 rfl ?_))
     have fin:∀ (hfw:gC b L=false),jD q (some b) L=if q L=true then some L else some b:=fun hfw=>by simp only [jD,hfw];rfl
     cases h1:decide ((b.length:Int)<(L.length:Int))
     ·have h1':¬b.length<L.length:=by simpa using h1
      (repeat (first|simp only [↓QA,QB,Nat.reduceLT,reduceIte,Nat.reduceEqDiff,Nat.reduceAdd,Nat.reduceLeDiff,Nat.reduceMul,Nat.reduceBEq,bM,Option.getD_some,h1]|refine rd0 rfl ?_))
      cases h2:((L.length:Int)==(b.length:Int))
      ·have h2':¬b.length=L.length:=by intro h;rw [h] at h2;simp at h2
       have hst:=fin (by simp [gC,h1',h2'])
       (repeat (first|simp only [↓QA,QB,Nat.reduceLT,reduceIte,Nat.reduceEqDiff,Nat.reduceAdd,Nat.reduceLeDiff,Nat.reduceMul,Nat.reduceBEq,bM,h2]|refine rd0 rfl ?_))
       refine dM hlk ?_
       (repeat (first|simp only [↓QA,QB,Nat.reduceLT,reduceIte,Nat.reduceEqDiff,Nat.reduceAdd,Nat.reduceLeDiff,Nat.reduceMul,Nat.reduceBEq,bM]|refine rd0 rfl ?_))
       refine dM hso ?_
       (repeat (first|simp only [↓QA,QB,Nat.reduceLT,reduceIte,Nat.reduceEqDiff,Nat.reduceAdd,Nat.reduceLeDiff,Nat.reduceMul,Nat.reduceBEq,bM]|refine rd0 rfl ?_))
       cases qL
       ·rw [hqL] at hst
        simp only [Bool.false_eq_true,if_false] at hst
        rw [hst] at hfo
        (repeat (first|simp only [↓QA,QB,Nat.reduceLT,reduceIte,Nat.reduceEqDiff,Nat.reduceAdd,Nat.reduceLeDiff,Nat.reduceMul,Nat.reduceBEq,bM,hw]|refine rd0 rfl ?_))
        refine ⟨(s+1,some b),⟨by simp only;omega,hfo,by simpa using hol⟩,by simp only;omega,?_⟩
        try simp only [aC,QE,Nat.reduceLT,reduceIte,Nat.reduceEqDiff,Nat.reduceAdd,Nat.reduceLeDiff,Nat.reduceMul,Nat.reduceBEq,bM,hw,Option.isSome_some,Option.getD_some]
        try simp [ints,aJ]
       ·rw [hqL] at hst
        simp only [if_true] at hst
        rw [hst] at hfo
        (repeat (first|simp only [↓QA,QB,Nat.reduceLT,reduceIte,Nat.reduceEqDiff,Nat.reduceAdd,Nat.reduceLeDiff,Nat.reduceMul,Nat.reduceBEq,bM,hw]|refine rd0 rfl ?_))
        refine ⟨(s+1,some L),⟨by simp only;omega,hfo,by simpa using hll⟩,by simp only;omega,?_⟩
        try simp only [aC,QE,Nat.reduceLT,reduceIte,Nat.reduceEqDiff,Nat.reduceAdd,Nat.reduceLeDiff,Nat.reduceMul,Nat.reduceBEq,bM,hw,Option.isSome_some,Option.getD_some]
        try simp [ints,aJ]
      ·have h2':b.length=L.length:=by simp at h2;omega
       (repeat (first|simp only [↓QA,QB,Nat.reduceLT,reduceIte,Nat.reduceEqDiff,Nat.reduceAdd,Nat.reduceLeDiff,Nat.reduceMul,Nat.reduceBEq,bM,Option.getD_some,h2]|refine rd0 rfl ?_))
       ((first|refine aE (L4 L b (by omega) (by omega)) rfl dd ?_|refine aF (L4 L b (by omega) (by omega)) rfl dd ?_);(repeat (first|simp only [↓QA,QB,Nat.reduceLT,reduceIte,Nat.reduceEqDiff,Nat.reduceAdd,Nat.reduceLeDiff,Nat.reduceMul,Nat.reduceBEq,bM,DA,Option.getD_some]|refine rd0 rfl ?_)))
       cases h3:less b L
       ·have hst:=fin (by simp [gC,h2',h3])
        (repeat (first|simp only [↓QA,QB,Nat.reduceLT,reduceIte,Nat.reduceEqDiff,Nat.reduceAdd,Nat.reduceLeDiff,Nat.reduceMul,Nat.reduceBEq,bM,h3]|refine rd0 rfl ?_))
        refine dM hlk ?_
        (repeat (first|simp only [↓QA,QB,Nat.reduceLT,reduceIte,Nat.reduceEqDiff,Nat.reduceAdd,Nat.reduceLeDiff,Nat.reduceMul,Nat.reduceBEq,bM]|refine rd0 rfl ?_))
        refine dM hso ?_
        (repeat (first|simp only [↓QA,QB,Nat.reduceLT,reduceIte,Nat.reduceEqDiff,Nat.reduceAdd,Nat.reduceLeDiff,Nat.reduceMul,Nat.reduceBEq,bM]|refine rd0 rfl ?_))
        cases qL
        ·rw [hqL] at hst
         simp only [Bool.false_eq_true,if_false] at hst
         rw [hst] at hfo
         (repeat (first|simp only [↓QA,QB,Nat.reduceLT,reduceIte,Nat.reduceEqDiff,Nat.reduceAdd,Nat.reduceLeDiff,Nat.reduceMul,Nat.reduceBEq,bM,hw]|refine rd0 rfl ?_))
         refine ⟨(s+1,some b),⟨by simp only;omega,hfo,by simpa using hol⟩,by simp only;omega,?_⟩
         try simp only [aC,QE,Nat.reduceLT,reduceIte,Nat.reduceEqDiff,Nat.reduceAdd,Nat.reduceLeDiff,Nat.reduceMul,Nat.reduceBEq,bM,hw,Option.isSome_some,Option.getD_some]
         try simp [ints,aJ]
        ·rw [hqL] at hst
         simp only [if_true] at hst
         rw [hst] at hfo
         (repeat (first|simp only [↓QA,QB,Nat.reduceLT,reduceIte,Nat.reduceEqDiff,Nat.reduceAdd,Nat.reduceLeDiff,Nat.reduceMul,Nat.reduceBEq,bM,hw]|refine rd0 rfl ?_))
         refine ⟨(s+1,some L),⟨by simp only;omega,hfo,by simpa using hll⟩,by simp only;omega,?_⟩
         try simp only [aC,QE,Nat.reduceLT,reduceIte,Nat.reduceEqDiff,Nat.reduceAdd,Nat.reduceLeDiff,Nat.reduceMul,Nat.reduceBEq,bM,hw,Option.isSome_some,Option.getD_some]
         try simp [ints,aJ]
       ·have hfw:gC b L=true:=by simp [gC,h2',h3]
        have hst:jD q (some b) L=some b:=by simp only [jD,hfw,if_true]
        rw [hst] at hfo
        (repeat (first|simp only [↓QA,QB,Nat.reduceLT,reduceIte,Nat.reduceEqDiff,Nat.reduceAdd,Nat.reduceLeDiff,Nat.reduceMul,Nat.reduceBEq,bM,h3,hw]|refine rd0 rfl ?_))
        refine ⟨(s+1,some b),⟨by simp only;omega,hfo,by simpa using hol⟩,by simp only;omega,?_⟩
        try simp only [aC,QE,Nat.reduceLT,reduceIte,Nat.reduceEqDiff,Nat.reduceAdd,Nat.reduceLeDiff,Nat.reduceMul,Nat.reduceBEq,bM,hw,Option.isSome_some,Option.getD_some]
        try simp [ints,aJ]
     ·have h1':b.length<L.length:=by simpa using h1
      have h2':¬b.length=L.length:=by omega
      have hfw:gC b L=true:=by simp [gC,h1',h2']
      have hst:jD q (some b) L=some b:=by simp only [jD,hfw,if_true]
      rw [hst] at hfo
      (repeat (first|simp only [↓QA,QB,Nat.reduceLT,reduceIte,Nat.reduceEqDiff,Nat.reduceAdd,Nat.reduceLeDiff,Nat.reduceMul,Nat.reduceBEq,bM,h1,hw]|refine rd0 rfl ?_))
      refine ⟨(s+1,some b),⟨by simp only;omega,hfo,by simpa using hol⟩,by simp only;omega,?_⟩
      try simp only [aC,QE,Nat.reduceLT,reduceIte,Nat.reduceEqDiff,Nat.reduceAdd,Nat.reduceLeDiff,Nat.reduceMul,Nat.reduceBEq,bM,hw,Option.isSome_some,Option.getD_some]
      try simp [ints,aJ]
   ·have hs1:s=P:=by simp at h;omega
    rw [hs1,Nat.sub_self] at hfo
    simp only [m4] at hfo
    subst hfo
    (repeat (first|simp only [↓QA,QB,Nat.reduceLT,reduceIte,Nat.reduceEqDiff,Nat.reduceAdd,Nat.reduceLeDiff,Nat.reduceMul,Nat.reduceBEq,bM,ME,Option.getD_some]|refine rd0 rfl ?_))
    try try simp only [QS,QC,Nat.reduceLT,reduceIte,Nat.reduceEqDiff,Nat.reduceAdd,Nat.reduceLeDiff,Nat.reduceMul,Nat.reduceBEq,bM]
end Go.Am.Room
set_option maxRecDepth 8000
namespace Go.Am.Room
def y7:=And.intro @aS (@List.length_append.{0})
theorem lN (a b:Int):dY T 40 [.int .i64 a,.int .i64 b] (pR ⟨a,b⟩):=by
 refine bA (af:=a40) rfl (by simp [a40]) dd ?_
 (repeat (first|simp only [↓QA,QB,Nat.reduceLT,reduceIte,Nat.reduceEqDiff,Nat.reduceAdd,Nat.reduceLeDiff,Nat.reduceMul,Nat.reduceBEq,y7,a40]|refine rd0 rfl ?_))
def nY (l:List Int) (n:Nat):Int:=if l.length=0 then 0 else (l[n%l.length]?).getD 0
def u8s (l:List Int):AV:=.lit (l.map (.int .u8)) false none
theorem GF (l:List Int):kV (u8s l):=iL (cR .u8) l
instance (l:List Int):Dat (u8s l):=⟨GF l⟩
theorem aF8 (σ:St) (m d:Nat) (l:List Int):cT σ m d (l.map (.int .u8))=some (l.map (.int .u8)):=jC (cL (cR .u8) l) σ m d
def RM (l:List Int):Prop:=(∀ x∈l,0≤x∧x<256)∧l.length<9223372036854775808
theorem NA {l:List Int} (h:RM l) (n:Nat):0≤nY l n∧nY l n<256:=by
 unfold nY
 split
 ·omega
 ·rename_i h0
  have hlt:n%l.length<l.length:=Nat.mod_lt _ (by omega)
  rw [List.getElem?_eq_getElem hlt,Option.getD_some]
  exact h.1 _ (List.getElem_mem hlt)
theorem U2 (l:List Int) (n:Nat) (h:RM l) (hn:n<9223372036854775808):dY T 52 [u8s l,.int .i64 n] (.int .i64 (nY l n)):=by
 refine bA (af:=a52) rfl (by simp [a52]) (bE (GF l) (bE (cR _ _) dD)) ?_
 have hl:=h.2
 (repeat (first|simp only [↓QA,QB,Nat.reduceLT,reduceIte,Nat.reduceEqDiff,Nat.reduceAdd,Nat.reduceLeDiff,Nat.reduceMul,Nat.reduceBEq,y7,a52,u8s]|refine rd0 rfl ?_))
 refine aG (fun h0=>?_) fun h0=>?_
 ·have h0':l.length=0:=by simp at h0;simp [h0]
  (repeat (first|simp only [↓QA,QB,Nat.reduceLT,reduceIte,Nat.reduceEqDiff,Nat.reduceAdd,Nat.reduceLeDiff,Nat.reduceMul,Nat.reduceBEq,y7,nY,h0']|refine rd0 rfl ?_))
 ·have h0':l.length≠0:=by intro e;rw [e] at h0;simp at h0
  have hlt:n%l.length<l.length:=Nat.mod_lt _ (by omega)
  have hb:=h.1 _ (List.getElem_mem hlt)
  have hm:((n:Int).tmod (l.length:Int))=((n%l.length:Nat):Int):=by rw [Int.tmod_eq_emod_of_nonneg (by omega)];norm_cast
  have hw:IntKind.i64.wrap l[n%l.length]=l[n%l.length]:=eO ⟨by omega,by omega⟩
  (repeat (first|simp only [↓QA,QB,Nat.reduceLT,reduceIte,Nat.reduceEqDiff,Nat.reduceAdd,Nat.reduceLeDiff,Nat.reduceMul,Nat.reduceBEq,y7,Q7 _ _ _ (show ((l.length:Nat):Int)≠0 by omega),hm,hlt,hw]|refine rd0 rfl ?_))
  simp [nY,h0',hlt]
end Go.Am.Room
set_option maxRecDepth 8000
namespace Go.Am.Room
def eI:=And.intro @bD (And.intro @aI (And.intro @aX (And.intro @aW (And.intro @aV (And.intro @aS (And.intro @bC (And.intro @a9 (And.intro @aZ (And.intro @dH (@List.length_append.{0}))))))))))
theorem D1 (p n:Int):dY T 39 [.int .i64 p,.int .i64 n] (eL ⟨p,n⟩):=by
 refine bA (af:=a39) rfl (by simp [a39]) dd ?_
 (repeat (first|simp only [↓QA,QB,Nat.reduceLT,reduceIte,Nat.reduceEqDiff,Nat.reduceAdd,Nat.reduceLeDiff,Nat.reduceMul,Nat.reduceBEq,eI,a39]|refine rd0 rfl ?_))
theorem wA (o:Bool) (l:List Seen):dY T 38 [.bool o,.lit (l.map eL) false none] (bX (exN o l)):=by
 refine bA (af:=a38) rfl (by simp [a38]) dd ?_
 (repeat (first|simp only [↓QA,QB,Nat.reduceLT,reduceIte,Nat.reduceEqDiff,Nat.reduceAdd,Nat.reduceLeDiff,Nat.reduceMul,Nat.reduceBEq,eI,a38]|refine rd0 rfl ?_))
 ((first|refine aE (lN 5 6) rfl dd ?_|refine aF (lN 5 6) rfl dd ?_);(repeat (first|simp only [↓QA,QB,Nat.reduceLT,reduceIte,Nat.reduceEqDiff,Nat.reduceAdd,Nat.reduceLeDiff,Nat.reduceMul,Nat.reduceBEq,eI]|refine rd0 rfl ?_)))
 ((first|refine aE (lN 4 4) rfl dd ?_|refine aF (lN 4 4) rfl dd ?_);(repeat (first|simp only [↓QA,QB,Nat.reduceLT,reduceIte,Nat.reduceEqDiff,Nat.reduceAdd,Nat.reduceLeDiff,Nat.reduceMul,Nat.reduceBEq,eI]|refine rd0 rfl ?_)))
 ((first|refine aE (lN 12 12) rfl dd ?_|refine aF (lN 12 12) rfl dd ?_);(repeat (first|simp only [↓QA,QB,Nat.reduceLT,reduceIte,Nat.reduceEqDiff,Nat.reduceAdd,Nat.reduceLeDiff,Nat.reduceMul,Nat.reduceBEq,eI]|refine rd0 rfl ?_)))
 ((first|refine aE (lN 3 3) rfl dd ?_|refine aF (lN 3 3) rfl dd ?_);(repeat (first|simp only [↓QA,QB,Nat.reduceLT,reduceIte,Nat.reduceEqDiff,Nat.reduceAdd,Nat.reduceLeDiff,Nat.reduceMul,Nat.reduceBEq,eI]|refine rd0 rfl ?_)))
 cases o
 ·(repeat (first|simp only [↓QA,QB,Nat.reduceLT,reduceIte,Nat.reduceEqDiff,Nat.reduceAdd,Nat.reduceLeDiff,Nat.reduceMul,Nat.reduceBEq,eI,exN,P9,J2,List.map_cons,List.map_nil]|refine rd0 rfl ?_))
  simp [LH,kN,aK,uV,aL,AV.cells,AV.cell,BF,K2,PH,SQ,SG,I9,aZ,ints]
 ·have i0:(0:Int)≤0∧(0:Int)<((4:Nat):Int):=by decide
  have i2:(0:Int)≤2∧(2:Int)<((4:Nat):Int):=by decide
  (repeat (first|simp only [↓QA,QB,Nat.reduceLT,reduceIte,Nat.reduceEqDiff,Nat.reduceAdd,Nat.reduceLeDiff,Nat.reduceMul,Nat.reduceBEq,eI,exN,P9,J2,List.map_cons,List.map_nil,i0,i2,List.flatMap_cons,List.flatMap_nil,AV.cells,Int.toNat_zero,show (2:Int).toNat=2 from rfl]|refine rd0 rfl ?_))
  simp [LH,kN,aK,uV,aL,AV.cells,AV.cell,BF,K2,PH,SQ,SG,I9,aZ,ints]
theorem eJ (o:Bool) (l:List Seen) (h:l.length≤100:=by decide):Fits (exN o l):=⟨by simp [exN],by simp [exN],by simp [exN];omega,fun k hk=>by
 simp only [exN,List.mem_cons,List.not_mem_nil,or_false] at hk
 rcases hk with rfl|rfl<;>decide,fun k hk=>by
 simp only [exN,List.mem_cons,List.not_mem_nil,or_false] at hk
 rcases hk with rfl|rfl<;>decide⟩
theorem G6 (v:Net) (hf:Fits v):dY T 41 [bX v] (.bool (decide ((dL v).2.2=0))):=by
 refine bA (af:=a41) rfl (by simp [a41]) dd ?_
 (repeat (first|simp only [↓QA,QB,Nat.reduceLT,reduceIte,Nat.reduceEqDiff,Nat.reduceAdd,Nat.reduceLeDiff,Nat.reduceMul,Nat.reduceBEq,eI,a41]|refine rd0 rfl ?_))
 ((first|refine aE (yF v hf) rfl dd ?_|refine aF (yF v hf) rfl dd ?_);(repeat (first|simp only [↓QA,QB,Nat.reduceLT,reduceIte,Nat.reduceEqDiff,Nat.reduceAdd,Nat.reduceLeDiff,Nat.reduceMul,Nat.reduceBEq,eI,pA]|refine rd0 rfl ?_)))
 try rfl
 try (simp;rfl)
def qT (v:Net):Bool:=decide ((dL v).2.2=0)&&qZ v []
theorem vL (v:Net) (hf:Fits v):dY T 46 [bX v] (.bool (qT v)):=by
 refine bA (af:=a46) rfl (by simp [a46]) dd ?_
 (repeat (first|simp only [↓QA,QB,Nat.reduceLT,reduceIte,Nat.reduceEqDiff,Nat.reduceAdd,Nat.reduceLeDiff,Nat.reduceMul,Nat.reduceBEq,eI,a46]|refine rd0 rfl ?_))
 ((first|refine aE (G6 v hf) rfl dd ?_|refine aF (G6 v hf) rfl dd ?_);(repeat (first|simp only [↓QA,QB,Nat.reduceLT,reduceIte,Nat.reduceEqDiff,Nat.reduceAdd,Nat.reduceLeDiff,Nat.reduceMul,Nat.reduceBEq,eI]|refine rd0 rfl ?_)))
 cases h0:decide ((dL v).2.2=0)
 ·(repeat (first|simp only [↓QA,QB,Nat.reduceLT,reduceIte,Nat.reduceEqDiff,Nat.reduceAdd,Nat.reduceLeDiff,Nat.reduceMul,Nat.reduceBEq,eI,qT,h0,Bool.false_and]|refine rd0 rfl ?_))
 ·have hv:=hJ (by simpa using h0)
  have hs:=BC v hv [] (by simp)
  (repeat (first|simp only [↓QA,QB,Nat.reduceLT,reduceIte,Nat.reduceEqDiff,Nat.reduceAdd,Nat.reduceLeDiff,Nat.reduceMul,Nat.reduceBEq,eI]|refine rd0 rfl ?_))
  refine eN hs (GA v) (xS v) ?_
  (repeat (first|simp only [↓QA,QB,Nat.reduceLT,reduceIte,Nat.reduceEqDiff,Nat.reduceAdd,Nat.reduceLeDiff,Nat.reduceMul,Nat.reduceBEq,eI,qT,h0,Bool.true_and,fF]|refine rd0 rfl ?_))
  have e:decide ((0:Int)<(bF v []).length)=qZ v []:=by
   simp only [qZ]
   cases bF v []<;>simp
  rw [e]
theorem UZ (a b:List (List Int)) (ha:a.length<9223372036854775808) (hb:b.length<9223372036854775808) (hl:∀ r∈a,r.length<9223372036854775808) (hm:∀ r∈b,r.length<9223372036854775808):dY T 21 [aN a,aN b] (.bool (decide (a=b))):=by
 refine bA (af:=a21) rfl (by simp [a21]) dd ?_
 have hlb:=VT a.length b.length
 (repeat (first|simp only [↓QA,QB,Nat.reduceLT,reduceIte,Nat.reduceEqDiff,Nat.reduceAdd,Nat.reduceLeDiff,Nat.reduceMul,Nat.reduceBEq,eI,a21,bP]|refine rd0 rfl ?_))
 refine bY (S:=Nat×Bool) (0,decide (a.length=b.length)) (fun x=>x.1≤a.length∧(x.2=true→a.length=b.length∧a.take x.1=b.take x.1)∧(x.2=false→a≠b)) (fun x=>a.length+1-x.1-(if x.2=true then 0 else 1))
  (fun x=>[(0,aN a),(1,aN b),(5,.bool x.2),(6,.int .i64 x.1)]) (fun _=>[]) ⟨by simp,by simp,fun h e=>by rw [e] at h;simp at h⟩ rfl ?_ fun x hx=>?_
 ·try simp only [aC,QE,Nat.reduceLT,reduceIte,Nat.reduceEqDiff,Nat.reduceAdd,Nat.reduceLeDiff,Nat.reduceMul,Nat.reduceBEq,eI,bP,hlb]
  try simp
 ·obtain ⟨k,o⟩:=x
  obtain ⟨hk,h1,h2⟩:=hx
  simp only at hk h1 h2
  (repeat (first|simp only [↓QA,QB,Nat.reduceLT,reduceIte,Nat.reduceEqDiff,Nat.reduceAdd,Nat.reduceLeDiff,Nat.reduceMul,Nat.reduceBEq,eI,X9,bP]|refine rd0 rfl ?_))
  cases o
  ·have hne:=h2 rfl
   have:decide (a=b)=false:=by simpa using hne
   rw [this]
   (repeat (first|simp only [↓QA,QB,Nat.reduceLT,reduceIte,Nat.reduceEqDiff,Nat.reduceAdd,Nat.reduceLeDiff,Nat.reduceMul,Nat.reduceBEq,eI]|refine rd0 rfl ?_))
  ·obtain ⟨hle,htk⟩:=h1 rfl
   (repeat (first|simp only [↓QA,QB,Nat.reduceLT,reduceIte,Nat.reduceEqDiff,Nat.reduceAdd,Nat.reduceLeDiff,Nat.reduceMul,Nat.reduceBEq,eI,bP]|refine rd0 rfl ?_))
   refine aG (fun h=>?_) fun h=>?_
   ·have hk1:k<a.length:=by simpa using h
    have hk2:k<b.length:=by omega
    have hw:=bV hk1 ha
    have hio:=fU a[k] b[k] (hl _ (List.getElem_mem hk1)) (hm _ (List.getElem_mem hk2))
    (repeat (first|simp only [↓QA,QB,Nat.reduceLT,reduceIte,Nat.reduceEqDiff,Nat.reduceAdd,Nat.reduceLeDiff,Nat.reduceMul,Nat.reduceBEq,eI,hk1,hk2,bP]|refine rd0 rfl ?_))
    ((first|refine aE (hio) rfl dd ?_|refine aF (hio) rfl dd ?_);(repeat (first|simp only [↓QA,QB,Nat.reduceLT,reduceIte,Nat.reduceEqDiff,Nat.reduceAdd,Nat.reduceLeDiff,Nat.reduceMul,Nat.reduceBEq,eI,hk1,hk2]|refine rd0 rfl ?_)))
    refine ⟨(k+1,decide (a[k]=b[k])),⟨by simp only;omega,fun q=>⟨hle,?_⟩,fun q e=>?_⟩,?_,?_⟩
    ·rw [List.take_succ_eq_append_getElem hk1,List.take_succ_eq_append_getElem hk2,htk]
     simp only [decide_eq_true_eq] at q
     rw [q]
    ·subst e
     simp at q
    ·simp only;split<;>omega
    ·try simp only [aC,QE,Nat.reduceLT,reduceIte,Nat.reduceEqDiff,Nat.reduceAdd,Nat.reduceLeDiff,Nat.reduceMul,Nat.reduceBEq,eI,hw,bP]
   ·have hk1:k=a.length:=by simp at h;omega
    have:a=b:=by
     rw [hk1,List.take_length] at htk
     rw [htk,hle,List.take_length]
    rw [decide_eq_true this]
    (repeat (first|simp only [↓QA,QB,Nat.reduceLT,reduceIte,Nat.reduceEqDiff,Nat.reduceAdd,Nat.reduceLeDiff,Nat.reduceMul,Nat.reduceBEq,eI]|refine rd0 rfl ?_))
theorem NH {v:Net} {but:List Int}:qZ v but=true↔bF v but≠[]:=by
 rw [qZ]
 cases bF v but<;>simp
theorem BY {v:Net}:qT v=true↔(dL v).2.2=0∧bF v []≠[]:=by
 rw [qT,Bool.and_eq_true,decide_eq_true_eq,NH]
theorem aA1 {v:Net} (hs:qT v=true):eQ v=0:=by
 obtain ⟨hc,hne⟩:=BY.1 hs
 rw [eQ,hc]
 simp [gQ,hne]
theorem P4 {v:Net}:eQ v=0↔qT v=true:=by
 refine ⟨fun h=>BY.2 ?_,aA1⟩
 have:=m9 h
 refine ⟨?_,this.2⟩
 by_cases q:(dL v).2.2=0
 ·exact q
 ·simp [eQ,gQ,q] at h
theorem LY {v:Net} (hs:qT v=false):eQ v≠0:=fun h=>by
 rw [P4.1 h] at hs
 cases hs
theorem WK {v:Net} (hs:qT v=true):uU v=(HZ v (bF v []),xF v (bF v []),0):=if_pos (aA1 hs)
theorem WR {v:Net} (hs:qT v=true):jO v=match iZ v (bF v []) with|some p=>(p,dB v p,0)|none=>([],[],9):=if_pos (aA1 hs)
theorem O2 {v:Net} (hs:qT v=false):jO v=([],[],eQ v):=if_neg (LY hs)
theorem xG:∀ (l:List Int) {a b:Int},a<b→less (l++[a]) (l++[b])=true
 |[],a,b,h=>by simp [less,h];omega
 |x::l,a,b,h=>by simp [less,xG l h]
theorem w6:∀ {a b:List Int} (x y:List Int),a.length=b.length→less a b=true→less (a++x) (b++y)=true
 |[],[],x,y,_,h=>by simp [less] at h
 |a::az,b::bs,x,y,hl,h=>by
  simp only [less] at h
  simp only [List.cons_append,less]
  by_cases e:a=b
  ·rw [if_pos e] at h ⊢
   exact w6 x y (by simpa using hl) h
  ·rw [if_neg e] at h ⊢
   exact h
theorem B8:∀ (n:Nat) (a:Int),(aT a n).Pairwise (· < ·)
 |0,_=>.nil
 |n+1,a=>by
  rw [aT,List.pairwise_cons]
  refine ⟨fun x hx=>?_,B8 n (a+1)⟩
  rw [cF] at hx
  omega
theorem mB (v:Net) (but:List Int):∀ k,∀ l∈eD v but k,l.length=k
 |0,l,h=>by simp only [eD,List.mem_singleton] at h;rw [h];rfl
 |k+1,l,h=>by
  simp only [eD,List.mem_flatMap,n8,List.mem_map] at h
  obtain ⟨p,hp,r,_,rfl⟩:=h
  simp [mB v but k p hp]
theorem MD (v:Net) (but:List Int):∀ k,(eD v but k).Pairwise fun a b=>less a b=true
 |0=>List.pairwise_singleton _ _
 |k+1=>by
  rw [eD,List.pairwise_flatMap]
  refine ⟨fun l hl=>?_,(MD v but k).imp_of_mem fun {a b} ha hb h=>?_⟩
  ·rw [n8,List.pairwise_map]
   exact ((B8 _ _).filter _).imp fun h=>xG l h
  ·intro x hx y hy
   simp only [n8,List.mem_map] at hx hy
   obtain ⟨r,_,rfl⟩:=hx
   obtain ⟨r',_,rfl⟩:=hy
   exact w6 _ _ ((mB v but k a ha).trans (mB v but k b hb).symm) h
def JY (a b:List Int):Prop:=a.length<b.length∨(a.length=b.length∧less a b=true)
theorem AM {v:Net} {s:Int} {but:List Int}:∀ k,∀ l∈dS v s but k,l.length≤k
 |0,l,h=>by simp [dS] at h
 |k+1,l,h=>by
  rcases List.mem_append.1 h with h|h
  ·have:=AM k l h;omega
  ·rw [mB v but (k+1) l (List.mem_filter.1 h).1]
   exact Nat.le_refl _
theorem K6 (v:Net) (s:Int) (but:List Int):∀ k,(dS v s but k).Pairwise JY
 |0=>.nil
 |k+1=>by
  rw [dS,List.pairwise_append]
  refine ⟨K6 v s but k,((MD v but (k+1)).filter _).imp_of_mem fun {a b} ha hb h=>?_,fun a ha b hb=>?_⟩
  ·have h1:=mB v but (k+1) a (List.mem_filter.1 ha).1
   have h2:=mB v but (k+1) b (List.mem_filter.1 hb).1
   exact .inr ⟨h1.trans h2.symm,h⟩
  ·have h1:=AM k a ha
   have h2:=mB v but (k+1) b (List.mem_filter.1 hb).1
   exact .inl (by omega)
theorem F5 (v:Net) (s:Int) (but:List Int):(cJ v s but).Pairwise JY:=K6 v s but 4
theorem S9 {a:List Int}:¬JY a a:=by
 rintro (h|⟨_,h⟩)
 ·omega
 ·rw [kW] at h;cases h
theorem AI (v:Net) (s:Int) (but:List Int):(cJ v s but).Nodup:=by
 refine List.Pairwise.imp (fun {a b} h e=>?_) (F5 v s but)
 rw [e] at h
 exact S9 h
theorem BX {v:Net} {but:List Int}:∀ {k:Nat} {l:List Int},l∈eD v but k↔l.length=k∧l.Nodup∧∀ r∈l,0≤r∧r<v.rails.length∧(c9 v r).shut≠1∧r∉but
 |0,l=>by
  simp only [eD,List.mem_singleton]
  constructor
  ·rintro rfl;exact ⟨rfl,List.nodup_nil,fun r hr=>by cases hr⟩
  ·rintro ⟨h,_⟩;exact List.length_eq_zero_iff.1 h
 |k+1,l=>by
  simp only [eD,List.mem_flatMap,n8,List.mem_map,List.mem_filter,cF,pY,Bool.and_eq_true,Bool.not_eq_true',decide_eq_false_iff_not]
  constructor
  ·rintro ⟨p,hp,r,⟨hr,⟨h1,h2⟩,h3⟩,rfl⟩
   obtain ⟨p1,p2,p3⟩:=BX.1 hp
   have h2':r∉but:=fun q=>by rw [List.contains_iff_mem.2 q] at h2;cases h2
   have h3':r∉p:=fun q=>by rw [List.contains_iff_mem.2 q] at h3;cases h3
   refine ⟨by simp [p1],?_,fun x hx=>?_⟩
   ·rw [List.nodup_append]
    exact ⟨p2,by simp,fun a ha b hb e=>by simp at hb;subst hb;subst e;exact h3' ha⟩
   ·rcases List.mem_append.1 hx with hx|hx
    ·exact p3 x hx
    ·simp only [List.mem_singleton] at hx;subst hx;exact ⟨by omega,by omega,h1,h2'⟩
  ·rintro ⟨hl,hn,hr⟩
   have hne:l≠[]:=fun e=>by rw [e] at hl;simp at hl
   refine ⟨l.dropLast,BX.2 ⟨by simp [hl],?_,fun r h=>hr r (List.dropLast_subset l h)⟩,l.getLast hne,⟨?_,⟨?_,?_⟩,?_⟩,List.dropLast_concat_getLast hne⟩
   ·exact hn.sublist (List.dropLast_sublist l)
   ·have:=hr _ (List.getLast_mem hne);omega
   ·exact (hr _ (List.getLast_mem hne)).2.2.1
   ·have:=(hr _ (List.getLast_mem hne)).2.2.2
    rw [Bool.eq_false_iff]
    exact fun q=>this (List.contains_iff_mem.1 q)
   ·rw [Bool.eq_false_iff]
    intro q
    have hm:=List.contains_iff_mem.1 q
    rw [←List.dropLast_concat_getLast hne,List.nodup_append] at hn
    exact hn.2.2 _ hm _ (by simp) rfl
theorem BN {v:Net} {s:Int} {but l:List Int}:∀ {k:Nat},l∈dS v s but k↔(1≤l.length∧l.length≤k)∧l∈eD v but l.length∧d4 v s l=true
 |0=>⟨fun h=>by simp [dS] at h,fun h=>by omega⟩
 |k+1=>by
  rw [dS,List.mem_append,BN,List.mem_filter]
  constructor
  ·rintro (⟨h1,h2⟩|⟨h1,h2⟩)
   ·exact ⟨by omega,h2⟩
   ·have:=mB v but (k+1) l h1
    exact ⟨by omega,by rw [this];exact h1,h2⟩
  ·rintro ⟨h1,h2,h3⟩
   by_cases e:l.length=k+1
   ·exact .inr ⟨by rw [←e];exact h2,h3⟩
   ·exact .inl ⟨by omega,h2,h3⟩
theorem DQ {v:Net} {s:Int} {l:List Int} (h:d4 v s l=true):1≤l.length∧l.length≤4∧s≠0:=by
 rw [d4] at h
 split at h
 ·cases h
 ·rename_i q
  rw [not_or,Bool.not_eq_false,eK] at q
  exact ⟨by omega,by omega,q.2⟩
theorem GQ {v:Net} {s:Int} {l:List Int} (h:d4 v s l=true):l.Nodup:=by
 have hl:=DQ h
 rw [d4] at h
 split at h
 ·cases h
 ·rw [pV v l s [s] hl.2.2] at h
  cases q:fK v l s [s] with
  |none=>rw [q] at h;cases h
  |some o=>exact qJ v l s [s] o (by simp) q
theorem RH {v:Net} {s:Int} {l:List Int}:l∈cJ v s []↔d4 v s l=true∧∀ r∈l,0≤r∧r<v.rails.length∧(c9 v r).shut≠1:=by
 rw [cJ,BN,BX]
 constructor
 ·rintro ⟨_,⟨_,_,h⟩,h2⟩
  exact ⟨h2,fun r hr=>⟨(h r hr).1,(h r hr).2.1,(h r hr).2.2.1⟩⟩
 ·rintro ⟨h1,h2⟩
  have:=DQ h1
  exact ⟨by omega,⟨rfl,GQ h1,fun r hr=>⟨(h2 r hr).1,(h2 r hr).2.1,(h2 r hr).2.2,by simp⟩⟩,h1⟩
end Go.Am.Room
set_option maxRecDepth 8000
namespace Go.Am.Room
def dW:=And.intro @bD (And.intro @aI (And.intro @aX (And.intro @aW (And.intro @aV (And.intro @aS (And.intro @bC (And.intro @a9 (And.intro @aZ (And.intro @dH (And.intro @List.length_append.{0} (@bP)))))))))))
theorem DP (a:List (List Int)) (h:a.length≤1000∧∀ r∈a,r.length≤4):dY T 21 [aN a,aN a] (.bool true):=by
 have:=UZ a a (by omega) (by omega) (fun r hr=>by have:=h.2 r hr;omega) (fun r hr=>by have:=h.2 r hr;omega)
 simpa using this
set_option maxHeartbeats 1000000 in
theorem kS:dY T 22 [] (.bool true):=by
 refine bA (af:=a22) rfl (by simp [a22]) dD ?_
 (repeat (first|simp only [↓QA,QB,Nat.reduceLT,reduceIte,Nat.reduceEqDiff,Nat.reduceAdd,Nat.reduceLeDiff,Nat.reduceMul,Nat.reduceBEq,dW,a22]|refine rd0 rfl ?_))
 refine eN (wA false []) (by simp [clr,clrs]) (by simp [okV,okVs]) ?_
 (repeat (first|simp only [↓QA,QB,Nat.reduceLT,reduceIte,Nat.reduceEqDiff,Nat.reduceAdd,Nat.reduceLeDiff,Nat.reduceMul,Nat.reduceBEq,dW]|refine rd0 rfl ?_))
 refine eN (wA true []) (by simp [clr,clrs]) (by simp [okV,okVs]) ?_
 (repeat (first|simp only [↓QA,QB,Nat.reduceLT,reduceIte,Nat.reduceEqDiff,Nat.reduceAdd,Nat.reduceLeDiff,Nat.reduceMul,Nat.reduceBEq,dW]|refine rd0 rfl ?_))
 ((first|refine aE (D1 0 (-1)) rfl dd ?_|refine aF (D1 0 (-1)) rfl dd ?_);(repeat (first|simp only [↓QA,QB,Nat.reduceLT,reduceIte,Nat.reduceEqDiff,Nat.reduceAdd,Nat.reduceLeDiff,Nat.reduceMul,Nat.reduceBEq,dW]|refine rd0 rfl ?_)))
 ((first|refine aE (D1 1 15) rfl dd ?_|refine aF (D1 1 15) rfl dd ?_);(repeat (first|simp only [↓QA,QB,Nat.reduceLT,reduceIte,Nat.reduceEqDiff,Nat.reduceAdd,Nat.reduceLeDiff,Nat.reduceMul,Nat.reduceBEq,dW]|refine rd0 rfl ?_)))
 refine eN (wA true [⟨0,-1⟩,⟨1,15⟩]) (by simp [clr,clrs,eL]) (by simp [okV,okVs]) ?_
 (repeat (first|simp only [↓QA,QB,Nat.reduceLT,reduceIte,Nat.reduceEqDiff,Nat.reduceAdd,Nat.reduceLeDiff,Nat.reduceMul,Nat.reduceBEq,dW]|refine rd0 rfl ?_))
 ((first|refine aE (D1 0 (-1)) rfl dd ?_|refine aF (D1 0 (-1)) rfl dd ?_);(repeat (first|simp only [↓QA,QB,Nat.reduceLT,reduceIte,Nat.reduceEqDiff,Nat.reduceAdd,Nat.reduceLeDiff,Nat.reduceMul,Nat.reduceBEq,dW]|refine rd0 rfl ?_)))
 refine eN (wA true [⟨0,-1⟩]) (by simp [clr,clrs,eL]) (by simp [okV,okVs]) ?_
 (repeat (first|simp only [↓QA,QB,Nat.reduceLT,reduceIte,Nat.reduceEqDiff,Nat.reduceAdd,Nat.reduceLeDiff,Nat.reduceMul,Nat.reduceBEq,dW]|refine rd0 rfl ?_))
 ((first|refine aE (EA exH (eJ _ _) 3) rfl dd ?_|refine aF (EA exH (eJ _ _) 3) rfl dd ?_);(repeat (first|simp only [↓QA,QB,Nat.reduceLT,reduceIte,Nat.reduceEqDiff,Nat.reduceAdd,Nat.reduceLeDiff,Nat.reduceMul,Nat.reduceBEq,dW,x1,B1]|refine rd0 rfl ?_)))
 ((first|refine aE (nE exH (eJ _ _) 1) rfl dd ?_|refine aF (nE exH (eJ _ _) 1) rfl dd ?_);(repeat (first|simp only [↓QA,QB,Nat.reduceLT,reduceIte,Nat.reduceEqDiff,Nat.reduceAdd,Nat.reduceLeDiff,Nat.reduceMul,Nat.reduceBEq,dW,x2,rT]|refine rd0 rfl ?_)))
 ((first|refine aE (nE exK (eJ _ _) 1) rfl dd ?_|refine aF (nE exK (eJ _ _) 1) rfl dd ?_);(repeat (first|simp only [↓QA,QB,Nat.reduceLT,reduceIte,Nat.reduceEqDiff,Nat.reduceAdd,Nat.reduceLeDiff,Nat.reduceMul,Nat.reduceBEq,dW,x3,rT]|refine rd0 rfl ?_)))
 ((first|refine aE (nE exT (eJ _ _) 0) rfl dd ?_|refine aF (nE exT (eJ _ _) 0) rfl dd ?_);(repeat (first|simp only [↓QA,QB,Nat.reduceLT,reduceIte,Nat.reduceEqDiff,Nat.reduceAdd,Nat.reduceLeDiff,Nat.reduceMul,Nat.reduceBEq,dW,x4,rT]|refine rd0 rfl ?_)))
 ((first|refine aE (vI exK (eJ _ _)) rfl dd ?_|refine aF (vI exK (eJ _ _)) rfl dd ?_);(repeat (first|simp only [↓QA,QB,Nat.reduceLT,reduceIte,Nat.reduceEqDiff,Nat.reduceAdd,Nat.reduceLeDiff,Nat.reduceMul,Nat.reduceBEq,dW,x5,qP]|refine rd0 rfl ?_)))
 ((first|refine aE (nD exK (eJ _ _)) rfl dd ?_|refine aF (nD exK (eJ _ _)) rfl dd ?_);(repeat (first|simp only [↓QA,QB,Nat.reduceLT,reduceIte,Nat.reduceEqDiff,Nat.reduceAdd,Nat.reduceLeDiff,Nat.reduceMul,Nat.reduceBEq,dW,x6,AR]|refine rd0 rfl ?_)))
 ((first|refine aE (nD exH (eJ _ _)) rfl dd ?_|refine aF (nD exH (eJ _ _)) rfl dd ?_);(repeat (first|simp only [↓QA,QB,Nat.reduceLT,reduceIte,Nat.reduceEqDiff,Nat.reduceAdd,Nat.reduceLeDiff,Nat.reduceMul,Nat.reduceBEq,dW,x7,AR]|refine rd0 rfl ?_)))
 ((first|refine aE (pG exK (eJ _ _)) rfl dd ?_|refine aF (pG exK (eJ _ _)) rfl dd ?_);(repeat (first|simp only [↓QA,QB,Nat.reduceLT,reduceIte,Nat.reduceEqDiff,Nat.reduceAdd,Nat.reduceLeDiff,Nat.reduceMul,Nat.reduceBEq,dW,x8,pQ]|refine rd0 rfl ?_)))
 ((first|refine aE (IB exH (eJ _ _)) rfl dd ?_|refine aF (IB exH (eJ _ _)) rfl dd ?_);(repeat (first|simp only [↓QA,QB,Nat.reduceLT,reduceIte,Nat.reduceEqDiff,Nat.reduceAdd,Nat.reduceLeDiff,Nat.reduceMul,Nat.reduceBEq,dW,x9,qP]|refine rd0 rfl ?_)))
 ((first|refine aE (C0 exH (eJ _ _)) rfl dd ?_|refine aF (C0 exH (eJ _ _)) rfl dd ?_);(repeat (first|simp only [↓QA,QB,Nat.reduceLT,reduceIte,Nat.reduceEqDiff,Nat.reduceAdd,Nat.reduceLeDiff,Nat.reduceMul,Nat.reduceBEq,dW,x10,zP]|refine rd0 rfl ?_)))
 ((first|refine aE (DB exS (eJ _ _)) rfl dd ?_|refine aF (DB exS (eJ _ _)) rfl dd ?_);(repeat (first|simp only [↓QA,QB,Nat.reduceLT,reduceIte,Nat.reduceEqDiff,Nat.reduceAdd,Nat.reduceLeDiff,Nat.reduceMul,Nat.reduceBEq,dW,x11,ME]|refine rd0 rfl ?_)))
 ((first|refine aE (nD exS (eJ _ _)) rfl dd ?_|refine aF (nD exS (eJ _ _)) rfl dd ?_);(repeat (first|simp only [↓QA,QB,Nat.reduceLT,reduceIte,Nat.reduceEqDiff,Nat.reduceAdd,Nat.reduceLeDiff,Nat.reduceMul,Nat.reduceBEq,dW,x12,AR]|refine rd0 rfl ?_)))
 refine fA (DP [[3,2],[3,1,0]] (by simp)) (by simp [clr,clrs,ints,aN]) (by simp [okV,okVs,ints,aN]) ?_
 (repeat (first|simp only [↓QA,QB,Nat.reduceLT,reduceIte,Nat.reduceEqDiff,Nat.reduceAdd,Nat.reduceLeDiff,Nat.reduceMul,Nat.reduceBEq,dW]|refine rd0 rfl ?_))
 ((first|refine aE (lN 14 16) rfl dd ?_|refine aF (lN 14 16) rfl dd ?_);(repeat (first|simp only [↓QA,QB,Nat.reduceLT,reduceIte,Nat.reduceEqDiff,Nat.reduceAdd,Nat.reduceLeDiff,Nat.reduceMul,Nat.reduceBEq,dW,List.map_nil,List.length_nil,show (((0:Nat):Int)==0)=true from rfl]|refine rd0 rfl ?_)))
 ((first|refine eN (fU [0,1] [0,1] (by simp) (by simp)) (by simp [clr,clrs,ints]) (by simp [okV,okVs]) ?_|refine fA (fU [0,1] [0,1] (by simp) (by simp)) (by simp [clr,clrs,ints]) (by simp [okV,okVs]) ?_);(repeat (first|simp only [↓QA,QB,Nat.reduceLT,reduceIte,Nat.reduceEqDiff,Nat.reduceAdd,Nat.reduceLeDiff,Nat.reduceMul,Nat.reduceBEq,dW,eq_self,List.map_nil,List.length_nil,show (((0:Nat):Int)==0)=true from rfl]|refine rd0 rfl ?_)))
 refine fA (DP [[2],[3,2]] (by simp)) (by simp [clr,clrs,ints,aN]) (by simp [okV,okVs,ints,aN]) ?_
 (repeat (first|simp only [↓QA,QB,Nat.reduceLT,reduceIte,Nat.reduceEqDiff,Nat.reduceAdd,Nat.reduceLeDiff,Nat.reduceMul,Nat.reduceBEq,dW]|refine rd0 rfl ?_))
 ((first|refine eN (fU [0,1] [0,1] (by simp) (by simp)) (by simp [clr,clrs,ints]) (by simp [okV,okVs]) ?_|refine fA (fU [0,1] [0,1] (by simp) (by simp)) (by simp [clr,clrs,ints]) (by simp [okV,okVs]) ?_);(repeat (first|simp only [↓QA,QB,Nat.reduceLT,reduceIte,Nat.reduceEqDiff,Nat.reduceAdd,Nat.reduceLeDiff,Nat.reduceMul,Nat.reduceBEq,dW,eq_self,List.map_nil,List.length_nil,show (((0:Nat):Int)==0)=true from rfl]|refine rd0 rfl ?_)))
 ((first|refine eN (fU [2] [2] (by simp) (by simp)) (by simp [clr,clrs,ints]) (by simp [okV,okVs]) ?_|refine fA (fU [2] [2] (by simp) (by simp)) (by simp [clr,clrs,ints]) (by simp [okV,okVs]) ?_);(repeat (first|simp only [↓QA,QB,Nat.reduceLT,reduceIte,Nat.reduceEqDiff,Nat.reduceAdd,Nat.reduceLeDiff,Nat.reduceMul,Nat.reduceBEq,dW,eq_self]|refine rd0 rfl ?_)))
 ((first|refine eN (fU [1] [1] (by simp) (by simp)) (by simp [clr,clrs,ints]) (by simp [okV,okVs]) ?_|refine fA (fU [1] [1] (by simp) (by simp)) (by simp [clr,clrs,ints]) (by simp [okV,okVs]) ?_);(repeat (first|simp only [↓QA,QB,Nat.reduceLT,reduceIte,Nat.reduceEqDiff,Nat.reduceAdd,Nat.reduceLeDiff,Nat.reduceMul,Nat.reduceBEq,dW,eq_self]|refine rd0 rfl ?_)))
theorem mV {v:Net} {l:List State}:∀ {k m:Nat} {p:List (List Int)},iI v l k m=some p→p∈iD v∧mR v l p=true∧m≤(dB v p).length∧(dB v p).length<m+k
 |0,m,p,h=>by simp [iI] at h
 |k+1,m,p,h=>by
  simp only [iI] at h
  split at h
  ·rename_i q hq
   cases h
   have h1:=List.find?_some hq
   rw [pZ,Bool.and_eq_true,beq_iff_eq] at h1
   exact ⟨List.mem_of_find?_eq_some hq,h1.2,by omega,by omega⟩
  ·have:=mV h
   exact ⟨this.1,this.2.1,by omega,by omega⟩
theorem VY (v:Net):((jO v).1.length≤1000∧∀ r∈(jO v).1,r.length≤4)∧(jO v).2.1.length≤3:=by
 unfold jO
 split
 ·rename_i h0
  have hv:=(m9 h0).1
  have hn:=hv.ntr
  split
  ·rename_i p hp
   have hm:=(mV hp).1
   have hl:=jK v _ p hm
   have hr:=tP hm
   have h2:=wQ v p
   exact ⟨⟨by simp only;omega,fun r hr2=>hr.few r hr2⟩,by simp only;omega⟩
  ·simp
 ·simp
end Go.Am.Room
set_option maxRecDepth 8000
namespace Go.Am.Room
theorem WU (p:Int→Bool) {k:Nat} {d:Int} (h:0≤d∧d<k):((aT 0 k).filter p).contains d=p d:=by
 rw [Bool.eq_iff_iff,List.contains_iff_mem,List.mem_filter,cF]
 constructor
 ·exact fun h=>h.2
 ·exact fun h2=>⟨by omega,h2⟩
theorem RV {v:Net} {l:List State} {s:State} (hs:s∈l) {t:Nat} (ht:t<v.trams.length) (h:iR v t (d8 (iF v s) t)=false):(xF v l).contains (t:Int)=true:=by
 rw [xF,WU _ (by omega),zG,List.any_eq_true]
 exact ⟨s,hs,by rw [A9,Int.toNat_natCast,h];rfl⟩
theorem aHA (l:List Int):((l.length:Int)==0)=l.isEmpty:=by cases l<;>simp<;>omega
def XP (v:Net) (l:List Seen):Net:={ v with seen:=l }
def more (v:Net) (x:Seen):Net:=XP v (v.seen++[x])
def aB6 (C:List Int) (y:Seen):Seen:=⟨y.tram,d8 C y.tram⟩
def told (v:Net) (C:List Int):Net:=XP v (v.seen.map (aB6 C))
def aFP (v:Net) (r:Int):Int:=(c9 v r).mins.lo
def aDF (v:Net) (r:Int):Int:=(c9 v r).mins.hi
theorem H8 {v:Net} (m:Int→Int) (ps:List (List Int)):∀ (n t:Nat),t<n→d8 (dP v m ps n).2 (t:Int)=(jZ m t (lT v t) (cH ps t) (dP v m ps t).1).2
 |0,t,h=>by omega
 |n+1,t,h=>by
  have hl:=oE v m ps n
  by_cases e:t=n
  ·subst e
   simp only [dP,d8,Int.toNat_natCast]
   rw [List.getElem?_append_right (by omega)]
   simp [hl]
  ·have:=H8 (v:=v) m ps n t (by omega)
   rw [←this]
   simp only [dP,d8,Int.toNat_natCast]
   rw [List.getElem?_append_left (by omega)]
theorem aBG {v:Net} {s:State} (hs:s∈gV v) {r:Int} (h:0≤r∧r<v.rails.length):(eff s r=0∧(c9 v r).shut≠0)∨((c9 v r).shut≠1∧aFP v r≤eff s r∧eff s r≤aDF v r):=by
 obtain ⟨k,rfl⟩:∃ k:Nat,r=k:=⟨r.toNat,by omega⟩
 obtain ⟨h1,h2,h3⟩:=sS v.rails.length (Nat.le_refl _) s hs
 have hk:k<v.rails.length:=by omega
 have h4:=h3.2 k hk hk
 have he:=congrFun (FG (s:=s) (by omega)) (k:Int)
 simp only [rlI,Int.toNat_natCast] at he
 rw [←he] at h4
 have hr:c9 v (k:Int)=v.rails[k]:=by simp [c9,hk]
 rw [aFP,aDF,hr]
 obtain ⟨z,hz⟩:∃ z,v.rails[k]=z:=⟨_,rfl⟩
 rw [hz] at h4 ⊢
 rw [chP,List.mem_append] at h4
 rcases h4 with h4|h4
 ·split at h4
  ·cases h4
  ·exact .inl ⟨by simpa using h4,by assumption⟩
 ·split at h4
  ·cases h4
  ·exact .inr ⟨by assumption,lC.1 h4⟩
theorem TJ {v:Net} {s:State} {t:Nat} (ht:t<v.trams.length):d8 (iF v s) (t:Int)=(jZ (eff s) t v.trams[t].leaves v.trams[t].path (dP v (eff s) (gR v) t).1).2:=by
 rw [iF,gE,H8 _ _ _ _ ht,s9 ht,xH ht]
theorem N3 {m:Int→Int} {l:List Int} (h:l.any (fun r=>m r==0)=false):∀ r∈l,m r≠0:=fun r hr=>by
 have:=List.any_eq_false.1 h r hr
 simpa using this
def rH (L:List (List Int)) (w:List Int):Nat→Int
 |0=>-1
 |k+1=>if L[k]? = some w then (k:Int) else rH L w k
def v6 (L:List (List Int)) (w:List Int):Int:=rH L w L.length
theorem IM {L:List (List Int)} {w:List Int} {i:Nat} (hn:L.Nodup) (hi:i<L.length) (h:L[i]=w):∀ k,i<k→rH L w k=i
 |0,hk=>by omega
 |k+1,hk=>by
  rw [rH]
  by_cases e:L[k]? = some w
  ·rw [if_pos e]
   obtain ⟨hk2,he⟩:=List.getElem?_eq_some_iff.1 e
   have:=(List.getElem_inj hn (h₀:=hi) (h₁:=hk2)).1 (h.trans he.symm)
   rw [this]
  ·rw [if_neg e]
   refine IM hn hi h k ?_
   by_cases q:i=k
   ·subst q
    rw [List.getElem?_eq_getElem hi,h] at e
    exact absurd rfl e
   ·omega
theorem KH {L:List (List Int)} {i:Nat} (hn:L.Nodup) (hi:i<L.length):v6 L L[i]=i:=IM hn hi rfl _ hi
theorem T6 {L:List (List Int)} {w:List Int} (h:w∈L) (hn:L.Nodup):0≤v6 L w:=by
 obtain ⟨i,hi,rfl⟩:=List.getElem_of_mem h
 rw [KH hn hi]
 omega
def jM (v:Net) (t:Nat):List (List Int):=cJ v (eR v t) []
def mH (v:Net) (ps:List (List Int)):Nat→List Int
 |0=>[]
 |k+1=>mH v ps k++[v6 (jM v k) (cH ps k)]
theorem o7 (v:Net) (ps:List (List Int)):∀ k,(mH v ps k).length=k
 |0=>rfl
 |k+1=>by simp [mH,o7 v ps k]
theorem IJ (v:Net) (p:List (List Int)) (w:List Int):∀ k,k≤p.length→mH v (p++[w]) k=mH v p k
 |0,_=>rfl
 |k+1,h=>by rw [mH,mH,IJ v p w k (by omega),nJ (by omega)]
theorem sX (v:Net) {p:List (List Int)} {k:Nat} (h:p.length=k) (w:List Int):mH v (p++[w]) (k+1)=mH v p k++[v6 (jM v k) w]:=by
 rw [mH,IJ v p w k (by omega)]
 have:cH (p++[w]) k=w:=by simp [cH,←h]
 rw [this]
theorem GU (v:Net):∀ k,(iU v k).Pairwise fun p q=>less (mH v p k) (mH v q k)=true
 |0=>List.pairwise_singleton _ _
 |k+1=>by
  rw [iU,List.pairwise_flatMap]
  refine ⟨fun p hp=>?_,(GU v k).imp_of_mem fun {a b} ha hb h=>?_⟩
  ·have hl:=jK v k p hp
   have hn:=AI v (eR v k) []
   rw [List.pairwise_map,List.pairwise_iff_getElem]
   intro i j hi hj hij
   rw [sX v hl,sX v hl]
   have e1:v6 (jM v k) (cJ v (eR v k) [])[i]=i:=KH hn hi
   have e2:v6 (jM v k) (cJ v (eR v k) [])[j]=j:=KH hn hj
   rw [e1,e2]
   exact xG _ (by omega)
  ·intro x hx y hy
   obtain ⟨w,_,rfl⟩:=List.mem_map.1 hx
   obtain ⟨w',_,rfl⟩:=List.mem_map.1 hy
   rw [sX v (jK v k a ha),sX v (jK v k b hb)]
   exact w6 _ _ (by rw [o7,o7]) h
theorem rM {v:Net}:∀ {k:Nat} {p:List (List Int)},p∈iU v k↔p.length=k∧∀ t,t<k→cH p t∈jM v t
 |0,p=>by
  simp only [iU,List.mem_singleton]
  exact ⟨fun h=>by subst h;exact ⟨rfl,fun t h=>by omega⟩,fun h=>List.length_eq_zero_iff.1 h.1⟩
 |k+1,p=>by
  simp only [iU,List.mem_flatMap,List.mem_map]
  constructor
  ·rintro ⟨q,hq,w,hw,rfl⟩
   obtain ⟨h1,h2⟩:=rM.1 hq
   refine ⟨by simp [h1],fun t ht=>?_⟩
   by_cases e:t=k
   ·subst e
    have:cH (q++[w]) t=w:=by simp [cH,←h1]
    rw [this]
    exact hw
   ·rw [nJ (by omega)]
    exact h2 t (by omega)
  ·rintro ⟨hl,h⟩
   have hne:p≠[]:=fun e=>by rw [e] at hl;simp at hl
   have hq:=List.dropLast_concat_getLast hne
   have hdl:p.dropLast.length=k:=by simp [hl]
   refine ⟨p.dropLast,rM.2 ⟨hdl,fun t ht=>?_⟩,p.getLast hne,?_,hq⟩
   ·have:=h t (by omega)
    rw [←hq,nJ (by omega)] at this
    exact this
   ·have:=h k (by omega)
    rw [←hq] at this
    have e:cH (p.dropLast++[p.getLast hne]) k=p.getLast hne:=by simp [cH,←hdl]
    rw [e] at this
    exact this
theorem B4 {α:Type} {R:α→α→Prop} {q:α→Bool}:∀ {l:List α} {b:α},l.Pairwise R→l.find? q=some b→∀ o∈l,q o=true→o=b∨R b o
 |[],_,_,h,_,_,_=>by simp at h
 |a::l,b,hp,h,o,ho,hq=>by
  rw [List.pairwise_cons] at hp
  rw [List.find?_cons] at h
  cases ha:q a
  ·rw [ha] at h
   rcases List.mem_cons.1 ho with e|ho
   ·subst e;rw [ha] at hq;cases hq
   ·exact B4 hp.2 h o ho hq
  ·rw [ha] at h
   simp only [Option.some.injEq] at h
   subst h
   rcases List.mem_cons.1 ho with e|ho
   ·exact .inl e
   ·exact .inr (hp.1 o ho)
theorem C5 {v:Net} {l:List State}:∀ {k m:Nat} {p:List (List Int)},iI v l k m=some p→(∀ o∈iD v,mR v l o=true→m≤(dB v o).length)→∀ o∈iD v,mR v l o=true→(dB v p).length<(dB v o).length∨((dB v p).length=(dB v o).length∧less (mH v o v.trams.length) (mH v p v.trams.length)=false)
 |0,m,p,h,_=>by simp [iI] at h
 |k+1,m,p,h,hm=>by
  intro o ho hd
  simp only [iI] at h
  split at h
  ·rename_i b hb
   cases h
   have h1:=List.find?_some hb
   rw [pZ,Bool.and_eq_true,beq_iff_eq] at h1
   have h2:=hm o ho hd
   by_cases e:(dB v o).length=m
   ·refine .inr ⟨by omega,?_⟩
    have hok:pZ v l m o=true:=by rw [pZ,hd,e];simp
    rcases B4 (GU v v.trams.length) hb o ho hok with q|q
    ·rw [q];exact kW _
    ·rw [Bool.eq_false_iff]
     intro q2
     have:=p9 q q2
     rw [kW] at this
     cases this
   ·exact .inl (by omega)
  ·rename_i hb
   refine C5 h (fun o ho hd=>?_) o ho hd
   have h2:=hm o ho hd
   have h3:=List.find?_eq_none.1 hb o ho
   rw [pZ,hd,Bool.and_true,beq_iff_eq] at h3
   omega
theorem DY {v:Net} {l:List State}:∀ {k m:Nat},iI v l k m=none→∀ o∈iD v,mR v l o=true→(dB v o).length<m∨m+k≤(dB v o).length
 |0,m,h,o,ho,hd=>by omega
 |k+1,m,h,o,ho,hd=>by
  simp only [iI] at h
  split at h
  ·cases h
  ·rename_i hb
   have h3:=List.find?_eq_none.1 hb o ho
   rw [pZ,hd,Bool.and_true,beq_iff_eq] at h3
   have:=DY h o ho hd
   omega
theorem NJ {v:Net} {l:List State} {p:List (List Int)} (h:iZ v l=some p):p∈iD v∧mR v l p=true∧∀ o∈iD v,mR v l o=true→(dB v p).length<(dB v o).length∨((dB v p).length=(dB v o).length∧less (mH v o v.trams.length) (mH v p v.trams.length)=false) :=
 ⟨(mV h).1,(mV h).2.1,C5 h fun o _ _=>Nat.zero_le _⟩
theorem M4 {v:Net} {l:List State} (h:iZ v l=none):∀ o∈iD v,mR v l o=false:=fun o ho=>by
 cases hd:mR v l o
 ·rfl
 ·have h1:=DY h o ho hd
  have h2:=wQ v o
  have h3:=jK v _ o ho
  omega
theorem OH (v:Net):dB v (gR v)=[]:=by
 rw [dB,List.filter_eq_nil_iff]
 intro t _
 simp
theorem O5 {v:Net} (hv:Vd v) {ts:List State} (hts:∀ s∈ts,s∈gV v) (hne:ts≠[]) (h:xF v ts=[]):gR v∈iD v∧mR v ts (gR v)=true:=by
 have hin:∀ s∈ts,∀ t,t<v.trams.length→iR v t (d8 (iF v s) t)=true:=fun s hs t ht=>by
  cases q:iR v t (d8 (iF v s) t)
  ·have:=RV hs ht q
   rw [h] at this
   cases this
  ·rfl
 constructor
 ·refine rM.2 ⟨by simp [gR],fun t ht=>?_⟩
  obtain ⟨s,hs⟩:=List.exists_mem_of_ne_nil _ hne
  have h1:=hin s hs t ht
  have h2:=sD hv ht
  rw [xH ht,jM,tM ht]
  refine RH.2 ⟨h2.leads,fun r hr=>⟨(h2.path r hr).1,(h2.path r hr).2,?_⟩⟩
  rw [TJ ht,jZ] at h1
  cases q:v.trams[t].path.any (fun r=>eff s r==0)
  ·rcases aBG (hts s hs) (h2.path r hr) with c|c
   ·exact absurd c.1 (N3 q r hr)
   ·exact c.1
  ·simp [q,iR] at h1
 ·rw [mR,List.all_eq_true]
  intro s hs
  rw [xM,List.all_eq_true]
  intro t ht
  exact hin s hs t (by simpa using ht)
end Go.Am.Room
set_option maxRecDepth 8000
namespace Go.Am.Room
def gO:=And.intro @bD (And.intro @aI (And.intro @aX (And.intro @aW (And.intro @aV (And.intro @aS (And.intro @bC (And.intro @a9 (And.intro @aZ (And.intro @dH (And.intro @List.length_append.{0} (And.intro @Int.toNat_natCast (@bP))))))))))))
theorem I2 {L:List (List Int)} {w:List Int} {k:Nat} (h:k<L.length):rH L w (k+1)=if L[k]=w then (k:Int) else rH L w k:=by
 rw [rH,List.getElem?_eq_getElem h]
 simp only [Option.some.injEq]
set_option maxHeartbeats 1000000 in
theorem DJ (v:Net) (hv:Vd v) (p:List (List Int)) (hp:p∈iD v):dY T 54 [bX v,aN p] (.tuple [ints (mH v p v.trams.length),.bool true]):=by
 refine bA (af:=a54) rfl (by simp [a54]) dd ?_
 obtain ⟨hpl,hpm⟩:=rM.1 hp
 have hnt:=hv.ntr
 have hst:=hv.st
 have hrow:=(tP hp).few
 have g0:((p.length:Int)==(v.trams.length:Int))=true:=by rw [hpl];simp
 (repeat (first|simp only [↓QA,QB,Nat.reduceLT,reduceIte,Nat.reduceEqDiff,Nat.reduceAdd,Nat.reduceLeDiff,Nat.reduceMul,Nat.reduceBEq,gO,a54,g0]|refine rd0 rfl ?_))
 refine jP 6 1 [] rfl ?_
 refine bY (S:=Nat×Bool) (0,false) (fun x=>x.1≤p.length) (fun x=>p.length-x.1)
  (fun x=>[(1,aN p),(2,.ptr 0 0),(6,.lit ((mH v p x.1).map (.int .i64)) false (some 1)),(7,.int .i64 x.1)]) (fun x=>[.cells (aB v),.tok 1 x.1 x.2]) (Nat.zero_le _) (by simp [aB,ints,mH]) ?_ fun x hx=>?_
 ·try simp only [aC,QE,Nat.reduceLT,reduceIte,Nat.reduceEqDiff,Nat.reduceAdd,Nat.reduceLeDiff,Nat.reduceMul,Nat.reduceBEq,gO,mH]
  try simp
 ·obtain ⟨t,ex⟩:=x
  simp only at hx
  (repeat (first|simp only [↓QA,QB,Nat.reduceLT,reduceIte,Nat.reduceEqDiff,Nat.reduceAdd,Nat.reduceLeDiff,Nat.reduceMul,Nat.reduceBEq,gO,ZQ]|refine rd0 rfl ?_))
  refine aG (fun hd=>?_) fun hd=>?_
  ·have ht1:t<p.length:=by simpa using hd
   have ht2:t<v.trams.length:=by omega
   have hw:=bV ht1 (by omega)
   have hmem:=hpm t ht2
   have hto:=sD hv ht2
   have hfr:=tM ht2
   have hpa:cH p t=p[t]:=zA ht1
   have hwn:=AI v (eR v t) []
   have hwl:=u5 hv.nra (eR v t) []
   have hwi:=fun l (h:l∈cJ v (eR v t) [])=>(zF h).1
   have hpn:=T6 hmem hwn
   have hpe:mH v p (t+1)=mH v p t++[v6 (jM v t) (cH p t)]:=rfl
   have hpln:=o7 v p t
   have hrl:=hrow _ (List.getElem_mem ht1)
   rw [hpa] at hpn hpe
   obtain ⟨z,hz⟩:∃ z,v.trams[t]=z:=⟨_,rfl⟩
   rw [hz] at hto hfr
   simp only [jM,hfr] at hwn hwl hwi hpn hpe
   obtain ⟨W,hW⟩:∃ W,cJ v z.frm []=W:=⟨_,rfl⟩
   rw [hW] at hwn hwl hpn hpe
   simp only [hW] at hwi
   obtain ⟨P,hP⟩:∃ P,p[t]=P:=⟨_,rfl⟩
   rw [hP] at hpn hpe hrl
   obtain ⟨A,hA⟩:∃ A,mH v p t=A:=⟨_,rfl⟩
   rw [hA] at hpe hpln
   (repeat (first|simp only [↓QA,QB,Nat.reduceLT,reduceIte,Nat.reduceEqDiff,Nat.reduceAdd,Nat.reduceLeDiff,Nat.reduceMul,Nat.reduceBEq,gO,ht2,hz]|refine rd0 rfl ?_))
   refine fA (F7 v hv z.frm [] (by simp)) (KZ v z.frm) (BJ v z.frm) ?_
   (repeat (first|simp only [↓QA,QB,Nat.reduceLT,reduceIte,Nat.reduceEqDiff,Nat.reduceAdd,Nat.reduceLeDiff,Nat.reduceMul,Nat.reduceBEq,gO,ht2,hz,hW,hA]|refine rd0 rfl ?_))
   refine bY (S:=Nat) 0 (fun i=>i≤W.length) (fun i=>W.length-i)
    (fun i=>[(1,aN p),(2,.ptr 0 0),(6,.lit (A.map (.int .i64)) false (some 1)),(7,.int .i64 t),(8,aN W),(9,.int .i64 (rH W P i)),(10,.int .i64 i)]) (fun _=>[.cells (aB v),.tok 1 t ex]) (Nat.zero_le _) (by simp [aB,ints,rH]) ?_ fun i hi=>?_
   ·try simp only [aC,QE,Nat.reduceLT,reduceIte,Nat.reduceEqDiff,Nat.reduceAdd,Nat.reduceLeDiff,Nat.reduceMul,Nat.reduceBEq,gO,rH]
    try simp
   ·(repeat (first|simp only [↓QA,QB,Nat.reduceLT,reduceIte,Nat.reduceEqDiff,Nat.reduceAdd,Nat.reduceLeDiff,Nat.reduceMul,Nat.reduceBEq,gO,YY]|refine rd0 rfl ?_))
    refine aG (fun hd2=>?_) fun hd2=>?_
    ·have hi1:i<W.length:=by simpa using hd2
     have hwi2:=bV hi1 (by omega)
     have hps:=I2 (w:=P) hi1
     have hil:=hwi _ (List.getElem_mem hi1)
     (repeat (first|simp only [↓QA,QB,Nat.reduceLT,reduceIte,Nat.reduceEqDiff,Nat.reduceAdd,Nat.reduceLeDiff,Nat.reduceMul,Nat.reduceBEq,gO,hi1,ht1,hP]|refine rd0 rfl ?_))
     ((first|refine aE (fU W[i] P (by omega) (by omega)) rfl dd ?_|refine aF (fU W[i] P (by omega) (by omega)) rfl dd ?_);(repeat (first|simp only [↓QA,QB,Nat.reduceLT,reduceIte,Nat.reduceEqDiff,Nat.reduceAdd,Nat.reduceLeDiff,Nat.reduceMul,Nat.reduceBEq,gO,hi1,ht1,hP]|refine rd0 rfl ?_)))
     by_cases e:W[i]=P
     ·rw [if_pos e] at hps
      have d1:decide (W[i]=P)=true:=by simpa using e
      (repeat (first|simp only [↓QA,QB,Nat.reduceLT,reduceIte,Nat.reduceEqDiff,Nat.reduceAdd,Nat.reduceLeDiff,Nat.reduceMul,Nat.reduceBEq,gO,d1,hi1,ht1,hP]|refine rd0 rfl ?_))
      refine ⟨i+1,by omega,by omega,?_⟩
      rw [hps]
      try simp only [aC,QE,Nat.reduceLT,reduceIte,Nat.reduceEqDiff,Nat.reduceAdd,Nat.reduceLeDiff,Nat.reduceMul,Nat.reduceBEq,gO,hwi2]
      try simp [aJ]
     ·rw [if_neg e] at hps
      have d1:decide (W[i]=P)=false:=by simpa using e
      (repeat (first|simp only [↓QA,QB,Nat.reduceLT,reduceIte,Nat.reduceEqDiff,Nat.reduceAdd,Nat.reduceLeDiff,Nat.reduceMul,Nat.reduceBEq,gO,d1,hi1,ht1,hP]|refine rd0 rfl ?_))
      refine ⟨i+1,by omega,by omega,?_⟩
      rw [hps]
      try simp only [aC,QE,Nat.reduceLT,reduceIte,Nat.reduceEqDiff,Nat.reduceAdd,Nat.reduceLeDiff,Nat.reduceMul,Nat.reduceBEq,gO,hwi2]
      try simp [aJ]
    ·have hi1:i=W.length:=by
      have:¬i<W.length:=by simpa using hd2
      omega
     rw [hi1]
     have hpo:rH W P W.length=v6 W P:=rfl
     rw [hpo]
     obtain ⟨Q,hQ⟩:∃ Q,v6 W P=Q:=⟨_,rfl⟩
     rw [hQ] at hpn hpe
     rw [hQ]
     have dn:decide (Q<0)=false:=by simpa using hpn
     have hap:=fun (b0:ABlk) (τ:St)=>lW (σ:=b0::.tok 1 A.length ex::τ) (l:=A) (a:=Q) (ex:=ex) (t:=1) (by omega) rfl
     rw [hpln] at hap
     (repeat (first|simp only [↓QA,QB,Nat.reduceLT,reduceIte,Nat.reduceEqDiff,Nat.reduceAdd,Nat.reduceLeDiff,Nat.reduceMul,Nat.reduceBEq,gO,dn,hap,hw]|refine rd0 rfl ?_))
     refine ⟨(t+1,true),by simp only;omega,by simp only;omega,?_⟩
     try simp only [aC,QE,Nat.reduceLT,reduceIte,Nat.reduceEqDiff,Nat.reduceAdd,Nat.reduceLeDiff,Nat.reduceMul,Nat.reduceBEq,gO,hw,hpe,nL,List.map_append,List.map_cons,List.map_nil]
     try simp [aJ,hpln]
  ·have ht1:t=v.trams.length:=by
    have:¬t<p.length:=by simpa using hd
    omega
   rw [ht1]
   (repeat (first|simp only [↓QA,QB,Nat.reduceLT,reduceIte,Nat.reduceEqDiff,Nat.reduceAdd,Nat.reduceLeDiff,Nat.reduceMul,Nat.reduceBEq,gO]|refine rd0 rfl ?_))
end Go.Am.Room
set_option maxRecDepth 8000
namespace Go.Am.Room
def aU:=And.intro @bD (And.intro @aI (And.intro @aX (And.intro @aW (And.intro @aV (And.intro @aS (And.intro @bC (And.intro @a9 (And.intro @aZ (And.intro @dH (And.intro @List.length_append.{0} (And.intro @Int.toNat_natCast (And.intro @bP (And.intro @cE (And.intro @aF8 (@aY)))))))))))))))
def uJ (v:Net) (x:List Int) (t:Nat):List Int:=((jM v t)[(nY x t).toNat%(jM v t).length]?).getD []
def mQ (v:Net) (x:List Int):Nat→List (List Int)
 |0=>[]
 |k+1=>if (jM v k).isEmpty=true then mQ v x k else mQ v x k++[uJ v x k]
def yT (v:Net) (k:Nat):Bool:=(List.range k).all fun t=>!(jM v t).isEmpty
theorem zZ (v:Net) (k:Nat):yT v (k+1)=(yT v k&&!(jM v k).isEmpty):=by simp [yT,List.range_succ,List.all_append]
theorem LC (v:Net) (x:List Int):∀ k,(mQ v x k).length≤k
 |0=>by simp [mQ]
 |k+1=>by
  have:=LC v x k
  rw [mQ]
  split
  ·omega
  ·simp;omega
theorem VB {v:Net} {x:List Int} {t:Nat} (h:(jM v t).isEmpty=false):uJ v x t∈jM v t:=by
 have hl:0<(jM v t).length:=by
  cases q:jM v t with
  |nil=>rw [q] at h;cases h
  |cons a l=>simp
 have hm:=Nat.mod_lt (nY x t).toNat hl
 rw [uJ,List.getElem?_eq_getElem hm]
 exact List.getElem_mem hm
theorem F3 {v:Net} {x:List Int}:∀ {k:Nat},yT v k=true→(mQ v x k).length=k∧∀ t,t<k→cH (mQ v x k) t∈jM v t
 |0,_=>⟨rfl,fun t h=>by omega⟩
 |k+1,h=>by
  rw [zZ,Bool.and_eq_true,Bool.not_eq_true'] at h
  obtain ⟨h1,h2⟩:=F3 (x:=x) h.1
  rw [mQ,h.2]
  simp only [Bool.false_eq_true,if_false]
  refine ⟨by simp [h1],fun t ht=>?_⟩
  by_cases e:t=k
  ·subst e
   have:cH (mQ v x t++[uJ v x t]) t=uJ v x t:=by simp [cH,h1]
   rw [this]
   exact VB h.2
  ·rw [nJ (by omega)]
   exact h2 t (by omega)
theorem V3 (W:List (List Int)):(((W.length:Nat):Int)==0)=W.isEmpty:=by cases W<;>simp<;>omega
set_option maxHeartbeats 2000000 in
theorem EU (v:Net) (x:List Int) (hf:Fits v) (hx:RM x):dY T 10 [bX v,u8s x] (.bool true):=by
 refine bA (af:=a10) rfl (by simp [a10]) dd ?_
 have okz:((0:Int)==0)=true:=rfl
 cases hs:qT v
 ·have hE:=LY hs
  obtain ⟨E,hEe⟩:∃ E,eQ v=E:=⟨_,rfl⟩
  have e1:=O2 hs
  rw [hEe] at hE e1
  have g:(E==0)=false:=by simpa using hE
  (repeat (first|simp only [↓QA,QB,Nat.reduceLT,reduceIte,Nat.reduceEqDiff,Nat.reduceAdd,Nat.reduceLeDiff,Nat.reduceMul,Nat.reduceBEq,aU,a10,u8s]|refine rd0 rfl ?_))
  ((first|refine aE (pG v hf) rfl dd ?_|refine aF (pG v hf) rfl dd ?_);(repeat (first|simp only [↓QA,QB,Nat.reduceLT,reduceIte,Nat.reduceEqDiff,Nat.reduceAdd,Nat.reduceLeDiff,Nat.reduceMul,Nat.reduceBEq,aU,pQ,e1,u8s]|refine rd0 rfl ?_)))
  ((first|refine aE (vL v hf) rfl dd ?_|refine aF (vL v hf) rfl dd ?_);(repeat (first|simp only [↓QA,QB,Nat.reduceLT,reduceIte,Nat.reduceEqDiff,Nat.reduceAdd,Nat.reduceLeDiff,Nat.reduceMul,Nat.reduceBEq,aU,hs,g,List.map_nil,List.length_nil,show IntKind.i64.wrap (((0:Nat):Int)+((0:Nat):Int))=0 from rfl,okz]|refine rd0 rfl ?_)))
  refine aE kS rfl dD ?_
  (repeat (first|simp only [↓QA,QB,Nat.reduceLT,reduceIte,Nat.reduceEqDiff,Nat.reduceAdd,Nat.reduceLeDiff,Nat.reduceMul,Nat.reduceBEq,aU]|refine rd0 rfl ?_))
 ·obtain ⟨hc,hne⟩:=BY.1 hs
  have hv:=hJ hc
  have hnt:=hv.ntr
  have e1:=WR hs
  have e2:=WK hs
  have hok:=fun s hs=>Q5 (v:=v) hv (bl:=[]) (s:=s) hs
  have hcnt:=zQ hv []
  have hst:∀ s∈bF v [],s∈gV v:=fun s h=>(List.mem_filter.1 h).1
  have hbs:=fun p=>NJ (v:=v) (l:=bF v []) (p:=p)
  have hbn:=M4 (v:=v) (l:=bF v [])
  have hown:=O5 hv hst hne
  obtain ⟨ts,hts⟩:∃ ts,bF v []=ts:=⟨_,rfl⟩
  simp only [hts] at e1 e2 hok hcnt hbs hbn hown
  obtain ⟨SL,hSL⟩:∃ l,HZ v ts=l:=⟨_,rfl⟩
  obtain ⟨ML,hML⟩:∃ l,xF v ts=l:=⟨_,rfl⟩
  rw [hSL,hML] at e2
  rw [hML] at hown
  obtain ⟨PS,MV,E,hmv⟩:∃ a b c,jO v=(a,b,c):=⟨_,_,_,rfl⟩
  have b1:=VY v
  rw [hmv] at b1
  simp only at b1
  have hfacts:((∃ w,iZ v ts=some w∧PS=w∧MV=dB v w∧E=0)∨(iZ v ts=none∧PS=[]∧MV=[]∧E=9)):=by
   rw [hmv] at e1
   cases q:iZ v ts with
   |none=>rw [q] at e1;simp only [Prod.mk.injEq] at e1;exact .inr ⟨rfl,e1.1,e1.2.1,e1.2.2⟩
   |some w=>rw [q] at e1;simp only [Prod.mk.injEq] at e1;exact .inl ⟨w,rfl,e1.1,e1.2.1,e1.2.2⟩
  (repeat (first|simp only [↓QA,QB,Nat.reduceLT,reduceIte,Nat.reduceEqDiff,Nat.reduceAdd,Nat.reduceLeDiff,Nat.reduceMul,Nat.reduceBEq,aU,a10,u8s]|refine rd0 rfl ?_))
  ((first|refine aE (pG v hf) rfl dd ?_|refine aF (pG v hf) rfl dd ?_);(repeat (first|simp only [↓QA,QB,Nat.reduceLT,reduceIte,Nat.reduceEqDiff,Nat.reduceAdd,Nat.reduceLeDiff,Nat.reduceMul,Nat.reduceBEq,aU,pQ,hmv,u8s]|refine rd0 rfl ?_)))
  ((first|refine aE (vL v hf) rfl dd ?_|refine aF (vL v hf) rfl dd ?_);(repeat (first|simp only [↓QA,QB,Nat.reduceLT,reduceIte,Nat.reduceEqDiff,Nat.reduceAdd,Nat.reduceLeDiff,Nat.reduceMul,Nat.reduceBEq,aU,hs,u8s]|refine rd0 rfl ?_)))
  ((first|refine aE (vI v hf) rfl dd ?_|refine aF (vI v hf) rfl dd ?_);(repeat (first|simp only [↓QA,QB,Nat.reduceLT,reduceIte,Nat.reduceEqDiff,Nat.reduceAdd,Nat.reduceLeDiff,Nat.reduceMul,Nat.reduceBEq,aU,qP,e2,okz]|refine rd0 rfl ?_)))
  refine eN (BC v hv [] (by simp)) (GA v) (xS v) ?_
  (repeat (first|simp only [↓QA,QB,Nat.reduceLT,reduceIte,Nat.reduceEqDiff,Nat.reduceAdd,Nat.reduceLeDiff,Nat.reduceMul,Nat.reduceBEq,aU,hts]|refine rd0 rfl ?_))
  refine bY (S:=Nat) 0 (fun k=>k≤v.trams.length) (fun k=>v.trams.length-k)
   (fun k=>[(1,u8s x),(2,.ptr 0 0),(5,aN PS),(6,ints MV),(7,.int .i64 E),(9,ints ML),(11,fF ts),(12,aN (mQ v x k)),(13,.bool (yT v k)),(14,.int .i64 k)]) (fun _=>[.cells (aB v)]) (Nat.zero_le _) (by simp [aB,ints]) ?_ fun k hk=>?_
  ·try simp only [aC,QE,Nat.reduceLT,reduceIte,Nat.reduceEqDiff,Nat.reduceAdd,Nat.reduceLeDiff,Nat.reduceMul,Nat.reduceBEq,aU,u8s,mQ]
   try simp [yT,clr,clrs]
  ·(repeat (first|simp only [↓QA,QB,Nat.reduceLT,reduceIte,Nat.reduceEqDiff,Nat.reduceAdd,Nat.reduceLeDiff,Nat.reduceMul,Nat.reduceBEq,aU,XV,u8s]|refine rd0 rfl ?_))
   refine aG (fun hd=>?_) fun hd=>?_
   ·have hk1:k<v.trams.length:=by simpa using hd
    have hw:=bV hk1 (by omega)
    have hcs:=zZ v k
    have hos:mQ v x (k+1)=if (jM v k).isEmpty=true then mQ v x k else mQ v x k++[uJ v x k]:=rfl
    have how:uJ v x k=((jM v k)[(nY x k).toNat%(jM v k).length]?).getD []:=rfl
    have hol:=LC v x k
    have hfr:=tM hk1
    have htb:=NA hx k
    have hwl:=u5 hv.nra (eR v k) []
    obtain ⟨z,hz⟩:∃ z,v.trams[k]=z:=⟨_,rfl⟩
    rw [hz] at hfr
    simp only [jM,hfr] at hcs hos how hwl
    obtain ⟨W,hW⟩:∃ W,cJ v z.frm []=W:=⟨_,rfl⟩
    simp only [hW] at hcs hos how hwl
    obtain ⟨A,hA⟩:∃ A,mQ v x k=A:=⟨_,rfl⟩
    rw [hA] at hos hol
    rw [hA]
    obtain ⟨c,hcc⟩:∃ c,yT v k=c:=⟨_,rfl⟩
    rw [hcc] at hcs
    rw [hcc]
    (repeat (first|simp only [↓QA,QB,Nat.reduceLT,reduceIte,Nat.reduceEqDiff,Nat.reduceAdd,Nat.reduceLeDiff,Nat.reduceMul,Nat.reduceBEq,aU,hk1,hz]|refine rd0 rfl ?_))
    refine fA (F7 v hv z.frm [] (by simp)) (KZ v z.frm) (BJ v z.frm) ?_
    (repeat (first|simp only [↓QA,QB,Nat.reduceLT,reduceIte,Nat.reduceEqDiff,Nat.reduceAdd,Nat.reduceLeDiff,Nat.reduceMul,Nat.reduceBEq,aU,hk1,hz,hW,V3]|refine rd0 rfl ?_))
    cases he:W.isEmpty
    ·rw [he] at hcs hos
     simp only [Bool.not_false,Bool.and_true,Bool.false_eq_true,if_false] at hcs hos
     have hWp:0<W.length:=by
      cases q:W with
      |nil=>rw [q] at he;cases he
      |cons a l=>simp
     obtain ⟨u,hu⟩:∃ u:Nat,nY x k=u:=⟨(nY x k).toNat,by omega⟩
     have hul:=Nat.mod_lt u hWp
     have hWz:((W.length:Nat):Int)≠0:=by omega
     have hmod:((u:Nat):Int).tmod (W.length:Int)=((u%W.length:Nat):Int):=by rw [Int.tmod_eq_emod_of_nonneg (by omega)];norm_cast
     rw [hu,Int.toNat_natCast,List.getElem?_eq_getElem hul,Option.getD_some] at how
     obtain ⟨j,hj⟩:∃ j,u%W.length=j:=⟨_,rfl⟩
     simp only [hj] at how hul hmod
     obtain ⟨w,hwe⟩:∃ w,W[j]=w:=⟨_,rfl⟩
     rw [hwe] at how
     rw [how] at hos
     have hto:=U2 x k hx (by omega)
     rw [hu] at hto
     have hy1:aL 1 [ints w]=true:=oT 1 ints [w] fun x=>LE _ _ _
     have hal:aL 1 (A.map ints)=true:=oT 1 ints A fun x=>LE _ _ _
     by_cases hlk:A=[]
     ·have hnil:List.map ints A=[]:=by rw [hlk];rfl
      have hm:List.map ints (A++[w])=[ints w]:=by rw [hlk];rfl
      have q2:∀ σ:St,cZ 1 24 σ (.lit [] true none) (.lit [ints w] true none)=some (.lit [ints w] false (some σ.length),σ++[.tok 1 1 true]):=fun σ=>v9 (xs:=[]) ⟨rfl,hy1,by simp [room],by simp [room]⟩ (by simp)
      simp only [mA] at q2
      (repeat (first|simp only [↓QA,QB,Nat.reduceLT,reduceIte,Nat.reduceEqDiff,Nat.reduceAdd,Nat.reduceLeDiff,Nat.reduceMul,Nat.reduceBEq,aU,hnil,LA]|refine rd0 rfl ?_))
      ((first|refine aE (hto) rfl dd ?_|refine aF (hto) rfl dd ?_);(repeat (first|simp only [↓QA,QB,Nat.reduceLT,reduceIte,Nat.reduceEqDiff,Nat.reduceAdd,Nat.reduceLeDiff,Nat.reduceMul,Nat.reduceBEq,aU,Q7 _ _ _ hWz,hmod,hul,hwe,q2,hnil]|refine rd0 rfl ?_)))
      refine ⟨k+1,by omega,by omega,?_⟩
      rw [hcs,hos]
      try simp only [aC,QE,Nat.reduceLT,reduceIte,Nat.reduceEqDiff,Nat.reduceAdd,Nat.reduceLeDiff,Nat.reduceMul,Nat.reduceBEq,aU,hw,u8s,hm]
      try simp [aJ]
     ·have hl1:(A.map ints).length≠0:=by simpa using hlk
      have q1:∀ σ:St,cZ 1 24 σ (.lit [] true none) (.lit (A.map ints) false none)=some (.lit (A.map ints) false (some σ.length),σ++[.tok 1 A.length true]):=fun σ=>by
       rw [v9 (xs:=[]) ⟨rfl,hal,by simp [room];omega,by simp [room];omega⟩ hl1];simp
      have q2:∀ (b0:ABlk),cZ 1 24 [b0,.tok 1 A.length true] (.lit (A.map ints) false (some 1)) (.lit [ints w] true none)=some (.lit ((A++[w]).map ints) false (some 1),[b0,.tok 1 (A.length+1) true]):=fun b0=>by
       rw [vY (ex:=true) ⟨hal,hy1,by simp [room];omega,by simp [room];omega⟩ (by simp) (by simp)];simp
      simp only [mA] at q2
      (repeat (first|simp only [↓QA,QB,Nat.reduceLT,reduceIte,Nat.reduceEqDiff,Nat.reduceAdd,Nat.reduceLeDiff,Nat.reduceMul,Nat.reduceBEq,aU,q1]|refine rd0 rfl ?_))
      ((first|refine aE (hto) rfl dd ?_|refine aF (hto) rfl dd ?_);(repeat (first|simp only [↓QA,QB,Nat.reduceLT,reduceIte,Nat.reduceEqDiff,Nat.reduceAdd,Nat.reduceLeDiff,Nat.reduceMul,Nat.reduceBEq,aU,Q7 _ _ _ hWz,hmod,hul,hwe,q2]|refine rd0 rfl ?_)))
      refine ⟨k+1,by omega,by omega,?_⟩
      rw [hcs,hos]
      try simp only [aC,QE,Nat.reduceLT,reduceIte,Nat.reduceEqDiff,Nat.reduceAdd,Nat.reduceLeDiff,Nat.reduceMul,Nat.reduceBEq,aU,hw,u8s]
      try simp [aJ]
    ·rw [he] at hcs hos
     simp only [Bool.not_true,Bool.and_false,if_true] at hcs hos
     (repeat (first|simp only [↓QA,QB,Nat.reduceLT,reduceIte,Nat.reduceEqDiff,Nat.reduceAdd,Nat.reduceLeDiff,Nat.reduceMul,Nat.reduceBEq,aU]|refine rd0 rfl ?_))
     refine ⟨k+1,by omega,by omega,?_⟩
     rw [hcs,hos]
     try simp only [aC,QE,Nat.reduceLT,reduceIte,Nat.reduceEqDiff,Nat.reduceAdd,Nat.reduceLeDiff,Nat.reduceMul,Nat.reduceBEq,aU,hw,u8s]
     try simp [aJ]
   ·have hk1:k=v.trams.length:=by
     have:¬k<v.trams.length:=by simpa using hd
     omega
    rw [hk1]
    have hpo:=fun h=>F3 (v:=v) (x:=x) (k:=v.trams.length) h
    obtain ⟨O,hO⟩:∃ O,mQ v x v.trams.length=O:=⟨_,rfl⟩
    obtain ⟨c,hcc⟩:∃ c,yT v v.trams.length=c:=⟨_,rfl⟩
    rw [hO,hcc] at hpo
    rw [hO,hcc]
    have hOp:c=true→O∈iD v:=fun h=>rM.2 (hpo h)
    obtain ⟨d,hd2⟩:∃ d,mR v ts O=d:=⟨_,rfl⟩
    have hdO:c=true→dY T 53 [bX v,fF ts,aN O] (.bool d):=fun h=>by
     have:=GL v hv ts hok hcnt O (tP (hOp h))
     rwa [hd2] at this
    have g90:((9:Int)==0)=false:=rfl
    have g99:((9:Int)==9)=true:=rfl
    have hle:=aHA ML
    rcases hfacts with ⟨w,hw1,rfl,hMV,rfl⟩|⟨hw1,rfl,rfl,rfl⟩
    ·obtain ⟨s1,s2,s3⟩:=hbs PS hw1
     have hpl:=DJ v hv PS s1
     have hdo:=GL v hv ts hok hcnt PS (tP s1)
     have hpln:=jK v _ PS s1
     have hmo:=C3 v hv PS (by omega) (fun p hp=>by have:=b1.1.2 p hp;omega)
     rw [s2] at hdo
     rw [←hMV] at hmo s3
     have hz:ML.isEmpty=true→decide ((0:Int)<(MV.length:Int))=false:=fun h=>by
      obtain ⟨o1,o2⟩:=hown (List.isEmpty_iff.1 h)
      have:=s3 _ o1 o2
      rw [OH,List.length_nil] at this
      rw [decide_eq_false_iff_not]
      omega
     cases c
     ·(repeat (first|simp only [↓QA,QB,Nat.reduceLT,reduceIte,Nat.reduceEqDiff,Nat.reduceAdd,Nat.reduceLeDiff,Nat.reduceMul,Nat.reduceBEq,aU,okz]|refine rd0 rfl ?_))
      ((first|refine aE (hpl) rfl dd ?_|refine aF (hpl) rfl dd ?_);(repeat (first|simp only [↓QA,QB,Nat.reduceLT,reduceIte,Nat.reduceEqDiff,Nat.reduceAdd,Nat.reduceLeDiff,Nat.reduceMul,Nat.reduceBEq,aU]|refine rd0 rfl ?_)))
      ((first|refine aE (hdo) rfl dd ?_|refine aF (hdo) rfl dd ?_);(repeat (first|simp only [↓QA,QB,Nat.reduceLT,reduceIte,Nat.reduceEqDiff,Nat.reduceAdd,Nat.reduceLeDiff,Nat.reduceMul,Nat.reduceBEq,aU]|refine rd0 rfl ?_)))
      ((first|refine aE (hmo) rfl dd ?_|refine aF (hmo) rfl dd ?_);(repeat (first|simp only [↓QA,QB,Nat.reduceLT,reduceIte,Nat.reduceEqDiff,Nat.reduceAdd,Nat.reduceLeDiff,Nat.reduceMul,Nat.reduceBEq,aU]|refine rd0 rfl ?_)))
      ((first|refine aE (fU MV MV (by omega) (by omega)) rfl dd ?_|refine aF (fU MV MV (by omega) (by omega)) rfl dd ?_);(repeat (first|simp only [↓QA,QB,Nat.reduceLT,reduceIte,Nat.reduceEqDiff,Nat.reduceAdd,Nat.reduceLeDiff,Nat.reduceMul,Nat.reduceBEq,aU,eq_self,hle]|refine rd0 rfl ?_)))
      cases hq:ML.isEmpty
      ·(repeat (first|simp only [↓QA,QB,Nat.reduceLT,reduceIte,Nat.reduceEqDiff,Nat.reduceAdd,Nat.reduceLeDiff,Nat.reduceMul,Nat.reduceBEq,aU,hle,hq]|refine rd0 rfl ?_))
       refine aE kS rfl dD ?_
       (repeat (first|simp only [↓QA,QB,Nat.reduceLT,reduceIte,Nat.reduceEqDiff,Nat.reduceAdd,Nat.reduceLeDiff,Nat.reduceMul,Nat.reduceBEq,aU]|refine rd0 rfl ?_))
      ·have hz2:=hz hq
       (repeat (first|simp only [↓QA,QB,Nat.reduceLT,reduceIte,Nat.reduceEqDiff,Nat.reduceAdd,Nat.reduceLeDiff,Nat.reduceMul,Nat.reduceBEq,aU,hle,hq,hz2]|refine rd0 rfl ?_))
       refine aE kS rfl dD ?_
       (repeat (first|simp only [↓QA,QB,Nat.reduceLT,reduceIte,Nat.reduceEqDiff,Nat.reduceAdd,Nat.reduceLeDiff,Nat.reduceMul,Nat.reduceBEq,aU]|refine rd0 rfl ?_))
     ·have hdo2:=hdO rfl
      cases d
      ·(repeat (first|simp only [↓QA,QB,Nat.reduceLT,reduceIte,Nat.reduceEqDiff,Nat.reduceAdd,Nat.reduceLeDiff,Nat.reduceMul,Nat.reduceBEq,aU,okz]|refine rd0 rfl ?_))
       ((first|refine aE (hdo2) rfl dd ?_|refine aF (hdo2) rfl dd ?_);(repeat (first|simp only [↓QA,QB,Nat.reduceLT,reduceIte,Nat.reduceEqDiff,Nat.reduceAdd,Nat.reduceLeDiff,Nat.reduceMul,Nat.reduceBEq,aU]|refine rd0 rfl ?_)))
       ((first|refine aE (hpl) rfl dd ?_|refine aF (hpl) rfl dd ?_);(repeat (first|simp only [↓QA,QB,Nat.reduceLT,reduceIte,Nat.reduceEqDiff,Nat.reduceAdd,Nat.reduceLeDiff,Nat.reduceMul,Nat.reduceBEq,aU]|refine rd0 rfl ?_)))
       ((first|refine aE (hdo) rfl dd ?_|refine aF (hdo) rfl dd ?_);(repeat (first|simp only [↓QA,QB,Nat.reduceLT,reduceIte,Nat.reduceEqDiff,Nat.reduceAdd,Nat.reduceLeDiff,Nat.reduceMul,Nat.reduceBEq,aU]|refine rd0 rfl ?_)))
       ((first|refine aE (hmo) rfl dd ?_|refine aF (hmo) rfl dd ?_);(repeat (first|simp only [↓QA,QB,Nat.reduceLT,reduceIte,Nat.reduceEqDiff,Nat.reduceAdd,Nat.reduceLeDiff,Nat.reduceMul,Nat.reduceBEq,aU]|refine rd0 rfl ?_)))
       ((first|refine aE (fU MV MV (by omega) (by omega)) rfl dd ?_|refine aF (fU MV MV (by omega) (by omega)) rfl dd ?_);(repeat (first|simp only [↓QA,QB,Nat.reduceLT,reduceIte,Nat.reduceEqDiff,Nat.reduceAdd,Nat.reduceLeDiff,Nat.reduceMul,Nat.reduceBEq,aU,eq_self,hle]|refine rd0 rfl ?_)))
       cases hq:ML.isEmpty
       ·(repeat (first|simp only [↓QA,QB,Nat.reduceLT,reduceIte,Nat.reduceEqDiff,Nat.reduceAdd,Nat.reduceLeDiff,Nat.reduceMul,Nat.reduceBEq,aU,hle,hq]|refine rd0 rfl ?_))
        refine aE kS rfl dD ?_
        (repeat (first|simp only [↓QA,QB,Nat.reduceLT,reduceIte,Nat.reduceEqDiff,Nat.reduceAdd,Nat.reduceLeDiff,Nat.reduceMul,Nat.reduceBEq,aU]|refine rd0 rfl ?_))
       ·have hz2:=hz hq
        (repeat (first|simp only [↓QA,QB,Nat.reduceLT,reduceIte,Nat.reduceEqDiff,Nat.reduceAdd,Nat.reduceLeDiff,Nat.reduceMul,Nat.reduceBEq,aU,hle,hq,hz2]|refine rd0 rfl ?_))
        refine aE kS rfl dD ?_
        (repeat (first|simp only [↓QA,QB,Nat.reduceLT,reduceIte,Nat.reduceEqDiff,Nat.reduceAdd,Nat.reduceLeDiff,Nat.reduceMul,Nat.reduceBEq,aU]|refine rd0 rfl ?_))
      ·have hOm:=hOp rfl
       have hpl2:=DJ v hv O hOm
       have hOl:=jK v _ O hOm
       have hOf:=(tP hOm).few
       have hmo2:=C3 v hv O (by omega) (fun p hp=>by have:=hOf p hp;omega)
       have h3:=s3 O hOm hd2
       have hml2:=wQ v O
       have hl1:=o7 v O v.trams.length
       have hl2:=o7 v PS v.trams.length
       obtain ⟨M2,hM2⟩:∃ M,dB v O=M:=⟨_,rfl⟩
       obtain ⟨P1,hP1⟩:∃ M,mH v O v.trams.length=M:=⟨_,rfl⟩
       obtain ⟨P2,hP2⟩:∃ M,mH v PS v.trams.length=M:=⟨_,rfl⟩
       rw [hM2] at h3 hml2 hmo2
       rw [hP1] at h3 hl1 hpl2
       rw [hP2] at h3 hl2 hpl
       have hlo:=EL P1 P2 (by omega) (by omega)
       (repeat (first|simp only [↓QA,QB,Nat.reduceLT,reduceIte,Nat.reduceEqDiff,Nat.reduceAdd,Nat.reduceLeDiff,Nat.reduceMul,Nat.reduceBEq,aU,okz]|refine rd0 rfl ?_))
       ((first|refine aE (hdo2) rfl dd ?_|refine aF (hdo2) rfl dd ?_);(repeat (first|simp only [↓QA,QB,Nat.reduceLT,reduceIte,Nat.reduceEqDiff,Nat.reduceAdd,Nat.reduceLeDiff,Nat.reduceMul,Nat.reduceBEq,aU]|refine rd0 rfl ?_)))
       ((first|refine aE (hpl) rfl dd ?_|refine aF (hpl) rfl dd ?_);(repeat (first|simp only [↓QA,QB,Nat.reduceLT,reduceIte,Nat.reduceEqDiff,Nat.reduceAdd,Nat.reduceLeDiff,Nat.reduceMul,Nat.reduceBEq,aU]|refine rd0 rfl ?_)))
       ((first|refine aE (hdo) rfl dd ?_|refine aF (hdo) rfl dd ?_);(repeat (first|simp only [↓QA,QB,Nat.reduceLT,reduceIte,Nat.reduceEqDiff,Nat.reduceAdd,Nat.reduceLeDiff,Nat.reduceMul,Nat.reduceBEq,aU]|refine rd0 rfl ?_)))
       ((first|refine aE (hmo) rfl dd ?_|refine aF (hmo) rfl dd ?_);(repeat (first|simp only [↓QA,QB,Nat.reduceLT,reduceIte,Nat.reduceEqDiff,Nat.reduceAdd,Nat.reduceLeDiff,Nat.reduceMul,Nat.reduceBEq,aU]|refine rd0 rfl ?_)))
       ((first|refine aE (fU MV MV (by omega) (by omega)) rfl dd ?_|refine aF (fU MV MV (by omega) (by omega)) rfl dd ?_);(repeat (first|simp only [↓QA,QB,Nat.reduceLT,reduceIte,Nat.reduceEqDiff,Nat.reduceAdd,Nat.reduceLeDiff,Nat.reduceMul,Nat.reduceBEq,aU,eq_self,hle]|refine rd0 rfl ?_)))
       cases hq:ML.isEmpty
       case' true=>have hz2:=hz hq
       all_goals
        (try (repeat (first|simp only [↓QA,QB,Nat.reduceLT,reduceIte,Nat.reduceEqDiff,Nat.reduceAdd,Nat.reduceLeDiff,Nat.reduceMul,Nat.reduceBEq,aU,hle,hq,hz2]|refine rd0 rfl ?_)))
        (try (repeat (first|simp only [↓QA,QB,Nat.reduceLT,reduceIte,Nat.reduceEqDiff,Nat.reduceAdd,Nat.reduceLeDiff,Nat.reduceMul,Nat.reduceBEq,aU,hle,hq]|refine rd0 rfl ?_)))
        ((first|refine aE (hpl2) rfl dd ?_|refine aF (hpl2) rfl dd ?_);(repeat (first|simp only [↓QA,QB,Nat.reduceLT,reduceIte,Nat.reduceEqDiff,Nat.reduceAdd,Nat.reduceLeDiff,Nat.reduceMul,Nat.reduceBEq,aU]|refine rd0 rfl ?_)))
        ((first|refine aE (hmo2) rfl dd ?_|refine aF (hmo2) rfl dd ?_);(repeat (first|simp only [↓QA,QB,Nat.reduceLT,reduceIte,Nat.reduceEqDiff,Nat.reduceAdd,Nat.reduceLeDiff,Nat.reduceMul,Nat.reduceBEq,aU]|refine rd0 rfl ?_)))
        cases c1:decide ((MV.length:Int)<(M2.length:Int))
        ·have h4:MV.length=M2.length∧less P1 P2=false:=by
          rcases h3 with h|h
          ·simp at c1;omega
          ·exact h
         have c2:(((M2.length:Nat):Int)==(MV.length:Int))=true:=by rw [h4.1];simp
         rw [h4.2] at hlo
         (repeat (first|simp only [↓QA,QB,Nat.reduceLT,reduceIte,Nat.reduceEqDiff,Nat.reduceAdd,Nat.reduceLeDiff,Nat.reduceMul,Nat.reduceBEq,aU,c1,c2]|refine rd0 rfl ?_))
         ((first|refine aE (hlo) rfl dd ?_|refine aF (hlo) rfl dd ?_);(repeat (first|simp only [↓QA,QB,Nat.reduceLT,reduceIte,Nat.reduceEqDiff,Nat.reduceAdd,Nat.reduceLeDiff,Nat.reduceMul,Nat.reduceBEq,aU]|refine rd0 rfl ?_)))
         refine aE kS rfl dD ?_
         (repeat (first|simp only [↓QA,QB,Nat.reduceLT,reduceIte,Nat.reduceEqDiff,Nat.reduceAdd,Nat.reduceLeDiff,Nat.reduceMul,Nat.reduceBEq,aU]|refine rd0 rfl ?_))
        ·(repeat (first|simp only [↓QA,QB,Nat.reduceLT,reduceIte,Nat.reduceEqDiff,Nat.reduceAdd,Nat.reduceLeDiff,Nat.reduceMul,Nat.reduceBEq,aU,c1]|refine rd0 rfl ?_))
         refine aE kS rfl dD ?_
         (repeat (first|simp only [↓QA,QB,Nat.reduceLT,reduceIte,Nat.reduceEqDiff,Nat.reduceAdd,Nat.reduceLeDiff,Nat.reduceMul,Nat.reduceBEq,aU]|refine rd0 rfl ?_))
    ·have hno:=hbn hw1
     have hml:decide ((0:Int)<(ML.length:Int))=true:=by
      cases q:ML with
      |nil =>
       obtain ⟨o1,o2⟩:=hown q
       rw [hno _ o1] at o2
       cases o2
      |cons a l=>simp<;>omega
     have w00:IntKind.i64.wrap (((0:Nat):Int)+((0:Nat):Int))=0:=rfl
     cases c
     ·(repeat (first|simp only [↓QA,QB,Nat.reduceLT,reduceIte,Nat.reduceEqDiff,Nat.reduceAdd,Nat.reduceLeDiff,Nat.reduceMul,Nat.reduceBEq,aU,g90,g99,List.map_nil,List.length_nil,w00,okz,hml]|refine rd0 rfl ?_))
      refine aE kS rfl dD ?_
      (repeat (first|simp only [↓QA,QB,Nat.reduceLT,reduceIte,Nat.reduceEqDiff,Nat.reduceAdd,Nat.reduceLeDiff,Nat.reduceMul,Nat.reduceBEq,aU]|refine rd0 rfl ?_))
     ·have hdo2:=hdO rfl
      have:d=false:=by rw [←hd2];exact hno _ (hOp rfl)
      subst this
      (repeat (first|simp only [↓QA,QB,Nat.reduceLT,reduceIte,Nat.reduceEqDiff,Nat.reduceAdd,Nat.reduceLeDiff,Nat.reduceMul,Nat.reduceBEq,aU]|refine rd0 rfl ?_))
      ((first|refine aE (hdo2) rfl dd ?_|refine aF (hdo2) rfl dd ?_);(repeat (first|simp only [↓QA,QB,Nat.reduceLT,reduceIte,Nat.reduceEqDiff,Nat.reduceAdd,Nat.reduceLeDiff,Nat.reduceMul,Nat.reduceBEq,aU,g90,g99,List.map_nil,List.length_nil,w00,okz,hml]|refine rd0 rfl ?_)))
      refine aE kS rfl dD ?_
      (repeat (first|simp only [↓QA,QB,Nat.reduceLT,reduceIte,Nat.reduceEqDiff,Nat.reduceAdd,Nat.reduceLeDiff,Nat.reduceMul,Nat.reduceBEq,aU]|refine rd0 rfl ?_))
end Go.Am.Room
