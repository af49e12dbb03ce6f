/- A part of the proof of TopRipening: an abstract machine, or what functions come to on it. -/
import Derived.Test.YtckllniniolhcaaGreatTopRipeningQ4
set_option linter.unusedVariables false
set_option linter.unusedSimpArgs false
set_option linter.defProp false
set_option maxRecDepth 4000
namespace Go.Am.Room.Ro
def jE:=And.intro @gT (And.intro @dY (And.intro @eC (And.intro @dS (And.intro @dR (And.intro @Nat.mul_one (And.intro @Int.toNat_natCast (And.intro @encRoom_eq (And.intro @roomCells_eq (And.intro @encSetting_eq (And.intro @encLook_eq (And.intro @aC (And.intro @jI (And.intro @Nat.add_lt_add_iff_left (@Nat.lt_add_right_iff_pos))))))))))))))
theorem bI (m:Nat):∀ (σ a b c:St),EqS m (σ++a) (σ++b) (σ++c)=EqS m a b c
 |[],a,b,c=>rfl
 |x::σ,a,b,c=>by simp only [List.cons_append,EqS,bI m σ a b c,true_or,true_and,and_self]
theorem aDF (a:Nat) (h:a<9223372036854775808):Go.Am.bits .and .i64 (a:Int) 1=((a%2:Nat):Int):=by
 have e1:(BitVec.ofInt 64 (a:Int) &&& BitVec.ofInt 64 1).toNat=a%2:=by
  rw [BitVec.toNat_and]
  have h1:(BitVec.ofInt 64 (a:Int)).toNat=a:=by
   rw [BitVec.toNat_ofInt]
   omega
  have h2:(BitVec.ofInt 64 1).toNat=1:=by decide
  rw [h1,h2,Nat.and_one_is_mod]
 show IntKind.i64.wrap (((BitVec.ofInt 64 (a:Int) &&& BitVec.ofInt 64 1).toNat:Nat):Int)=_
 rw [e1]
 exact aX ⟨by omega,by omega⟩
theorem C2 (a:Nat) (h:a<9223372036854775808):d7 .and (.int .i64 (a:Int)) (.int .i64 1)=some (.int .i64 ((a%2:Nat):Int)):=by
 simp [d7,j5,aDF a h]
theorem JK (a i:Nat) (h:i≤60):d7 .shr (.int .i64 (a:Int)) (.int .i64 (i:Int))=some (.int .i64 ((a/2^i:Nat):Int)):=by
 have hm:Nat.min i 64=i:=Nat.min_eq_left (by omega)
 have h0:¬(i:Int)<0:=by omega
 simp only [d7,h0,if_false,IntKind.bits,Int.toNat_natCast,hm,Option.some.injEq,AV.int.injEq,true_and]
 rw [Int.fdiv_eq_ediv_of_nonneg _ (Int.pow_nonneg (by omega))]
 norm_cast
structure ButIs (but:Nat) (bl:List Int):Prop where
 lt:but<9223372036854775808
 bit:∀ i:Nat,i<4→(((but/2^i%2:Nat):Int)==0) = !bl.contains (i:Int)
def yQ (day:Int) (bl:List Int):Span→List Look→Nat→Span
 |s,[],_=>s
 |s,x::xs,i=>yQ day bl (if (x.day==day&&!bl.contains (i:Int))=true then gQ s (ofC x.colour) else s) xs (i+1)
theorem L5 (a b c:Span):gQ (gQ a b) c=gQ a (gQ b c):=by simp only [gQ,Span.mk.injEq];omega
theorem A6 (day:Int) (bl:List Int):∀ (xs:List Look) (s:Span) (i:Nat),(∀ x∈xs,1≤x.colour∧x.colour≤7)→0≤s.lo→s.hi≤1000→yQ day bl s xs i=gQ s (nJ day bl xs i)
 |[],s,i,_,h0,h1=>by
  obtain ⟨lo,hi⟩:=s
  simp only [yQ,nJ,gQ,Span.mk.injEq] at *
  omega
 |x::xs,s,i,hx,h0,h1=>by
  have hc:=hx x (by simp)
  have hr:∀ y∈xs,1≤y.colour∧y.colour≤7:=fun y hy=>hx y (List.mem_cons_of_mem _ hy)
  simp only [yQ,nJ]
  split
  ·rw [A6 day bl xs _ _ hr,L5]
   ·simp only [gQ];omega
   ·simp only [gQ];omega
  ·exact A6 day bl xs _ _ hr h0 h1
theorem YN (σ:St) (r:Rm) (but:Nat) (bl:List Int) (ps:Nat→Span) (d:Nat) (s0:Span) (e:Env) (K:KJ) (hv:Vd r) (hb:ButIs but bl)
  (e1:Env.get e 1 = .int .i64 but) (e2:Env.get e 2 = .ptr σ.length 0) (e6:Env.get e 6 = .ptr (σ.length+2) 0) (e7:Env.get e 7 = .int .i64 r.ran.length) (e8:Env.get e 8 = .int .i64 d) (e9:Env.get e 9 = .ptr (σ.length+3) 0) (e25:Env.get e 25 = .int .i64 ((r.ran.length+1:Nat):Int)) (e26:Env.get e 26 = .int .i64 d)
  (e53:Env.get e 53 = .lit (r.looks.map encLook) false none) (e54:Env.get e 54 = .int .i64 r.looks.length) (e55:Env.get e 55 = .int .i64 0)
  (hK:∀ e',Env.get e' 1 = .int .i64 but→Env.get e' 2 = .ptr σ.length 0→Env.get e' 6 = .ptr (σ.length+2) 0→Env.get e' 7 = .int .i64 r.ran.length→Env.get e' 8 = .int .i64 d→Env.get e' 9 = .ptr (σ.length+3) 0→Env.get e' 25 = .int .i64 ((r.ran.length+1:Nat):Int)→Env.get e' 26 = .int .i64 d →
   K (some (.exit 2)) e' (σ++[.cells (aI r),.map [],.cells (rb r ps (σ.length+1)),.cells [.int .i64 (yQ d bl s0 r.looks 0).lo,.int .i64 (yQ d bl s0 r.looks 0).hi]])) :
  rK (K:=⟨K⟩) T (.loop LC) e (σ++[.cells (aI r),.map [],.cells (rb r ps (σ.length+1)),.cells [.int .i64 s0.lo,.int .i64 s0.hi]]):=by
 have hll:=hv.looksLen
 refine bU (S:=Nat×Span) (0,s0) (fun s=>s.1≤r.looks.length∧yQ d bl s.2 (r.looks.drop s.1) s.1=yQ d bl s0 r.looks 0) (fun s=>r.looks.length-s.1)
  (fun s=>[(1,.int .i64 but),(2,.ptr σ.length 0),(6,.ptr (σ.length+2) 0),(7,.int .i64 r.ran.length),(8,.int .i64 d),(9,.ptr (σ.length+3) 0),(25,.int .i64 ((r.ran.length+1:Nat):Int)),(26,.int .i64 d),(53,.lit (r.looks.map encLook) false none),(54,.int .i64 r.looks.length),(55,.int .i64 s.1)])
  (fun s=>σ++[.cells (aI r),.map [],.cells (rb r ps (σ.length+1)),.cells [.int .i64 s.2.lo,.int .i64 s.2.hi]]) ⟨by simp,by simp⟩ rfl ?_ fun s hs=>?_
 ·try simp only [aF,QE,seval,jE,bI,e1,e2,e6,e7,e8,e9,e25,e26,e53,e54,e55]
  try simp
 ·obtain ⟨i,s⟩:=s
  obtain ⟨hi,hq⟩:=hs
  simp only at hi hq
  (repeat (first|simp only [↓QA,QB,seval,jE,bI,LC]|refine rd0 rfl ?_))
  refine aJ (fun h=>?_) fun h=>?_
  ·have hi1:i<r.looks.length:=by simpa using h
   have hw:=b7 hi1 (by omega)
   have hl:=hv.looks _ (List.getElem_mem hi1)
   have hdiv:but/2^i<9223372036854775808:=Nat.lt_of_le_of_lt (Nat.div_le_self _ _) hb.lt
   have hbit:=hb.bit i (by omega)
   have vs:=JK but i (by omega)
   have va:=C2 (but/2^i) hdiv
   rw [List.drop_eq_getElem_cons hi1] at hq
   simp only [yQ] at hq
   have hof:=aAO r.looks[i].colour hl.2.2.1 hl.2.2.2
   have fin:∀ (s':Span) (e':Env) (τ:List ABlk),(if (r.looks[i].day==(d:Int)&&!bl.contains (i:Int))=true then gQ s (ofC r.looks[i].colour) else s)=s'→True:=fun _ _ _ _=>trivial
   (repeat (first|simp only [↓QA,QB,seval,jE,bI,hi1,vs,va,hbit,List.length_append]|refine rd0 rfl ?_))
   cases h1:(r.looks[i].day==(d:Int))
   ·rw [h1] at hq
    (repeat (first|simp only [↓QA,QB,seval,jE,bI,h1,hi1,List.length_append,hw]|refine rd0 rfl ?_))
    refine ⟨(i+1,s),⟨by simp only;omega,by simpa using hq⟩,by simp only;omega,?_⟩
    try simp only [aF,QE,seval,jE,bI,hw,S_mapLook]
    try simp [aT,okVs,okV]
   ·rw [h1] at hq
    (repeat (first|simp only [↓QA,QB,seval,jE,bI,h1,hi1,vs,va,hbit,List.length_append,hw]|refine rd0 rfl ?_))
    cases h2:bl.contains (i:Int)
    ·rw [h2] at hq
     (repeat (first|simp only [↓QA,QB,seval,jE,bI,h2,hi1,List.length_append,hw]|refine rd0 rfl ?_))
     ((first|refine aE (hof) rfl dd ?_|refine aG (hof) rfl dd ?_);(repeat (first|simp only [↓QA,QB,seval,jE,bI,List.length_append]|refine rd0 rfl ?_)))
     ((first|refine aE (DO s (ofC r.looks[i].colour)) rfl dd ?_|refine aG (DO s (ofC r.looks[i].colour)) rfl dd ?_);(repeat (first|simp only [↓QA,QB,seval,jE,bI,List.length_append,hw]|refine rd0 rfl ?_)))
     refine ⟨(i+1,gQ s (ofC r.looks[i].colour)),⟨by simp only;omega,by simpa using hq⟩,by simp only;omega,?_⟩
     try simp only [aF,QE,seval,jE,bI,hw,S_mapLook]
     try simp [aT,okVs,okV]
    ·rw [h2] at hq
     (repeat (first|simp only [↓QA,QB,seval,jE,bI,h2,hi1,List.length_append,hw]|refine rd0 rfl ?_))
     refine ⟨(i+1,s),⟨by simp only;omega,by simpa using hq⟩,by simp only;omega,?_⟩
     try simp only [aF,QE,seval,jE,bI,hw,S_mapLook]
     try simp [aT,okVs,okV]
  ·have hi1:i=r.looks.length:=by simp at h;omega
   rw [hi1,List.drop_length] at hq
   simp only [yQ] at hq
   rw [hq]
   (repeat (first|simp only [↓QA,QB,seval,jE,bI]|refine rd0 rfl ?_))
   refine hK _ ?_ ?_ ?_ ?_ ?_ ?_ ?_ ?_
   all_goals try simp only [aF,QE,seval,jE,bI]
end Go.Am.Room.Ro
set_option maxRecDepth 4000
namespace Go.Am.Room.Ro
def jC:=And.intro @gT (And.intro @dY (And.intro @eC (And.intro @dS (And.intro @dR (And.intro @Nat.mul_one (And.intro @Int.toNat_natCast (And.intro @encRoom_eq (And.intro @roomCells_eq (And.intro @encSetting_eq (And.intro @encLook_eq (And.intro @aC (And.intro @jI (And.intro @Nat.add_lt_add_iff_left (And.intro @Nat.lt_add_right_iff_pos (@bI)))))))))))))))
def fS (r:Rm) (bl:List Int) (i:Nat):Span:=(fwd r bl i).getD ⟨0,0⟩
def psF (r:Rm) (bl:List Int) (d:Nat):Nat→Span:=fun i=>if i<d then fS r bl i else ⟨0,0⟩
def O4 (r:Rm) (bl:List Int):Nat→Span
 |0=>r.start
 |d+1=>plus (fS r bl d) (jN r d)
def u7 (r:Rm) (bl:List Int) (d:Nat):Span:=yQ d bl (O4 r bl d) r.looks 0
theorem XH {r:Rm} (hv:Vd r) (bl:List Int) (d:Nat) (hd:d≤r.ran.length) (h:∀ i,i<d→(fwd r bl i).isSome=true):fwd r bl d=ne (u7 r bl d):=by
 have hc:∀ x∈r.looks,1≤x.colour∧x.colour≤7:=fun x hx=>(hv.looks x hx).2.2
 have hs:=hv.start
 have hdd:=hv.days
 have hdr:=hv.ranLen
 cases d with
 |zero =>
  simp only [u7,O4,fwd]
  rw [A6 _ bl _ _ _ hc hs.1 (by omega)]
  rfl
 |succ d =>
  obtain ⟨s,hs2⟩:=Option.isSome_iff_exists.1 (h d (by omega))
  have hb:=p9 hv bl d (by omega) s hs2
  have hg:=nQ hv (show d<r.ran.length by omega)
  have e1:fS r bl d=s:=by simp [fS,hs2]
  simp only [u7,O4,e1]
  rw [A6 _ bl _ _ _ hc (by simp only [plus];omega) (by simp only [plus];omega)]
  simp only [fwd,hs2,Option.bind_some]
  rfl
theorem Q4 (r:Rm) (bl:List Int) (d:Nat):MY (psF r bl d) d (fS r bl d)=psF r bl (d+1):=by
 funext i
 simp only [MY,psF]
 by_cases h1:i=d
 ·subst h1;simp
 ·by_cases h2:i<d
  ·simp [h1,h2,show i<d+1 by omega]
  ·simp [h1,h2,show ¬i<d+1 by omega]
theorem RD (σ:St) (r:Rm) (but:Nat) (bl:List Int) (e:Env) (K:KJ) (hv:Vd r) (hb:ButIs but bl)
  (e1:Env.get e 1 = .int .i64 but) (e2:Env.get e 2 = .ptr σ.length 0) (e6:Env.get e 6 = .ptr (σ.length+2) 0) (e7:Env.get e 7 = .int .i64 r.ran.length) (e25:Env.get e 25 = .int .i64 ((r.ran.length+1:Nat):Int)) (e26:Env.get e 26 = .int .i64 0)
  (hK:(∀ i,i≤r.ran.length→(fwd r bl i).isSome=true)→∀ e',Env.get e' 2 = .ptr σ.length 0→Env.get e' 6 = .ptr (σ.length+2) 0→Env.get e' 7 = .int .i64 r.ran.length →
   K (some (.exit 0)) e' (σ++[.cells (aI r),.map [],.cells (rb r (psF r bl (r.ran.length+1)) (σ.length+1))]))
  (hR:fwd r bl r.ran.length=none→∀ e' ps b,Env.get e' 4 = .ptr (σ.length+2) 0→Env.get e' 5 = .bool false→K (some .ret) e' (σ++[.cells (aI r),.map [],.cells (rb r ps (σ.length+1)),b])) :
  rK (K:=⟨K⟩) T (.loop K9) e (σ++[.cells (aI r),.map [],.cells (rb r (psF r bl 0) (σ.length+1))]):=by
 have hll:=hv.looksLen
 have hdd:=hv.days
 have hdr:=hv.ranLen
 have hss:=hv.start
 refine bU (S:=Nat) 0 (fun d=>d≤r.ran.length+1∧∀ i,i<d→(fwd r bl i).isSome=true) (fun d=>r.ran.length+1-d)
  (fun d=>[(1,.int .i64 but),(2,.ptr σ.length 0),(6,.ptr (σ.length+2) 0),(7,.int .i64 r.ran.length),(25,.int .i64 ((r.ran.length+1:Nat):Int)),(26,.int .i64 d)])
  (fun d=>σ++[.cells (aI r),.map [],.cells (rb r (psF r bl d) (σ.length+1))]) ⟨by simp,by simp⟩ rfl ?_ fun d hd=>?_
 ·try simp only [aF,QE,Nat.reduceLT,reduceIte,Nat.reduceEqDiff,Nat.reduceAdd,Nat.reduceLeDiff,Nat.reduceMul,Nat.reduceBEq,jC,e1,e2,e6,e7,e25,e26]
  try simp
 ·obtain ⟨hd,hsome⟩:=hd
  (repeat (first|simp only [↓QA,QB,Nat.reduceLT,reduceIte,Nat.reduceEqDiff,Nat.reduceAdd,Nat.reduceLeDiff,Nat.reduceMul,Nat.reduceBEq,jC,K9]|refine rd0 rfl ?_))
  refine aJ (fun h=>?_) fun h=>?_
  ·have hd1:d<r.ran.length+1:=by simp at h;omega
   have hw:IntKind.i64.wrap ((d:Int)+1)=((d+1:Nat):Int):=b7 hd1 (by omega)
   have hcur:=XH hv bl d (by omega) hsome
   have hin:=YN σ r but bl (psF r bl d) d (O4 r bl d)
   rw [roomCells_eq] at hin
   have hd7:d<7:=by omega
   cases h0:decide ((0:Int)<(d:Int))
   case' false =>
    have h0':d=0:=by simp at h0;omega
    have hpre:O4 r bl d=r.start:=by rw [h0'];rfl
    have hC:u7 r bl d=yQ d bl r.start r.looks 0:=by rw [u7,hpre]
    rw [hpre,←hC] at hin
    (repeat (first|simp only [↓QA,QB,Nat.reduceLT,reduceIte,Nat.reduceEqDiff,Nat.reduceAdd,Nat.reduceLeDiff,Nat.reduceMul,Nat.reduceBEq,jC,List.length_append,h0]|refine rd0 rfl ?_))
   case' true =>
    have h0':0<d:=by simp at h0;omega
    obtain ⟨k,hdk⟩:∃ k,d=k+1:=⟨d-1,by omega⟩
    have hpre:O4 r bl d=plus (fS r bl k) (jN r k):=by rw [hdk];rfl
    have hk1:k<r.ran.length:=by omega
    have hk7:k<7:=by omega
    have hw2:IntKind.i64.wrap ((d:Int)-1)=(k:Int):=by rw [aX ⟨by omega,by omega⟩];omega
    have hg:=hv.ran _ (List.getElem_mem hk1)
    have hg0:0≤r.ran[k]:=hg.1
    have hg1:r.ran[k].toNat<r.settings.length:=by omega
    have hga:=zJ hk1 hg1
    have hgb:=nQ hv hk1
    obtain ⟨sp,hsp⟩:=Option.isSome_iff_exists.1 (hsome k (by omega))
    have hfb:=p9 hv bl k (by omega) sp hsp
    have hfs:fS r bl k=sp:=by simp [fS,hsp]
    have hpk:psF r bl d k=fS r bl k:=by simp [psF,show k<d by omega]
    have i1:(0:Int)≤(k:Int)∧(k:Int)<((7:Nat):Int):=⟨by omega,by omega⟩
    have b1:7+k*2+2≤22:=by omega
    have t1:=FY r (psF r bl d) (σ.length+1) k hk7
    rw [hpk] at t1
    have hC:u7 r bl d=yQ d bl (plus (fS r bl k) r.settings[r.ran[k].toNat].gain) r.looks 0:=by rw [u7,hpre,hga]
    rw [hpre,hga,←hC] at hin
    rw [hga] at hgb
    (repeat (first|simp only [↓QA,QB,Nat.reduceLT,reduceIte,Nat.reduceEqDiff,Nat.reduceAdd,Nat.reduceLeDiff,Nat.reduceMul,Nat.reduceBEq,jC,List.length_append,h0]|refine rd0 rfl ?_))
    (repeat (first|simp only [↓QA,QB,Nat.reduceLT,reduceIte,Nat.reduceEqDiff,Nat.reduceAdd,Nat.reduceLeDiff,Nat.reduceMul,Nat.reduceBEq,jC,List.length_append,hw2,i1,b1,t1,hJ,hk1,DB,hg0,hg1]|refine rd0 rfl ?_))
    ((first|refine aE (mZ (fS r bl k) r.settings[r.ran[k].toNat].gain (by rw [hfs];omega) (by rw [hfs];omega) (by rw [hfs];omega) (by rw [hfs];omega)) rfl dd ?_|refine aG (mZ (fS r bl k) r.settings[r.ran[k].toNat].gain (by rw [hfs];omega) (by rw [hfs];omega) (by rw [hfs];omega) (by rw [hfs];omega)) rfl dd ?_);(repeat (first|simp only [↓QA,QB,Nat.reduceLT,reduceIte,Nat.reduceEqDiff,Nat.reduceAdd,Nat.reduceLeDiff,Nat.reduceMul,Nat.reduceBEq,jC,List.length_append,hw2,i1,b1,t1,hJ,hk1,DB,hg0,hg1]|refine rd0 rfl ?_)))
   all_goals
    refine hin _ _ hv hb ?_ ?_ ?_ ?_ ?_ ?_ ?_ ?_ ?_ ?_ ?_ ?_
    any_goals try simp only [aF,QE,Nat.reduceLT,reduceIte,Nat.reduceEqDiff,Nat.reduceAdd,Nat.reduceLeDiff,Nat.reduceMul,Nat.reduceBEq,jC]
    intro e' q1 q2 q6 q7 q8 q9 q25 q26
    (repeat (first|simp only [↓QA,QB,Nat.reduceLT,reduceIte,Nat.reduceEqDiff,Nat.reduceAdd,Nat.reduceLeDiff,Nat.reduceMul,Nat.reduceBEq,jC,q1,q2,q6,q7,q8,q9,q25,q26]|refine rd0 rfl ?_))
    cases hlt:decide ((u7 r bl d).hi<(u7 r bl d).lo)
    ·have hlt':¬(u7 r bl d).hi<(u7 r bl d).lo:=by simpa using hlt
     have hne:fwd r bl d=some (u7 r bl d):=by rw [hcur,ne,if_pos (by omega)]
     have hfd:fS r bl d=u7 r bl d:=by simp [fS,hne]
     have j1:(0:Int)≤(d:Int)∧(d:Int)<((7:Nat):Int):=⟨by omega,by omega⟩
     have c1:7+d*2+2≤22:=by omega
     have u1:=S7 r (psF r bl d) (σ.length+1) (u7 r bl d) d hd7
     rw [←hfd,Q4] at u1
     (repeat (first|simp only [↓QA,QB,Nat.reduceLT,reduceIte,Nat.reduceEqDiff,Nat.reduceAdd,Nat.reduceLeDiff,Nat.reduceMul,Nat.reduceBEq,jC,hlt,←hfd,q1,q2,q6,q7,q8,q9,q25,q26,j1,c1,u1,hJ]|refine rd0 rfl ?_))
     refine ⟨d+1,⟨by omega,fun i hi=>?_⟩,by omega,?_⟩
     ·by_cases hid:i=d
      ·rw [hid,hne];rfl
      ·exact hsome i (by omega)
     ·try simp only [aF,QE,Nat.reduceLT,reduceIte,Nat.reduceEqDiff,Nat.reduceAdd,Nat.reduceLeDiff,Nat.reduceMul,Nat.reduceBEq,jC,q1,q2,q6,q7,q8,q9,q25,q26,hw]
      have:=I0 r (psF r bl (d+1)) (show σ.length+1<σ.length+3 by omega)
      simp [aT,this]
    ·have hlt':(u7 r bl d).hi<(u7 r bl d).lo:=by simpa using hlt
     have hnone:fwd r bl d=none:=by rw [hcur,ne,if_neg (by omega)]
     have hlast:fwd r bl r.ran.length=none:=by
      cases hf:fwd r bl r.ran.length with
      |none=>rfl
      |some x =>
       have:=J1 (r:=r) (but:=bl) (d:=r.ran.length) (e:=d) (by omega) (by rw [hf];rfl)
       rw [hnone] at this
       cases this
     (repeat (first|simp only [↓QA,QB,Nat.reduceLT,reduceIte,Nat.reduceEqDiff,Nat.reduceAdd,Nat.reduceLeDiff,Nat.reduceMul,Nat.reduceBEq,jC,hlt,q1,q2,q6,q7,q8,q9,q25,q26]|refine rd0 rfl ?_))
     have hr:=hR hlast
     rw [roomCells_eq] at hr
     refine hr _ _ _ ?_ ?_
     all_goals try simp only [aF,QE,Nat.reduceLT,reduceIte,Nat.reduceEqDiff,Nat.reduceAdd,Nat.reduceLeDiff,Nat.reduceMul,Nat.reduceBEq,jC,q6]
  ·have hd1:d=r.ran.length+1:=by simp at h;omega
   subst hd1
   (repeat (first|simp only [↓QA,QB,Nat.reduceLT,reduceIte,Nat.reduceEqDiff,Nat.reduceAdd,Nat.reduceLeDiff,Nat.reduceMul,Nat.reduceBEq,jC]|refine rd0 rfl ?_))
   have hk:=hK (fun i hi=>hsome i (by omega))
   rw [roomCells_eq] at hk
   refine hk _ ?_ ?_ ?_
   all_goals try simp only [aF,QE,Nat.reduceLT,reduceIte,Nat.reduceEqDiff,Nat.reduceAdd,Nat.reduceLeDiff,Nat.reduceMul,Nat.reduceBEq,jC]
end Go.Am.Room.Ro
set_option maxRecDepth 4000
namespace Go.Am.Room.Ro
def jZ:=And.intro @gT (And.intro @dY (And.intro @eC (And.intro @dS (And.intro @dR (And.intro @Nat.mul_one (And.intro @Int.toNat_natCast (And.intro @encRoom_eq (And.intro @roomCells_eq (And.intro @encSetting_eq (And.intro @encLook_eq (And.intro @aC (And.intro @jI (And.intro @Nat.add_lt_add_iff_left (And.intro @Nat.lt_add_right_iff_pos (@bI)))))))))))))))
def gR (r:Rm) (ps:Nat→Span) (k:Nat):Nat→Span:=fun i=>if i<k then gQ (ps i) (back (ps (i+1)) (jN r i)) else ps i
theorem YG (r:Rm) (ps:Nat→Span):gR r ps 0=ps:=by funext i;simp [gR]
theorem M7 (r:Rm) (ps:Nat→Span) (k:Nat):MY (gR r ps k) k (gQ (ps k) (back (ps (k+1)) (jN r k)))=gR r ps (k+1):=by
 funext i
 simp only [MY,gR]
 by_cases h1:i=k
 ·subst h1;simp
 ·by_cases h2:i<k
  ·simp [h1,h2,show i<k+1 by omega]
  ·simp [h1,h2,show ¬i<k+1 by omega]
theorem PH (σ τ:St) (r:Rm) (ps:Nat→Span) (j:Nat) (e:Env) (K:KJ) (hv:Vd r) (hps:∀ i,-1000≤(ps i).lo∧(ps i).lo≤1000∧-1000≤(ps i).hi∧(ps i).hi≤1000) (hj:j<τ.length+3)
  (e2:Env.get e 2 = .ptr σ.length 0) (e6:Env.get e 6 = .ptr (σ.length+2) 0) (e7:Env.get e 7 = .int .i64 r.ran.length) (e12:Env.get e 12 = .ptr (σ.length+j) 0) (e101:Env.get e 101 = .int .i64 r.ran.length) (e102:Env.get e 102 = .int .i64 0)
  (hK:∀ e',Env.get e' 2 = .ptr σ.length 0→Env.get e' 6 = .ptr (σ.length+2) 0→Env.get e' 7 = .int .i64 r.ran.length→Env.get e' 12 = .ptr (σ.length+j) 0 →
   K (some (.exit 6)) e' (σ++(.cells (aI r)::.map []::.cells (rb r (gR r ps r.ran.length) (σ.length+1))::τ))) :
  rK (K:=⟨K⟩) T (.loop ME) e (σ++(.cells (aI r)::.map []::.cells (rb r ps (σ.length+1))::τ)):=by
 have hdd:=hv.days
 have hdr:=hv.ranLen
 refine bU (S:=Nat) 0 (fun k=>k≤r.ran.length) (fun k=>r.ran.length-k)
  (fun k=>[(2,.ptr σ.length 0),(6,.ptr (σ.length+2) 0),(7,.int .i64 r.ran.length),(12,.ptr (σ.length+j) 0),(101,.int .i64 r.ran.length),(102,.int .i64 k)])
  (fun k=>σ++(.cells (aI r)::.map []::.cells (rb r (gR r ps k) (σ.length+1))::τ)) (Nat.zero_le _) (by rw [YG]) ?_ fun k hk=>?_
 ·try simp only [aF,QE,Nat.reduceLT,reduceIte,Nat.reduceEqDiff,Nat.reduceAdd,Nat.reduceLeDiff,Nat.reduceMul,Nat.reduceBEq,jZ,e2,e6,e7,e12,e101,e102]
  try simp
 ·(repeat (first|simp only [↓QA,QB,Nat.reduceLT,reduceIte,Nat.reduceEqDiff,Nat.reduceAdd,Nat.reduceLeDiff,Nat.reduceMul,Nat.reduceBEq,jZ,ME]|refine rd0 rfl ?_))
  refine aJ (fun h=>?_) fun h=>?_
  ·have hk1:k<r.ran.length:=by simp at h;omega
   have hk7:k<7:=by omega
   have hk8:k+1<7:=by omega
   have hw:=b7 hk1 (by omega)
   have hg:=hv.ran _ (List.getElem_mem hk1)
   have hg0:0≤r.ran[k]:=hg.1
   have hg1:r.ran[k].toNat<r.settings.length:=by omega
   have hga:=zJ hk1 hg1
   have hgb:=nQ hv hk1
   rw [hga] at hgb
   have hb1:=hps (k+1)
   have p1:gR r ps k (k+1)=ps (k+1):=by simp [gR];omega
   have p0:gR r ps k k=ps k:=by simp [gR]
   have i1:(0:Int)≤(k:Int)∧(k:Int)<((7:Nat):Int):=⟨by omega,by omega⟩
   have i2:(0:Int)≤((k+1:Nat):Int)∧((k+1:Nat):Int)<((7:Nat):Int):=⟨by omega,by omega⟩
   have c1:7+k*2+2≤22:=by omega
   have c2:7+(k+1)*2+2≤22:=by omega
   have t0:=FY r (gR r ps k) (σ.length+1) k hk7
   have t1:=aE0 r (gR r ps k) (σ.length+1) (k+1) hk8
   have t2:=aFM r (gR r ps k) (σ.length+1) (k+1) hk8
   rw [p0] at t0
   rw [p1] at t1 t2
   have w1:IntKind.i64.wrap ((ps (k+1)).lo-r.settings[r.ran[k].toNat].gain.hi)=(ps (k+1)).lo-r.settings[r.ran[k].toNat].gain.hi:=aX ⟨by omega,by omega⟩
   have w2:IntKind.i64.wrap ((ps (k+1)).hi-r.settings[r.ran[k].toNat].gain.lo)=(ps (k+1)).hi-r.settings[r.ran[k].toNat].gain.lo:=aX ⟨by omega,by omega⟩
   obtain ⟨N,hN⟩:∃ N,gQ (ps k) (back (ps (k+1)) r.settings[r.ran[k].toNat].gain)=N:=⟨_,rfl⟩
   have hbk:back (ps (k+1)) r.settings[r.ran[k].toNat].gain=⟨(ps (k+1)).lo-r.settings[r.ran[k].toNat].gain.hi,(ps (k+1)).hi-r.settings[r.ran[k].toNat].gain.lo⟩:=rfl
   have hbo:=DO (ps k) (back (ps (k+1)) r.settings[r.ran[k].toNat].gain)
   rw [hN,hbk] at hbo
   have ku:=M7 r ps k
   rw [hga,hN] at ku
   (repeat (first|simp only [↓QA,QB,Nat.reduceLT,reduceIte,Nat.reduceEqDiff,Nat.reduceAdd,Nat.reduceLeDiff,Nat.reduceMul,Nat.reduceBEq,jZ,List.length_append]|refine rd0 rfl ?_))
   refine mU [.cells [.int .i64 0,.int .i64 0]] rfl ?_
   (repeat (first|simp only [↓QA,QB,Nat.reduceLT,reduceIte,Nat.reduceEqDiff,Nat.reduceAdd,Nat.reduceLeDiff,Nat.reduceMul,Nat.reduceBEq,jZ,List.length_append,hk1,DB,hg0,hg1]|refine rd0 rfl ?_))
   refine mU [.cells [.int .i64 0,.int .i64 0]] rfl ?_
   (repeat (first|simp only [↓QA,QB,Nat.reduceLT,reduceIte,Nat.reduceEqDiff,Nat.reduceAdd,Nat.reduceLeDiff,Nat.reduceMul,Nat.reduceBEq,jZ,List.length_append,hw,i2,c2,Nat.add_zero,t1,t2,hJ,w1,w2]|refine rd0 rfl ?_))
   refine mU [.cells [.int .i64 0,.int .i64 0]] rfl ?_
   (repeat (first|simp only [↓QA,QB,Nat.reduceLT,reduceIte,Nat.reduceEqDiff,Nat.reduceAdd,Nat.reduceLeDiff,Nat.reduceMul,Nat.reduceBEq,jZ,List.length_append,i1,c1,t0,hJ]|refine rd0 rfl ?_))
   ((first|refine aE (hbo) rfl dd ?_|refine aG (hbo) rfl dd ?_);(repeat (first|simp only [↓QA,QB,Nat.reduceLT,reduceIte,Nat.reduceEqDiff,Nat.reduceAdd,Nat.reduceLeDiff,Nat.reduceMul,Nat.reduceBEq,jZ,List.length_append,i1,c1,t0,hJ]|refine rd0 rfl ?_)))
   have hrb:=I0 r (gR r ps (k+1)) (show σ.length+1<σ.length+(τ.length+3) by omega)
   have u1:=S7 r (gR r ps k) (σ.length+1) N k hk7
   rw [ku] at u1
   cases hc:(N.lo==(ps k).lo&&N.hi==(ps k).hi)
   ·(repeat (first|simp only [↓QA,QB,Nat.reduceLT,reduceIte,Nat.reduceEqDiff,Nat.reduceAdd,Nat.reduceLeDiff,Nat.reduceMul,Nat.reduceBEq,jZ,List.length_append,i1,c1,t0,hJ,u1]|refine rd0 rfl ?_))
    refine ⟨k+1,hk1,by omega,?_⟩
    try simp only [aF,QE,Nat.reduceLT,reduceIte,Nat.reduceEqDiff,Nat.reduceAdd,Nat.reduceLeDiff,Nat.reduceMul,Nat.reduceBEq,jZ,hw,K7,List.length_append]
    try simp [aT,hrb,Nat.add_assoc]
    omega
   ·have hN2:N=ps k:=by
     simp only [Bool.and_eq_true,beq_iff_eq] at hc
     obtain ⟨a,b⟩:=N
     obtain ⟨x,y⟩:∃ s,s=ps k:=⟨_,rfl⟩
     rw [←y] at hc ⊢
     obtain ⟨c,d⟩:=x
     simp only [Span.mk.injEq] at *
     exact hc
    have hsame:gR r ps (k+1)=gR r ps k:=by
     rw [←ku,hN2,←p0]
     funext i
     simp only [MY]
     split
     ·rename_i h;rw [h]
     ·rfl
    (repeat (first|simp only [↓QA,QB,Nat.reduceLT,reduceIte,Nat.reduceEqDiff,Nat.reduceAdd,Nat.reduceLeDiff,Nat.reduceMul,Nat.reduceBEq,jZ,List.length_append]|refine rd0 rfl ?_))
    refine ⟨k+1,hk1,by omega,?_⟩
    rw [hsame]
    try simp only [aF,QE,Nat.reduceLT,reduceIte,Nat.reduceEqDiff,Nat.reduceAdd,Nat.reduceLeDiff,Nat.reduceMul,Nat.reduceBEq,jZ,hw,K7,List.length_append]
    rw [hsame] at hrb
    simp [aT,hrb,Nat.add_assoc]
    omega
  ·have hk1:k=r.ran.length:=by simp at h;omega
   subst hk1
   (repeat (first|simp only [↓QA,QB,Nat.reduceLT,reduceIte,Nat.reduceEqDiff,Nat.reduceAdd,Nat.reduceLeDiff,Nat.reduceMul,Nat.reduceBEq,jZ]|refine rd0 rfl ?_))
   have hk:=hK
   rw [roomCells_eq] at hk
   refine hk _ ?_ ?_ ?_ ?_
   all_goals try simp only [aF,QE,Nat.reduceLT,reduceIte,Nat.reduceEqDiff,Nat.reduceAdd,Nat.reduceLeDiff,Nat.reduceMul,Nat.reduceBEq,jZ]
def bS (r:Rm) (bl:List Int) (i:Nat):Span:=(bwd r bl (r.ran.length-i)).getD ⟨0,0⟩
def psB (r:Rm) (bl:List Int):Nat→Span:=fun i=>if i≤r.ran.length then bS r bl i else ⟨0,0⟩
def Sub (a b:Span):Prop:=b.lo≤a.lo∧a.hi≤b.hi
theorem Sub.antisymm {a b:Span} (h1:Sub a b) (h2:Sub b a):a=b:=by
 cases a;cases b
 simp only [Sub,Span.mk.injEq] at *
 omega
theorem CF {r:Rm} (hv:Vd r) {bl:List Int} (hs:(fwd r bl r.ran.length).isSome=true) (i:Nat) (hi:i≤r.ran.length):0≤(bS r bl i).lo∧(bS r bl i).lo≤(bS r bl i).hi∧(bS r bl i).hi<160∧Sub (bS r bl i) (fS r bl i):=by
 obtain ⟨b,f,h1,h2,h3,h4⟩:=nA hv hs (r.ran.length-i) (by omega)
 have hb:=vT hv bl _ (by omega) b h1
 rw [show r.ran.length-(r.ran.length-i)=i by omega] at h2
 have e1:bS r bl i=b:=by simp [bS,h1]
 have e2:fS r bl i=f:=by simp [fS,h2]
 rw [e1,e2]
 exact ⟨hb.1,hb.2.1,hb.2.2,h3,h4⟩
theorem VY (r:Rm) (bl:List Int):bS r bl r.ran.length=fS r bl r.ran.length:=by simp [bS,fS,bwd]
theorem F7 {r:Rm} (hv:Vd r) {bl:List Int} (hs:(fwd r bl r.ran.length).isSome=true) (i:Nat) (hi:i<r.ran.length):bS r bl i=gQ (fS r bl i) (back (bS r bl (i+1)) (jN r i)):=by
 obtain ⟨b,f,h1,h2,h3,h4⟩:=nA hv hs (r.ran.length-i) (by omega)
 obtain ⟨b',f',h1',h2',h3',h4'⟩:=nA hv hs (r.ran.length-(i+1)) (by omega)
 rw [show r.ran.length-(r.ran.length-i)=i by omega] at h2
 have e1:bS r bl i=b:=by simp [bS,h1]
 have e2:fS r bl i=f:=by simp [fS,h2]
 have e3:bS r bl (i+1)=b':=by simp [bS,h1']
 rw [e1,e2,e3]
 rw [show r.ran.length-i=(r.ran.length-(i+1))+1 by omega] at h1
 simp only [bwd,h1',Option.bind_some] at h1
 rw [show r.ran.length-(r.ran.length-(i+1)+1)=i by omega,h2] at h1
 simp only [Option.bind_some,ne] at h1
 split at h1
 ·exact (Option.some.inj h1).symm
 ·cases h1
structure Inv (r:Rm) (bl:List Int) (j:Nat) (ps:Nat→Span):Prop where
 inn:∀ i,i≤r.ran.length→Sub (bS r bl i) (ps i)∧Sub (ps i) (fS r bl i)
 out:∀ i,r.ran.length<i→ps i=⟨0,0⟩
 eq:∀ i,i≤r.ran.length→r.ran.length≤i+j→ps i=bS r bl i
theorem OK {r:Rm} (hv:Vd r) {bl:List Int} (hs:(fwd r bl r.ran.length).isSome=true):Inv r bl 0 (psF r bl (r.ran.length+1)):=by
 refine ⟨fun i hi=>?_,fun i hi=>?_,fun i hi h2=>?_⟩
 ·have:=(CF hv hs i hi).2.2.2
  simp only [psF,show i<r.ran.length+1 by omega,if_true]
  exact ⟨this,by simp [Sub]⟩
 ·simp only [psF,show ¬i<r.ran.length+1 by omega,if_false]
 ·have:i=r.ran.length:=by omega
  subst this
  simp [psF,VY]
theorem C4 {a b c:Span} (h1:Sub c a) (h2:Sub c b):Sub c (gQ a b):=by simp only [Sub,gQ] at *;omega
theorem RL {a b g:Span} (h:Sub a b):Sub (back a g) (back b g):=by simp only [Sub,back] at *;omega
theorem yR {a b c:Span} (h1:Sub a b) (h2:Sub b c):Sub a c:=by simp only [Sub] at *;omega
theorem TJ (a b:Span):Sub (gQ a b) a:=by simp only [Sub,gQ];omega
theorem KX (a b:Span):Sub (gQ a b) b:=by simp only [Sub,gQ];omega
theorem VB {r:Rm} (hv:Vd r) {bl:List Int} (hs:(fwd r bl r.ran.length).isSome=true) {j:Nat} {ps:Nat→Span} (h:Inv r bl j ps):Inv r bl (j+1) (gR r ps r.ran.length):=by
 have key:∀ i,i<r.ran.length→Sub (bS r bl i) (gQ (ps i) (back (ps (i+1)) (jN r i))):=fun i hi=>by
  have e:=F7 hv hs i hi
  refine C4 (h.inn i (by omega)).1 ?_
  rw [e]
  exact yR (KX _ _) (RL (h.inn (i+1) hi).1)
 refine ⟨fun i hi=>?_,fun i hi=>?_,fun i hi h2=>?_⟩
 ·by_cases hl:i<r.ran.length
  ·simp only [gR,hl,if_true]
   exact ⟨key i hl,yR (TJ _ _) (h.inn i hi).2⟩
  ·simp only [gR,hl,if_false]
   exact h.inn i hi
 ·simp only [gR,show ¬i<r.ran.length by omega,if_false]
  exact h.out i hi
 ·by_cases hl:i<r.ran.length
  ·simp only [gR,hl,if_true]
   refine Sub.antisymm ?_ (key i hl)
   rw [F7 hv hs i hl,h.eq (i+1) hl (by omega)]
   exact C4 (yR (TJ _ _) (h.inn i hi).2) (KX _ _)
  ·simp only [gR,hl,if_false]
   exact h.eq i hi (by omega)
theorem aAR {r:Rm} (hv:Vd r) {bl:List Int} (hs:(fwd r bl r.ran.length).isSome=true) {j:Nat} {ps:Nat→Span} (h:Inv r bl j ps) (i:Nat):-1000≤(ps i).lo∧(ps i).lo≤1000∧-1000≤(ps i).hi∧(ps i).hi≤1000:=by
 by_cases hi:i≤r.ran.length
 ·obtain ⟨h1,h2⟩:=h.inn i hi
  have h3:=CF hv hs i hi
  have hdd:=hv.days
  have hdr:=hv.ranLen
  obtain ⟨f,hf⟩:=Option.isSome_iff_exists.1 (J1 (r:=r) (but:=bl) (d:=r.ran.length) hi hs)
  have h4:=p9 hv bl i hi f hf
  have e2:fS r bl i=f:=by simp [fS,hf]
  rw [e2] at h2
  simp only [Sub] at *
  omega
 ·rw [h.out i (by omega)];simp
theorem OH {r:Rm} (hv:Vd r) {bl:List Int} (hs:(fwd r bl r.ran.length).isSome=true) {j:Nat} {ps:Nat→Span} (h:Inv r bl j ps) (hf:∀ i,i<r.ran.length→ps i=gR r ps r.ran.length i):∀ k i,i+k=r.ran.length→ps i=bS r bl i
 |0,i,hi=>h.eq i (by omega) (by omega)
 |k+1,i,hi=>by
  have ih:=OH hv hs h hf k (i+1) (by omega)
  have hl:i<r.ran.length:=by omega
  have e:=hf i hl
  simp only [gR,hl,if_true,ih] at e
  refine Sub.antisymm ?_ (h.inn i (by omega)).1
  rw [F7 hv hs i hl]
  refine C4 (h.inn i (by omega)).2 ?_
  rw [e]
  exact KX _ _
structure PInv (r:Rm) (bl:List Int) (j:Nat) (was ps:Nat→Span):Prop where
 now:Inv r bl j ps
 le:j≤r.ran.length+1
 first:j=0→was=fun _=>⟨0,0⟩
 later:1≤j→Inv r bl (j-1) was∧ps=gR r was r.ran.length
theorem OJ {r:Rm} (hv:Vd r) {bl:List Int} (hs:(fwd r bl r.ran.length).isSome=true) {j:Nat} {was ps:Nat→Span} (h:PInv r bl j was ps) (he:nW was ps=true) (i:Nat) (hi:i<7):ps i=psB r bl i:=by
 rw [tE] at he
 have hdd:=hv.days
 have hdr:=hv.ranLen
 by_cases hl:i≤r.ran.length
 ·simp only [psB,hl,if_true]
  by_cases hj:j=0
  ·have h0:=he i hi
   rw [h.first hj] at h0
   obtain ⟨h1,_⟩:=h.now.inn i hl
   have h3:=CF hv hs i hl
   rw [←h0] at h1 ⊢
   refine Sub.antisymm ?_ h1
   simp only [Sub] at *
   omega
  ·obtain ⟨h1,h2⟩:=h.later (by omega)
   have hw:was i=bS r bl i:=OH hv hs h1 (fun i hi=>by rw [←h2];exact he i (by omega)) (r.ran.length-i) i (by omega)
   rw [←hw,he i hi]
 ·simp only [psB,hl,if_false]
  exact h.now.out i (by omega)
theorem PL {r:Rm} (hv:Vd r) {bl:List Int} (hs:(fwd r bl r.ran.length).isSome=true) {j:Nat} {was ps:Nat→Span} (h:PInv r bl j was ps) (he:nW was ps=false):j≤r.ran.length∧PInv r bl (j+1) ps (gR r ps r.ran.length):=by
 have hj:j≤r.ran.length:=by
  by_cases hj:j≤r.ran.length
  ·exact hj
  ·exfalso
   have hje:j=r.ran.length+1:=by have:=h.le;omega
   obtain ⟨h1,h2⟩:=h.later (by omega)
   have:nW was ps=true:=by
    rw [tE]
    intro d hd
    by_cases hl:d≤r.ran.length
    ·rw [h1.eq d hl (by omega),h.now.eq d hl (by omega)]
    ·rw [h1.out d (by omega),h.now.out d (by omega)]
   rw [he] at this
   cases this
 exact ⟨hj,VB hv hs h.now,by omega,by omega,fun _=>⟨h.now,rfl⟩⟩
theorem LM {r:Rm} (hv:Vd r) {bl:List Int} (hs:(fwd r bl r.ran.length).isSome=true):PInv r bl 0 (fun _=>⟨0,0⟩) (psF r bl (r.ran.length+1)) :=
 ⟨OK hv hs,by omega,fun _=>rfl,by omega⟩
theorem S0 {r:Rm} {ps qs:Nat→Span} {m:Nat} (h:∀ i,i<7→ps i=qs i):rb r ps m=rb r qs m:=by
 simp only [rb,cM,h 0 (by omega),h 1 (by omega),h 2 (by omega),h 3 (by omega),h 4 (by omega),h 5 (by omega),h 6 (by omega)]
end Go.Am.Room.Ro
set_option maxRecDepth 4000
namespace Go.Am.Room.Ro
def eH:=And.intro @gT (And.intro @dY (And.intro @eC (And.intro @dS (And.intro @dR (And.intro @Nat.mul_one (And.intro @Int.toNat_natCast (And.intro @encRoom_eq (And.intro @roomCells_eq (And.intro @encSetting_eq (And.intro @encLook_eq (And.intro @aC (And.intro @jI (And.intro @Nat.add_lt_add_iff_left (And.intro @Nat.lt_add_right_iff_pos (And.intro @bI (@XW))))))))))))))))
theorem dE (ps:Nat→Span):(cM ps).take 14=cM ps:=rfl
theorem dF (ps:Nat→Span):(cM ps).drop 14=[]:=rfl
theorem dG (ps:Nat→Span):bM (cM ps)=true:=by simp [cM,bM,AV.cell]
theorem aBL (ps:Nat→Span) (m:Nat):okVs m (cM ps):=by simp [cM,okVs,okV]
theorem S4 (σ:St) (r:Rm) (bl:List Int) (e:Env) (K:KJ) (hv:Vd r) (hs:(fwd r bl r.ran.length).isSome=true)
  (e2:Env.get e 2 = .ptr σ.length 0) (e6:Env.get e 6 = .ptr (σ.length+2) 0) (e7:Env.get e 7 = .int .i64 r.ran.length) (e12:Env.get e 12 = .ptr (σ.length+3) 0)
  (hK:∀ e' τ,Env.get e' 6 = .ptr (σ.length+2) 0→K (some (.exit 4)) e' (σ++(.cells (aI r)::.map []::.cells (rb r (psB r bl) (σ.length+1))::τ))) :
  rK (K:=⟨K⟩) T (.loop LP) e (σ++[.cells (aI r),.map [],.cells (rb r (psF r bl (r.ran.length+1)) (σ.length+1)),.cells (cM fun _=>⟨0,0⟩)]):=by
 refine bU (S:=Nat×(Nat→Span)×(Nat→Span)×St) (0,(fun _=>⟨0,0⟩),psF r bl (r.ran.length+1),[]) (fun s=>PInv r bl s.1 s.2.1 s.2.2.1) (fun s=>r.ran.length+2-s.1)
  (fun s=>[(2,.ptr σ.length 0),(6,.ptr (σ.length+2) 0),(7,.int .i64 r.ran.length),(12,.ptr (σ.length+(s.2.2.2.length+3)) 0)])
  (fun s=>σ++(.cells (aI r)::.map []::.cells (rb r s.2.2.1 (σ.length+1))::(s.2.2.2++[.cells (cM s.2.1)]))) (LM hv hs) rfl ?_ fun s hP=>?_
 ·try simp only [aF,QE,seval,eH,dE,dF,dG,e2,e6,e7,e12]
  try simp
 ·obtain ⟨j,was,ps,olds⟩:=s
  simp only at hP
  have c1:7+14≤22:=by omega
  (repeat (first|simp only [↓QA,QB,seval,eH,dE,dF,dG,LP,T5,hJ,aAJ,aCC,List.take_append_of_le_length]|refine rd0 rfl ?_))
  cases hc:nW was ps
  ·obtain ⟨hj,hnext⟩:=PL hv hs hP hc
   have hpass:=PH σ (olds++[.cells (cM ps)]) r ps (olds.length+3)
   rw [roomCells_eq] at hpass
   (repeat (first|simp only [↓QA,QB,seval,eH,dE,dF,dG,T5,hJ]|refine rd0 rfl ?_))
   refine hpass _ _ hv (aAR hv hs hP.now) (by simp) ?_ ?_ ?_ ?_ ?_ ?_ ?_
   any_goals try simp only [aF,QE,seval,eH,dE,dF,dG]
   intro e' q2 q6 q7 q12
   (repeat (first|simp only [↓QA,QB,seval,eH,dE,dF,dG,q2,q6,q7,q12,List.length_append]|refine rd0 rfl ?_))
   refine ⟨(j+1,ps,gR r ps r.ran.length,olds++[.cells (cM ps)]),hnext,by simp only;omega,?_⟩
   have hrb:=I0 r (gR r ps r.ran.length) (show σ.length+1<σ.length+(olds.length+5) by omega)
   try simp only [aF,QE,seval,eH,dE,dF,dG,q2,q6,q7,q12,List.length_append,DD]
   try simp [aT,hrb,aBL,Nat.add_assoc]
  ·have hps:rb r ps (σ.length+1)=rb r (psB r bl) (σ.length+1):=S0 fun i hi=>OJ hv hs hP hc i hi
   rw [hps]
   (repeat (first|simp only [↓QA,QB,seval,eH,dE,dF,dG]|refine rd0 rfl ?_))
   have hk:=hK
   rw [roomCells_eq] at hk
   refine hk _ _ ?_
   all_goals try simp only [aF,QE,seval,eH,dE,dF,dG]
theorem jU (m:Nat) (σ b c:St):EqS m σ (σ++b) (σ++c)=EqS m [] b c:=by have:=bI m σ [] b c;rwa [List.append_nil] at this
def k7 (σ:St) (r:Rm) (ps:Nat→Span):St:=σ++[.cells (aI r),.map [],.cells (rb r ps (σ.length+1))]
theorem V3 (r:Rm) (bl:List Int) (m:Nat):rb r (psF r bl 0) m=aI r++[.int .i64 0,.int .i64 0,.int .i64 0,.int .i64 0,.int .i64 0,.int .i64 0,.int .i64 0,.int .i64 0,.int .i64 0,.int .i64 0,.int .i64 0,.int .i64 0,.int .i64 0,.int .i64 0,.map m]:=by
 simp [rb,cM,psF]
theorem Q7:cM (fun _=>⟨0,0⟩)=[.int .i64 0,.int .i64 0,.int .i64 0,.int .i64 0,.int .i64 0,.int .i64 0,.int .i64 0,.int .i64 0,.int .i64 0,.int .i64 0,.int .i64 0,.int .i64 0,.int .i64 0,.int .i64 0]:=rfl
theorem F5q (σ:St) (r:Rm) (but:Nat) (bl:List Int) (hv:Vd r) (hb:ButIs but bl) (ra:AV) (hra:ra=encRoom r∨clr ra=encRoom r) :
  Run T (.callv (.func 230 [] []) [ra,.int .i64 but] σ) fun o=>∃ ps,o.v = .tuple [.ptr (σ.length+2) 0,.bool (bQ r bl)]∧o.σ=k7 σ r ps∧(bQ r bl=true→ps=psB r bl):=by
 refine .callf (.call (af:=a230) rfl (by simp [a230]) (R:=fun o=>(o.j=none∨o.j=some .ret)∧∃ ps,o.env=[(4,.ptr (σ.length+2) 0),(5,.bool (bQ r bl))]∧o.σ=k7 σ r ps∧(bQ r bl=true→ps=psB r bl)) ?_ fun o ho=>?_)
 ·refine .weak (env':=fC 0 [encRoom r,.int .i64 but]) (fun t=>?_) ?_
  ·simp only [List.nil_append,List.append_nil,fC,Env.get]
   by_cases h0:0=t
   ·subst h0
    simp only [if_true]
    rcases hra with h|h
    ·exact .inr (.inl h.symm)
    ·exact .inr (.inr h.symm)
   ·simp [h0]
  refine .trim2 (R:=fun o=>(o.j=none∨o.j=some .ret)∧∃ ps τ,Env.get o.env 4 = .ptr (σ.length+2) 0∧Env.get o.env 5 = .bool (bQ r bl)∧o.σ=σ++(.cells (aI r)::.map []::.cells (rb r ps (σ.length+1))::τ)∧(bQ r bl=true→ps=psB r bl)) ?_ fun o ho=>?_
  ·refine eQ (K:=fun j e σ1=>(j=none∨j=some .ret)∧∃ ps τ,Env.get e 4 = .ptr (σ.length+2) 0∧Env.get e 5 = .bool (bQ r bl)∧σ1=σ++(.cells (aI r)::.map []::.cells (rb r ps (σ.length+1))::τ)∧(bQ r bl=true→ps=psB r bl)) ?_ fun o ho=>ho
   have hdd:=hv.days
   have hdr:=hv.ranLen
   have hw:IntKind.i64.wrap ((r.ran.length:Int)+1)=((r.ran.length+1:Nat):Int):=by rw [aX ⟨by omega,by omega⟩];omega
   have hfw:=RD σ r but bl
   rw [V3] at hfw
   rw [roomCells_eq] at hfw
   (repeat (first|simp only [↓QA,QB,seval,eH,dE,dF,dG,a230,List.length_append,hw]|refine rd0 rfl ?_))
   refine hfw _ _ hv hb ?_ ?_ ?_ ?_ ?_ ?_ ?_ ?_
   ·try simp only [aF,QE,seval,eH,dE,dF,dG]
   ·try simp only [aF,QE,seval,eH,dE,dF,dG]
   ·try simp only [aF,QE,seval,eH,dE,dF,dG]
   ·try simp only [aF,QE,seval,eH,dE,dF,dG]
   ·try simp only [aF,QE,seval,eH,dE,dF,dG]
   ·try simp only [aF,QE,seval,eH,dE,dF,dG]
   ·intro hall e' q2 q6 q7
    have hs:=hall _ (Nat.le_refl _)
    have hsb:bQ r bl=true:=by rw [k9 hv];exact hs
    have hfx:=S4 σ r bl
    rw [Q7,roomCells_eq] at hfx
    (repeat (first|simp only [↓QA,QB,seval,eH,dE,dF,dG,q2,q6,q7,List.length_append]|refine rd0 rfl ?_))
    refine hfx _ _ hv hs ?_ ?_ ?_ ?_ ?_
    ·try simp only [aF,QE,seval,eH,dE,dF,dG,q2,q6,q7]
    ·try simp only [aF,QE,seval,eH,dE,dF,dG,q2,q6,q7]
    ·try simp only [aF,QE,seval,eH,dE,dF,dG,q2,q6,q7]
    ·try simp only [aF,QE,seval,eH,dE,dF,dG,q2,q6,q7]
    ·intro e' τ q6
     (repeat (first|simp only [↓QA,QB,seval,eH,dE,dF,dG,q6]|refine rd0 rfl ?_))
     refine ⟨psB r bl,τ,?_⟩
     simp [q6,hsb]
   ·intro hnone e' ps b q4 q5
    have hsb:bQ r bl=false:=by rw [k9 hv,hnone];rfl
    (repeat (first|simp only [↓QA,QB,seval,eH,dE,dF,dG,q4,q5]|refine rd0 rfl ?_))
    refine ⟨ps,[b],?_⟩
    simp [q4,q5,hsb]
  ·obtain ⟨hj,ps,τ,q4,q5,hσ,hps⟩:=ho
   refine .inr ⟨[(4,.ptr (σ.length+2) 0),(5,.bool (bQ r bl))],k7 σ r ps,BJ ?_,hj,ps,rfl,rfl,hps⟩
   have hrb:=I0 r ps (show σ.length+1<σ.length+3 by omega)
   have hrc:okVs (σ.length+3) (aI r):=okVs_up _ (show okVs 0 (aI r) from (y7 r).1)
   rw [roomCells_eq] at hrc
   rw [hσ,k7]
   try simp only [aF,QE,seval,eH,dE,dF,dG,q4,q5,jU]
   try simp [aT,hrb,hrc]
 ·obtain ⟨hj,ps,he,hσ,hps⟩:=ho
  refine ⟨hj,.tuple [.ptr (σ.length+2) 0,.bool (bQ r bl)],?_,.inl ⟨ps,rfl,hσ,hps⟩⟩
  rw [he]
  rfl
theorem yB (σ:St) (r:Rm) (but:Nat) (bl:List Int) (hv:Vd r) (hb:ButIs but bl) :
  Run T (.callv (.func 230 [] []) [encRoom r,.int .i64 but] σ) fun o=>∃ ps,o.v = .tuple [.ptr (σ.length+2) 0,.bool (bQ r bl)]∧o.σ=k7 σ r ps∧(bQ r bl=true→ps=psB r bl):=F5q σ r but bl hv hb _ (.inl rfl)
def aH:=And.intro @encRoom_eq (And.intro @roomCells_eq (And.intro @encSetting_eq (And.intro @encLook_eq (@aC))))
def gN {α:Type} (p:α→Bool):List α→Nat→Int
 |[],_=>-1
 |x::xs,k=>if p x then k else gN p xs (k+1)
theorem lZ {α:Type} (p:α→Bool):∀ (l:List α) (k:Nat),decide (0≤gN p l k)=l.any p
 |[],k=>by simp [gN]
 |x::xs,k=>by
  cases h:p x
  ·simp [gN,h,lZ p xs (k+1)]
  ·simp [gN,h]
theorem yO (σ:St) (f:AV) (l:List Int) (p:Int→Bool) (hl:l.length<9223372036854775808) (hk:nI σ f) (h:∀ x∈l,eA T f [.int .i64 x] σ (.bool (p x))):eA T (.func 257 [] []) [ints l,f] σ (.int .i64 (gN p l 0)):=by
 refine bR (af:=a257) rfl (by simp [a257]) ?_
 have hk0:=hk.nil
 (repeat (first|simp only [↓QA,QB,seval,aH,a257]|refine rd0 rfl ?_))
 refine bU (S:=Nat) 0 (fun k=>k≤l.length∧gN p (l.drop k) k=gN p l 0) (fun k=>l.length-k) (fun k=>[(0,ints l),(1,f),(7,.int .i64 l.length),(8,.int .i64 k)]) (fun _=>σ) ⟨Nat.zero_le _,by simp⟩ rfl ?_ fun k hk1=>?_
 ·try simp only [aF,QE,seval,aH]
  try simp
 ·obtain ⟨hkl,hi⟩:=hk1
  (repeat (first|simp only [↓QA,QB,seval,aH,KU]|refine rd0 rfl ?_))
  refine aJ (fun hd=>?_) fun hd=>?_
  ·have hlt:k<l.length:=by simpa using hd
   rw [List.drop_eq_getElem_cons hlt] at hi
   simp only [gN] at hi
   have hw:=b7 hlt hl
   (repeat (first|simp only [↓QA,QB,seval,aH,hlt]|refine rd0 rfl ?_))
   refine aV (h l[k] (List.getElem_mem hlt)) ?_
   (repeat (first|simp only [↓QA,QB,seval,aH]|refine rd0 rfl ?_))
   cases hp:p l[k]
   ·(repeat (first|simp only [↓QA,QB,seval,aH,hw]|refine rd0 rfl ?_))
    refine ⟨k+1,⟨by omega,by rw [←hi,hp];rfl⟩,by omega,?_⟩
    try simp only [aF,QE,seval,aH,hw,hk0,Nat.le_refl]
   ·(repeat (first|simp only [↓QA,QB,seval,aH]|refine rd0 rfl ?_))
    refine bY [] (by first|rfl|simp) ?_
    rw [←hi,hp]
    try simp only [QS,QC,seval,aH]
  ·have hlt:k=l.length:=by simp at hd;omega
   (repeat (first|simp only [↓QA,QB,seval,aH]|refine rd0 rfl ?_))
   refine bY [] (by first|rfl|simp) ?_
   rw [←hi,hlt,List.drop_length]
   try simp only [QS,QC,seval,aH,gN]
theorem lG (σ:St) (f:AV) (l:List Int) (p:Int→Bool) (hl:l.length<9223372036854775808) (hk:nI σ f) (h:∀ x∈l,eA T f [.int .i64 x] σ (.bool (p x))):eA T (.func 356 [] []) [ints l,f] σ (.bool (l.any p)):=by
 refine bR (af:=a356) rfl (by simp [a356]) ?_
 (repeat (first|simp only [↓QA,QB,seval,aH,a356]|refine rd0 rfl ?_))
 refine aV (yO σ f l p hl hk h) ?_
 (repeat (first|simp only [↓QA,QB,seval,aH]|refine rd0 rfl ?_))
 refine bY [] (by first|rfl|simp) ?_
 rw [←lZ p l 0]
 try simp only [QS,QC,seval,aH]
def fQ (lo hi n:Int):Bool:=decide (n<lo)||decide (hi<n)
theorem v6 (lo hi n:Int):eA T (.func 357 [] [.ptr 0 0,.ptr 1 0]) [.int .i64 n] [.cells [.int .i64 lo],.cells [.int .i64 hi]] (.bool (fQ lo hi n)):=by
 refine bR (af:=a357) rfl (by simp [a357]) ?_
 (repeat (first|simp only [↓QA,QB,seval,aH,a357]|refine rd0 rfl ?_))
 refine aJ (fun h=>?_) fun h=>?_
 all_goals
  (repeat (first|simp only [↓QA,QB,seval,aH,h]|refine rd0 rfl ?_))
  refine bY [] (by first|rfl|simp) ?_
  try simp only [QS,QC,seval,aH,fQ,h]
  try simp
def iV (lo hi:Int) (ns:List Int):Bool:=ns.any (fQ lo hi)
theorem aY (lo hi:Int) (ns:List Int) (hl:ns.length<9223372036854775808):cN T 227 [.int .i64 lo,.int .i64 hi,ints ns] (.bool (iV lo hi ns)):=by
 refine aQ (af:=a227) rfl (by simp [a227]) dd ?_
 (repeat (first|simp only [↓QA,QB,seval,aH,a227]|refine rd0 rfl ?_))
 refine aV (lG _ _ ns (fQ lo hi) hl (fun τ=>?_) fun x _=>v6 lo hi x) ?_
 ·try simp only [QS,QC,seval,aH]
 ·(repeat (first|simp only [↓QA,QB,seval,aH,iV]|refine rd0 rfl ?_))
theorem G8 (lo hi n:Int):eA T (.func 378 [] [.ptr 0 0,.ptr 1 0]) [.int .i64 n] [.cells [.int .i64 lo],.cells [.int .i64 hi]] (.bool (fQ lo hi n)):=by
 refine bR (af:=a378) rfl (by simp [a378]) ?_
 (repeat (first|simp only [↓QA,QB,seval,aH,a378]|refine rd0 rfl ?_))
 refine aJ (fun h=>?_) fun h=>?_
 all_goals
  (repeat (first|simp only [↓QA,QB,seval,aH,h]|refine rd0 rfl ?_))
  refine bY [] (by first|rfl|simp) ?_
  try simp only [QS,QC,seval,aH,fQ,h]
  try simp
theorem BK (lo hi:Int) (ns:List Int) (hl:ns.length<9223372036854775808):cN T 244 [.int .i64 lo,.int .i64 hi,ints ns] (.bool (iV lo hi ns)):=by
 refine aQ (af:=a244) rfl (by simp [a244]) dd ?_
 (repeat (first|simp only [↓QA,QB,seval,aH,a244]|refine rd0 rfl ?_))
 refine aV (lG _ _ ns (fQ lo hi) hl (fun τ=>?_) fun x _=>G8 lo hi x) ?_
 ·try simp only [QS,QC,seval,aH]
 ·(repeat (first|simp only [↓QA,QB,seval,aH,iV]|refine rd0 rfl ?_))
theorem m6 (s:ByteArray):∀ n k,k≤n→eF s k=false→eF s n=false
  | 0, k, h, h1 => by have : k = 0 := by omega
                      subst this;exact h1
  |n+1,k,h,h1=>by
    by_cases hk:k=n+1
    · subst hk;exact h1
    · simp [eF,m6 s n k (by omega) h1]
theorem fK (lo hi n:Int):iV lo hi [n] = !inR n lo hi:=by
 rw [Bool.eq_iff_iff];simp [iV,fQ,inR]
theorem xS (lo hi n m:Int):iV lo hi [n,m]=(!inR n lo hi||!inR m lo hi):=by
 rw [Bool.eq_iff_iff];simp [iV,fQ,inR]
theorem m5 (s:ByteArray) (hs:s.size<9223372036854775808):cN T 111 [.str s] (.bool (kJ s)):=by
 refine aQ (af:=a111) rfl (by simp [a111]) dd ?_
 (repeat (first|simp only [↓QA,QB,seval,aH,a111]|refine rd0 rfl ?_))
 refine bU (S:=Nat) 0 (fun k=>k≤s.size∧eF s k=true) (fun k=>s.size-k) (fun k=>[(0,.str s),(7,.ptr 0 0)]) (fun k=>[.siter s k]) ⟨Nat.zero_le _,rfl⟩ rfl ?_ fun k hk=>?_
 ·try simp only [aF,QE,seval,aH]
  try simp
 ·obtain ⟨hkl,hok⟩:=hk
  by_cases hk1:k<s.size
  ·obtain ⟨R,hR⟩:∃ R:Int,((Utf8.decode s k).1:Int)=R:=⟨_,rfl⟩
   obtain ⟨W,hW⟩:∃ W,(Utf8.decode s k).2=W:=⟨_,rfl⟩
   have hstep:eF s (k+1)=uD k (dI s k):=by simp [eF,hok]
   have hbl:=yM s k
   have key:(97≤R∧R≤122∨0<k∧(R=46∨48≤R∧R≤57))→W=1∧eF s (k+1)=true:=by
    intro h
    by_cases hb:dI s k<128
    ·have:=nO hk1 hb
     rw [this] at hR hW
     have hR':R=dI s k:=by simp at hR;omega
     refine ⟨hW.symm,?_⟩
     rw [hstep,uD,←hR']
     simp [inR]
     omega
    ·have:=zT hk1 (by omega)
     omega
   have key2:¬(97≤R∧R≤122∨0<k∧(R=46∨48≤R∧R≤57))→kJ s=false:=by
    intro h
    have:eF s (k+1)=false:=by
     rw [hstep,uD]
     by_cases hb:dI s k<128
     ·have:=nO hk1 hb
      rw [this] at hR hW
      have hR':R=dI s k:=by simp at hR;omega
      rw [←hR']
      simp [inR]
      omega
     ·simp [inR];omega
    simp [kJ,m6 s s.size (k+1) (by omega) this]
   have go:∀ (e:Env),W=1∧eF s (k+1)=true→Env.get e 0 = .str s→Env.get e 7 = .ptr 0 0→∃ s',(s'≤s.size∧eF s s'=true)∧s.size-s'<s.size-k∧aF [.siter s k] e [.siter s (k+W)] [(0,.str s),(7,.ptr 0 0)] [.siter s s']:=by
    intro e h e0 e7
    refine ⟨k+1,⟨by omega,h.2⟩,by omega,?_⟩
    try simp only [aF,QE,seval,aH,e0,e7,h.1]
    try simp [aT]
   (repeat (first|simp only [↓QA,QB,seval,aH,DG,IW hk1,hR,hW]|refine rd0 rfl ?_))
   cases h1:decide (97≤R)
   ·have h1':¬97≤R:=by simpa using h1
    (repeat (first|simp only [↓QA,QB,seval,aH,h1]|refine rd0 rfl ?_))
    cases h3:((k:Int)==0)
    ·have h3':0<k:=by simp at h3;omega
     (repeat (first|simp only [↓QA,QB,seval,aH,h3]|refine rd0 rfl ?_))
     cases h4:(R==46)
     ·have h4':R≠46:=by simpa using h4
      (repeat (first|simp only [↓QA,QB,seval,aH,h4]|refine rd0 rfl ?_))
      cases h5:decide (R<48)
      ·have h5':¬R<48:=by simpa using h5
       (repeat (first|simp only [↓QA,QB,seval,aH,h5]|refine rd0 rfl ?_))
       cases h6:decide (57<R)
       ·have h6':¬57<R:=by simpa using h6
        (repeat (first|simp only [↓QA,QB,seval,aH,h6]|refine rd0 rfl ?_))
        exact go _ (key (by omega)) (by try simp only [aF,QE,seval,aH]) (by try simp only [aF,QE,seval,aH])
       ·have h6':57<R:=by simpa using h6
        rw [key2 (by omega)]
        (repeat (first|simp only [↓QA,QB,seval,aH,h6]|refine rd0 rfl ?_))
      ·have h5':R<48:=by simpa using h5
       rw [key2 (by omega)]
       (repeat (first|simp only [↓QA,QB,seval,aH,h5]|refine rd0 rfl ?_))
     ·have h4':R=46:=by simpa using h4
      (repeat (first|simp only [↓QA,QB,seval,aH,h4]|refine rd0 rfl ?_))
      exact go _ (key (by omega)) (by try simp only [aF,QE,seval,aH]) (by try simp only [aF,QE,seval,aH])
    ·have h3':k=0:=by simp at h3;omega
     rw [key2 (by omega)]
     (repeat (first|simp only [↓QA,QB,seval,aH,h3]|refine rd0 rfl ?_))
   ·have h1':97≤R:=by simpa using h1
    (repeat (first|simp only [↓QA,QB,seval,aH,h1]|refine rd0 rfl ?_))
    cases h2:decide (R≤122)
    ·have h2':¬R≤122:=by simpa using h2
     (repeat (first|simp only [↓QA,QB,seval,aH,h2]|refine rd0 rfl ?_))
     cases h3:((k:Int)==0)
     ·have h3':0<k:=by simp at h3;omega
      (repeat (first|simp only [↓QA,QB,seval,aH,h3]|refine rd0 rfl ?_))
      cases h4:(R==46)
      ·have h4':R≠46:=by simpa using h4
       (repeat (first|simp only [↓QA,QB,seval,aH,h4]|refine rd0 rfl ?_))
       cases h5:decide (R<48)
       ·have h5':¬R<48:=by simpa using h5
        (repeat (first|simp only [↓QA,QB,seval,aH,h5]|refine rd0 rfl ?_))
        cases h6:decide (57<R)
        ·have h6':¬57<R:=by simpa using h6
         (repeat (first|simp only [↓QA,QB,seval,aH,h6]|refine rd0 rfl ?_))
         exact go _ (key (by omega)) (by try simp only [aF,QE,seval,aH]) (by try simp only [aF,QE,seval,aH])
        ·have h6':57<R:=by simpa using h6
         rw [key2 (by omega)]
         (repeat (first|simp only [↓QA,QB,seval,aH,h6]|refine rd0 rfl ?_))
       ·have h5':R<48:=by simpa using h5
        rw [key2 (by omega)]
        (repeat (first|simp only [↓QA,QB,seval,aH,h5]|refine rd0 rfl ?_))
      ·have h4':R=46:=by simpa using h4
       (repeat (first|simp only [↓QA,QB,seval,aH,h4]|refine rd0 rfl ?_))
       exact go _ (key (by omega)) (by try simp only [aF,QE,seval,aH]) (by try simp only [aF,QE,seval,aH])
     ·have h3':k=0:=by simp at h3;omega
      rw [key2 (by omega)]
      (repeat (first|simp only [↓QA,QB,seval,aH,h3]|refine rd0 rfl ?_))
    ·have h2':R≤122:=by simpa using h2
     (repeat (first|simp only [↓QA,QB,seval,aH,h2]|refine rd0 rfl ?_))
     exact go _ (key (by omega)) (by try simp only [aF,QE,seval,aH]) (by try simp only [aF,QE,seval,aH])
  ·have hk2:k=s.size:=by omega
   (repeat (first|simp only [↓QA,QB,seval,aH,DG,JU hk1]|refine rd0 rfl ?_))
   ((first|refine bJ (BK 1 16 [(s.size:Int)] (by simp)) (by simp [clr,clrs,ints]) (by simp [okV,okVs]) ?_|refine cP (BK 1 16 [(s.size:Int)] (by simp)) (by simp [clr,clrs,ints]) (by simp [okV,okVs]) ?_);(repeat (first|simp only [↓QA,QB,seval,aH]|refine rd0 rfl ?_)))
   rw [fK]
   (repeat (first|simp only [↓QA,QB,seval,aH]|refine rd0 rfl ?_))
   simp [kJ,←hk2,hok]
theorem JD (r:Rm):cN T 469 [encRoom r] (.bool (inR r.days 1 6&&(inR r.start.lo 0 69&&inR r.start.hi 0 69)&&inR r.opens 0 6)):=by
 refine aQ (af:=a469) rfl (by simp [a469]) dd ?_
 (repeat (first|simp only [↓QA,QB,seval,aH,a469]|refine rd0 rfl ?_))
 ((first|refine bJ (aY 1 6 [r.days] (by simp)) (by simp [clr,clrs,ints]) (by simp [okV,okVs]) ?_|refine cP (aY 1 6 [r.days] (by simp)) (by simp [clr,clrs,ints]) (by simp [okV,okVs]) ?_);(repeat (first|simp only [↓QA,QB,seval,aH,fK]|refine rd0 rfl ?_)))
 cases h1:inR r.days 1 6
 ·(repeat (first|simp only [↓QA,QB,seval,aH]|refine rd0 rfl ?_))
  simp
 ·(repeat (first|simp only [↓QA,QB,seval,aH]|refine rd0 rfl ?_))
  ((first|refine bJ (aY 0 69 [r.start.lo,r.start.hi] (by simp)) (by simp [clr,clrs,ints]) (by simp [okV,okVs]) ?_|refine cP (aY 0 69 [r.start.lo,r.start.hi] (by simp)) (by simp [clr,clrs,ints]) (by simp [okV,okVs]) ?_);(repeat (first|simp only [↓QA,QB,seval,aH,xS]|refine rd0 rfl ?_)))
  cases h2:(!inR r.start.lo 0 69||!inR r.start.hi 0 69)
  ·have h2':(inR r.start.lo 0 69&&inR r.start.hi 0 69)=true:=by simpa using h2
   (repeat (first|simp only [↓QA,QB,seval,aH]|refine rd0 rfl ?_))
   ((first|refine bJ (aY 0 6 [r.opens] (by simp)) (by simp [clr,clrs,ints]) (by simp [okV,okVs]) ?_|refine cP (aY 0 6 [r.opens] (by simp)) (by simp [clr,clrs,ints]) (by simp [okV,okVs]) ?_);(repeat (first|simp only [↓QA,QB,seval,aH,fK,h2']|refine rd0 rfl ?_)))
   simp
  ·have h2':(inR r.start.lo 0 69&&inR r.start.hi 0 69)=false:=by cases ha:inR r.start.lo 0 69<;>simp_all
   (repeat (first|simp only [↓QA,QB,seval,aH,h2']|refine rd0 rfl ?_))
   try simp
theorem J4 (r:Rm):cN T 470 [encRoom r] (.bool (decide (r.start.lo≤r.start.hi))):=by
 refine aQ (af:=a470) rfl (by simp [a470]) dd ?_
 (repeat (first|simp only [↓QA,QB,seval,aH,a470]|refine rd0 rfl ?_))
def eU:List AV:=[.agg [.int .i64 7,.func 469 [] []],.agg [.int .i64 2,.func 470 [] []]]
theorem D1:cN T 358 [] (.lit eU false none):=by
 refine aQ (af:=a358) rfl (by simp [a358]) bF ?_
 (repeat (first|simp only [↓QA,QB,seval,aH,a358,eU]|refine rd0 rfl ?_))
theorem OL (σ:St) (f:AV) (l:List Setting) (p:Setting→Bool) (hl:l.length<9223372036854775808) (hk:nI σ f) (h:∀ x∈l,eA T f [encSetting x] σ (.bool (p x))):eA T (.func 471 [] []) [.lit (l.map encSetting) false none,f] σ (.int .i64 (gN p l 0)):=by
 refine bR (af:=a471) rfl (by simp [a471]) ?_
 have hk0:=hk.nil
 (repeat (first|simp only [↓QA,QB,seval,aH,a471]|refine rd0 rfl ?_))
 refine bU (S:=Nat) 0 (fun k=>k≤l.length∧gN p (l.drop k) k=gN p l 0) (fun k=>l.length-k) (fun k=>[(0,.lit (l.map encSetting) false none),(1,f),(7,.int .i64 l.length),(8,.int .i64 k)]) (fun _=>σ) ⟨Nat.zero_le _,by simp⟩ rfl ?_ fun k hk1=>?_
 ·try simp only [aF,QE,seval,aH]
  try simp
 ·obtain ⟨hkl,hi⟩:=hk1
  (repeat (first|simp only [↓QA,QB,seval,aH,VJ]|refine rd0 rfl ?_))
  refine aJ (fun hd=>?_) fun hd=>?_
  ·have hlt:k<l.length:=by simpa using hd
   rw [List.drop_eq_getElem_cons hlt] at hi
   simp only [gN] at hi
   have hw:=b7 hlt hl
   (repeat (first|simp only [↓QA,QB,seval,aH,hlt]|refine rd0 rfl ?_))
   refine aV (h l[k] (List.getElem_mem hlt)) ?_
   (repeat (first|simp only [↓QA,QB,seval,aH]|refine rd0 rfl ?_))
   cases hp:p l[k]
   ·(repeat (first|simp only [↓QA,QB,seval,aH,hw]|refine rd0 rfl ?_))
    refine ⟨k+1,⟨by omega,by rw [←hi,hp];rfl⟩,by omega,?_⟩
    try simp only [aF,QE,seval,aH,hw,hk0,Nat.le_refl,S_mapSet]
   ·(repeat (first|simp only [↓QA,QB,seval,aH]|refine rd0 rfl ?_))
    refine bY [] (by first|rfl|simp) ?_
    rw [←hi,hp]
    try simp only [QS,QC,seval,aH]
  ·have hlt:k=l.length:=by simp at hd;omega
   (repeat (first|simp only [↓QA,QB,seval,aH]|refine rd0 rfl ?_))
   refine bY [] (by first|rfl|simp) ?_
   rw [←hi,hlt,List.drop_length]
   try simp only [QS,QC,seval,aH,gN]
theorem G9 (σ:St) (f:AV) (l:List Setting) (p:Setting→Bool) (hl:l.length<9223372036854775808) (hk:nI σ f) (h:∀ x∈l,eA T f [encSetting x] σ (.bool (p x))):eA T (.func 361 [] []) [.lit (l.map encSetting) false none,f] σ (.bool (l.any p)):=by
 refine bR (af:=a361) rfl (by simp [a361]) ?_
 (repeat (first|simp only [↓QA,QB,seval,aH,a361]|refine rd0 rfl ?_))
 refine aV (OL σ f l p hl hk h) ?_
 (repeat (first|simp only [↓QA,QB,seval,aH]|refine rd0 rfl ?_))
 refine bY [] (by first|rfl|simp) ?_
 rw [←lZ p l 0]
 try simp only [QS,QC,seval,aH]
def cX {α:Type} (fY most:Int) (of:Nat→α→Int) (l:List α):Int×Int:=if inR l.length fY most=false then (0,3) else match aL of l 0 with|some (i,e)=>(i,e)|none=>(0,0)
def kI (x:Int×Int):AV:=.tuple [.int .i64 x.1,.int .i64 x.2]
theorem IF (σ:St) (f:AV) (l:List Setting) (fY most:Int) (of:Nat→Setting→Int) (hl:l.length<9223372036854775808) (hk:nI σ f)
  (h:∀ i (hi:i<l.length),eA T f [.int .i64 i,encSetting l[i]] (σ++[.cells (encSetting l[i]).cells]) (.int .i64 (of i l[i]))):eA T (.func 359 [] []) [.lit (l.map encSetting) false none,.int .i64 fY,.int .i64 most,f] σ (kI (cX fY most of l)):=by
 refine bR (af:=a359) rfl (by simp [a359]) ?_
 have hk0:=hk.nil
 have hk2:∀ τ,cV (σ++τ) σ.length 20 f=some f:=hk
 (repeat (first|simp only [↓QA,QB,seval,aH,a359]|refine rd0 rfl ?_))
 ((first|refine bJ (aY fY most [(l.length:Int)] (by simp)) (by simp [clr,clrs,ints]) (by simp [okV,okVs]) ?_|refine cP (aY fY most [(l.length:Int)] (by simp)) (by simp [clr,clrs,ints]) (by simp [okV,okVs]) ?_);(repeat (first|simp only [↓QA,QB,seval,aH,fK]|refine rd0 rfl ?_)))
 cases h1:inR l.length fY most
 ·(repeat (first|simp only [↓QA,QB,seval,aH]|refine rd0 rfl ?_))
  refine bY [] (by first|rfl|simp) ?_
  try simp only [QS,QC,seval,aH,kI,cX,h1]
 ·(repeat (first|simp only [↓QA,QB,seval,aH]|refine rd0 rfl ?_))
  refine bU (S:=Nat) 0 (fun k=>k≤l.length∧aL of (l.drop k) k=aL of l 0) (fun k=>l.length-k) (fun k=>[(3,f),(19,.lit (l.map encSetting) false none),(20,.int .i64 l.length),(21,.int .i64 k)]) (fun _=>σ) ⟨Nat.zero_le _,by simp⟩ rfl ?_ fun k hk1=>?_
  ·try simp only [aF,QE,seval,aH]
   try simp
  ·obtain ⟨hkl,hi⟩:=hk1
   (repeat (first|simp only [↓QA,QB,seval,aH,SV]|refine rd0 rfl ?_))
   refine aJ (fun hd=>?_) fun hd=>?_
   ·have hlt:k<l.length:=by simpa using hd
    have hs:=h k hlt
    rw [c9 hlt] at hi
    have hw:=b7 hlt hl
    try simp only [↓QA,QB,seval,aH,hlt] at hs
    (repeat (first|simp only [↓QA,QB,seval,aH,hlt]|refine rd0 rfl ?_))
    refine aV hs ?_
    (repeat (first|simp only [↓QA,QB,seval,aH]|refine rd0 rfl ?_))
    cases hp:(of k l[k]==0)
    ·have hp':of k l[k]≠0:=by simpa using hp
     rw [if_neg hp'] at hi
     (repeat (first|simp only [↓QA,QB,seval,aH,hp]|refine rd0 rfl ?_))
     refine bY _ rfl ?_
     try simp only [QS,QC,seval,aH,kI,cX,h1,←hi,reduceCtorEq]
    ·have hp':of k l[k]=0:=by simpa using hp
     rw [if_pos hp'] at hi
     (repeat (first|simp only [↓QA,QB,seval,aH,hp,hw]|refine rd0 rfl ?_))
     refine ⟨k+1,⟨by omega,hi⟩,by omega,?_⟩
     try simp only [aF,QE,seval,aH,hw,hk0,hk2,Nat.le_refl,S_mapSet]
   ·have hlt:k=l.length:=by simp at hd;omega
    rw [dK hlt] at hi
    (repeat (first|simp only [↓QA,QB,seval,aH]|refine rd0 rfl ?_))
    refine bY [] (by first|rfl|simp) ?_
    try simp only [QS,QC,seval,aH,kI,cX,h1,←hi,reduceCtorEq]
theorem rX (σ:St) (f:AV) (l:List Look) (fY most:Int) (of:Nat→Look→Int) (hl:l.length<9223372036854775808) (hk:nI σ f)
  (h:∀ i (hi:i<l.length),eA T f [.int .i64 i,encLook l[i]] (σ++[.cells (encLook l[i]).cells]) (.int .i64 (of i l[i]))):eA T (.func 365 [] []) [.lit (l.map encLook) false none,.int .i64 fY,.int .i64 most,f] σ (kI (cX fY most of l)):=by
 refine bR (af:=a365) rfl (by simp [a365]) ?_
 have hk0:=hk.nil
 have hk2:∀ τ,cV (σ++τ) σ.length 20 f=some f:=hk
 (repeat (first|simp only [↓QA,QB,seval,aH,a365]|refine rd0 rfl ?_))
 ((first|refine bJ (aY fY most [(l.length:Int)] (by simp)) (by simp [clr,clrs,ints]) (by simp [okV,okVs]) ?_|refine cP (aY fY most [(l.length:Int)] (by simp)) (by simp [clr,clrs,ints]) (by simp [okV,okVs]) ?_);(repeat (first|simp only [↓QA,QB,seval,aH,fK]|refine rd0 rfl ?_)))
 cases h1:inR l.length fY most
 ·(repeat (first|simp only [↓QA,QB,seval,aH]|refine rd0 rfl ?_))
  refine bY [] (by first|rfl|simp) ?_
  try simp only [QS,QC,seval,aH,kI,cX,h1]
 ·(repeat (first|simp only [↓QA,QB,seval,aH]|refine rd0 rfl ?_))
  refine bU (S:=Nat) 0 (fun k=>k≤l.length∧aL of (l.drop k) k=aL of l 0) (fun k=>l.length-k) (fun k=>[(3,f),(19,.lit (l.map encLook) false none),(20,.int .i64 l.length),(21,.int .i64 k)]) (fun _=>σ) ⟨Nat.zero_le _,by simp⟩ rfl ?_ fun k hk1=>?_
  ·try simp only [aF,QE,seval,aH]
   try simp
  ·obtain ⟨hkl,hi⟩:=hk1
   (repeat (first|simp only [↓QA,QB,seval,aH,Q1]|refine rd0 rfl ?_))
   refine aJ (fun hd=>?_) fun hd=>?_
   ·have hlt:k<l.length:=by simpa using hd
    have hs:=h k hlt
    rw [c9 hlt] at hi
    have hw:=b7 hlt hl
    try simp only [↓QA,QB,seval,aH,hlt] at hs
    (repeat (first|simp only [↓QA,QB,seval,aH,hlt]|refine rd0 rfl ?_))
    refine aV hs ?_
    (repeat (first|simp only [↓QA,QB,seval,aH]|refine rd0 rfl ?_))
    cases hp:(of k l[k]==0)
    ·have hp':of k l[k]≠0:=by simpa using hp
     rw [if_neg hp'] at hi
     (repeat (first|simp only [↓QA,QB,seval,aH,hp]|refine rd0 rfl ?_))
     refine bY _ rfl ?_
     try simp only [QS,QC,seval,aH,kI,cX,h1,←hi,reduceCtorEq]
    ·have hp':of k l[k]=0:=by simpa using hp
     rw [if_pos hp'] at hi
     (repeat (first|simp only [↓QA,QB,seval,aH,hp,hw]|refine rd0 rfl ?_))
     refine ⟨k+1,⟨by omega,hi⟩,by omega,?_⟩
     try simp only [aF,QE,seval,aH,hw,hk0,hk2,Nat.le_refl,S_mapLook]
   ·have hlt:k=l.length:=by simp at hd;omega
    rw [dK hlt] at hi
    (repeat (first|simp only [↓QA,QB,seval,aH]|refine rd0 rfl ?_))
    refine bY [] (by first|rfl|simp) ?_
    try simp only [QS,QC,seval,aH,kI,cX,h1,←hi,reduceCtorEq]
theorem IV (σ:St) (f:AV) (l:List Int) (fY most:Int) (of:Nat→Int→Int) (hl:l.length<9223372036854775808) (hk:nI σ f)
  (h:∀ i (hi:i<l.length),eA T f [.int .i64 i,.int .i64 l[i]] σ (.int .i64 (of i l[i]))):eA T (.func 363 [] []) [ints l,.int .i64 fY,.int .i64 most,f] σ (kI (cX fY most of l)):=by
 refine bR (af:=a363) rfl (by simp [a363]) ?_
 have hk0:=hk.nil
 have hk2:∀ τ,cV (σ++τ) σ.length 20 f=some f:=hk
 (repeat (first|simp only [↓QA,QB,seval,aH,a363]|refine rd0 rfl ?_))
 ((first|refine bJ (aY fY most [(l.length:Int)] (by simp)) (by simp [clr,clrs,ints]) (by simp [okV,okVs]) ?_|refine cP (aY fY most [(l.length:Int)] (by simp)) (by simp [clr,clrs,ints]) (by simp [okV,okVs]) ?_);(repeat (first|simp only [↓QA,QB,seval,aH,fK]|refine rd0 rfl ?_)))
 cases h1:inR l.length fY most
 ·(repeat (first|simp only [↓QA,QB,seval,aH]|refine rd0 rfl ?_))
  refine bY [] (by first|rfl|simp) ?_
  try simp only [QS,QC,seval,aH,kI,cX,h1]
 ·(repeat (first|simp only [↓QA,QB,seval,aH]|refine rd0 rfl ?_))
  refine bU (S:=Nat) 0 (fun k=>k≤l.length∧aL of (l.drop k) k=aL of l 0) (fun k=>l.length-k) (fun k=>[(3,f),(19,ints l),(20,.int .i64 l.length),(21,.int .i64 k)]) (fun _=>σ) ⟨Nat.zero_le _,by simp⟩ rfl ?_ fun k hk1=>?_
  ·try simp only [aF,QE,seval,aH]
   try simp
  ·obtain ⟨hkl,hi⟩:=hk1
   (repeat (first|simp only [↓QA,QB,seval,aH,U5]|refine rd0 rfl ?_))
   refine aJ (fun hd=>?_) fun hd=>?_
   ·have hlt:k<l.length:=by simpa using hd
    have hs:=h k hlt
    rw [c9 hlt] at hi
    have hw:=b7 hlt hl
    try simp only [↓QA,QB,seval,aH,hlt] at hs
    (repeat (first|simp only [↓QA,QB,seval,aH,hlt]|refine rd0 rfl ?_))
    refine aV hs ?_
    (repeat (first|simp only [↓QA,QB,seval,aH]|refine rd0 rfl ?_))
    cases hp:(of k l[k]==0)
    ·have hp':of k l[k]≠0:=by simpa using hp
     rw [if_neg hp'] at hi
     (repeat (first|simp only [↓QA,QB,seval,aH,hp]|refine rd0 rfl ?_))
     refine bY [] (by first|rfl|simp) ?_
     try simp only [QS,QC,seval,aH,kI,cX,h1,←hi,reduceCtorEq]
    ·have hp':of k l[k]=0:=by simpa using hp
     rw [if_pos hp'] at hi
     (repeat (first|simp only [↓QA,QB,seval,aH,hp,hw]|refine rd0 rfl ?_))
     refine ⟨k+1,⟨by omega,hi⟩,by omega,?_⟩
     try simp only [aF,QE,seval,aH,hw,hk0,hk2,Nat.le_refl,gL]
   ·have hlt:k=l.length:=by simp at hd;omega
    rw [dK hlt] at hi
    (repeat (first|simp only [↓QA,QB,seval,aH]|refine rd0 rfl ?_))
    refine bY [] (by first|rfl|simp) ?_
    try simp only [QS,QC,seval,aH,kI,cX,h1,←hi,reduceCtorEq]
theorem KH (s:ByteArray):∀ l:List Setting,l.any (fun x=>decide (x.name=s))=decide (iH s (l.map Setting.name)≠(l.map Setting.name).length)
 |[]=>by simp [iH]
 |x::xs=>by
  simp only [List.any_cons,KH s xs,List.map_cons,iH,List.length_cons]
  by_cases h:x.name=s
  ·simp [h]
  ·simp [h]
theorem RN (s x:Setting) (b:ABlk) (τ:St):eA T (.func 362 [] [.ptr (τ.length+1) 0]) [encSetting x] (b::(τ++[.cells (encSetting s).cells])) (.bool (decide (x.name=s.name))):=by
 refine bR (af:=a362) rfl (by simp [a362]) ?_
 (repeat (first|simp only [↓QA,QB,seval,aH,a362,A8,List.length_append]|refine rd0 rfl ?_))
 refine bY [.cells [.str x.name,.int .i64 x.gain.lo,.int .i64 x.gain.hi]] (by first|rfl|simp) ?_
 try simp only [QS,QC,seval,aH]
set_option maxRecDepth 2000 in
theorem HM (r:Rm) (h:Fits r) (i:Nat) (hi:i<r.settings.length) (τ:St):eA T (.func 360 [] [.ptr 0 0]) [.int .i64 i,encSetting r.settings[i]] (.cells (aI r)::τ) (.int .i64 (i9 r i r.settings[i])):=by
 refine bR (af:=a360) rfl (by simp [a360]) ?_
 have hsz:=h.names _ (List.getElem_mem hi)
 have hts:(r.settings.take i).length<9223372036854775808:=by have:=h.settings;simp;omega
 obtain ⟨s,hs⟩:∃ s,r.settings[i]=s:=⟨_,rfl⟩
 rw [hs] at hsz ⊢
 have fin:∀ (v:Int) (e:Env) (b:List AV),v=i9 r i s→AG (some (.int .i64 v)) (.cells (aI r)::τ) (.cells (aI r)::(τ++[.cells b])) (.int .i64 (i9 r i s)):=fun v e b hv=>by
  refine bY [.cells b] (by first|rfl|simp) ?_
  rw [hv]
  try simp only [QS,QC,seval,aH]
 simp only [roomCells_eq] at fin
 (repeat (first|simp only [↓QA,QB,seval,aH,a360]|refine rd0 rfl ?_))
 ((first|refine aE (m5 s.name hsz) rfl dd ?_|refine aG (m5 s.name hsz) rfl dd ?_);(repeat (first|simp only [↓QA,QB,seval,aH]|refine rd0 rfl ?_)))
 cases h1:kJ s.name
 ·(repeat (first|simp only [↓QA,QB,seval,aH]|refine rd0 rfl ?_))
  exact fin _ [] _ (by simp [i9,fresh,h1])
 ·have hc:=G9 (.cells (aI r)::(τ++[.cells (encSetting s).cells])) (.func 362 [] [.ptr (τ.length+1) 0]) (r.settings.take i) (fun x=>decide (x.name=s.name)) hts (fun υ=>by try simp only [QS,QC,seval,aH,List.length_append];simp) fun x _=>RN s x _ τ
  try simp only [↓QA,QB,seval,aH] at hc
  (repeat (first|simp only [↓QA,QB,seval,aH,VR (enc:=encSetting) (l:=r.settings) (Nat.le_of_lt hi)]|refine rd0 rfl ?_))
  refine aV hc ?_
  rw [KH]
  cases h2:decide (iH s.name ((r.settings.take i).map Setting.name)≠((r.settings.take i).map Setting.name).length)
  ·have h2':iH s.name ((r.settings.take i).map Setting.name)=((r.settings.take i).map Setting.name).length:=by simpa using h2
   have hf:fresh s.name ((r.settings.take i).map Setting.name)=0:=by simp only [fresh,h1,h2'];simp
   have hse:i9 r i s=dV s.gain 0 15:=by simp only [i9,hf,if_true]
   (repeat (first|simp only [↓QA,QB,seval,aH]|refine rd0 rfl ?_))
   ((first|refine bJ (aY 0 15 [s.gain.lo,s.gain.hi] (by simp)) (by simp [clr,clrs,ints]) (by simp [okV,okVs]) ?_|refine cP (aY 0 15 [s.gain.lo,s.gain.hi] (by simp)) (by simp [clr,clrs,ints]) (by simp [okV,okVs]) ?_);(repeat (first|simp only [↓QA,QB,seval,aH,xS]|refine rd0 rfl ?_)))
   cases h3:(!inR s.gain.lo 0 15||!inR s.gain.hi 0 15)
   ·(repeat (first|simp only [↓QA,QB,seval,aH]|refine rd0 rfl ?_))
    refine aJ (fun h4=>?_) fun h4=>?_
    ·have h4':s.gain.hi<s.gain.lo:=by simpa using h4
     (repeat (first|simp only [↓QA,QB,seval,aH]|refine rd0 rfl ?_))
     exact fin _ [] _ (by rw [hse,dV,h3];simp [h4'])
    ·have h4':¬s.gain.hi<s.gain.lo:=by simpa using h4
     (repeat (first|simp only [↓QA,QB,seval,aH]|refine rd0 rfl ?_))
     exact fin _ [] _ (by rw [hse,dV,h3];simp [h4'])
   ·(repeat (first|simp only [↓QA,QB,seval,aH]|refine rd0 rfl ?_))
    exact fin _ [] _ (by rw [hse,dV,h3];simp)
  ·have h2':iH s.name ((r.settings.take i).map Setting.name)≠((r.settings.take i).map Setting.name).length:=by simpa using h2
   have hf:fresh s.name ((r.settings.take i).map Setting.name)=5:=by simp only [fresh,h1,h2',if_false];simp
   (repeat (first|simp only [↓QA,QB,seval,aH]|refine rd0 rfl ?_))
   exact fin _ [] _ (by simp only [i9,hf];simp)
theorem GC (r:Rm) (h:Fits r) (i:Int) (n:Int):eA T (.func 364 [] [.ptr 0 0]) [.int .i64 i,.int .i64 n] [.cells (aI r)] (.int .i64 (kH r 0 n)):=by
 refine bR (af:=a364) rfl (by simp [a364]) ?_
 have hsz:=h.settings
 (repeat (first|simp only [↓QA,QB,seval,aH,a364,aX (show -9223372036854775808≤(r.settings.length:Int)-1∧(r.settings.length:Int)-1≤9223372036854775807 by omega)]|refine rd0 rfl ?_))
 ((first|refine bJ (aY 0 ((r.settings.length:Int)-1) [n] (by simp)) (by simp [clr,clrs,ints]) (by simp [okV,okVs]) ?_|refine cP (aY 0 ((r.settings.length:Int)-1) [n] (by simp)) (by simp [clr,clrs,ints]) (by simp [okV,okVs]) ?_);(repeat (first|simp only [↓QA,QB,seval,aH,fK]|refine rd0 rfl ?_)))
 cases h1:inR n 0 ((r.settings.length:Int)-1)
 all_goals
  (repeat (first|simp only [↓QA,QB,seval,aH]|refine rd0 rfl ?_))
  refine bY [] (by first|rfl|simp) ?_
  try simp only [QS,QC,seval,aH,kH,eD,h1,reduceCtorEq]
theorem GI (r:Rm) (i:Int) (x:Look):eA T (.func 366 [] [.ptr 0 0]) [.int .i64 i,encLook x] [.cells (aI r),.cells (encLook x).cells] (.int .i64 (iC r 0 x)):=by
 refine bR (af:=a366) rfl (by simp [a366]) ?_
 (repeat (first|simp only [↓QA,QB,seval,aH,a366]|refine rd0 rfl ?_))
 ((first|refine bJ (aY 0 (r.ran.length:Int) [x.day] (by simp)) (by simp [clr,clrs,ints]) (by simp [okV,okVs]) ?_|refine cP (aY 0 (r.ran.length:Int) [x.day] (by simp)) (by simp [clr,clrs,ints]) (by simp [okV,okVs]) ?_);(repeat (first|simp only [↓QA,QB,seval,aH,fK]|refine rd0 rfl ?_)))
 cases h1:inR x.day 0 r.ran.length
 ·(repeat (first|simp only [↓QA,QB,seval,aH]|refine rd0 rfl ?_))
  refine bY _ rfl ?_
  try simp only [QS,QC,seval,aH,iC,gA,h1,reduceCtorEq,Bool.false_and,Bool.false_eq_true]
 ·(repeat (first|simp only [↓QA,QB,seval,aH]|refine rd0 rfl ?_))
  ((first|refine bJ (aY 1 7 [x.colour] (by simp)) (by simp [clr,clrs,ints]) (by simp [okV,okVs]) ?_|refine cP (aY 1 7 [x.colour] (by simp)) (by simp [clr,clrs,ints]) (by simp [okV,okVs]) ?_);(repeat (first|simp only [↓QA,QB,seval,aH,fK]|refine rd0 rfl ?_)))
  cases h2:inR x.colour 1 7
  all_goals
   (repeat (first|simp only [↓QA,QB,seval,aH]|refine rd0 rfl ?_))
   refine bY _ rfl ?_
   try simp only [QS,QC,seval,aH,iC,gA,h1,h2,reduceCtorEq,Bool.false_and,Bool.false_eq_true]
def d8:=And.intro @encRoom_eq (And.intro @roomCells_eq (And.intro @encSetting_eq (And.intro @encLook_eq (@aC))))
theorem sJ (r:Rm):∀ (l:List Int) (i:Nat),aL (fun i n=>kH r 0 n) l i=aL (kH r) l i
 |[],_=>rfl
 |x::xs,i=>by simp only [aL,sJ r xs (i+1)];rfl
theorem pV (r:Rm):∀ (l:List Look) (i:Nat),aL (fun i n=>iC r 0 n) l i=aL (iC r) l i
 |[],_=>rfl
 |x::xs,i=>by simp only [aL,pV r xs (i+1)];rfl
theorem pD {α:Type} {f:Nat→α→Int}:∀ {l:List α} {i j:Nat} {e:Int},aL f l i=some (j,e)→e≠0
 |[],_,_,_,h=>by cases h
 |x::xs,i,j,e,h=>by
  simp only [aL] at h
  split at h
  ·exact pD h
  ·rename_i hn
   simp at h
   rw [←h.2]
   exact hn
theorem P3:EB 2 eU ((0:Nat):Int) none=some (.lptr eU 0 0 none):=by simp [EB,eU,AV.cells]
theorem O0:EB 2 eU ((1:Nat):Int) none=some (.lptr eU 1 0 none):=by simp [EB,eU,AV.cells]
theorem PF:eU[0]? = some (.agg [.int .i64 7,.func 469 [] []]):=rfl
theorem P2:eU[1]? = some (.agg [.int .i64 2,.func 470 [] []]):=rfl
theorem SC:eU.length=2:=rfl
theorem OM:j4 (.lit eU false none):=⟨by simp [okV,okVs,eU],by simp [clr,clrs,eU]⟩
theorem EJ (σ:St) (m d:Nat):cB σ m d eU=some eU:=by
 have:=UK OM σ m d
 rw [SX] at this
 cases h:cB σ m d eU with
 |none=>rw [h] at this;cases this
 |some x=>rw [h] at this;simpa using this
theorem jG (r:Rm) (h:Fits r):cN T 229 [encRoom r] (enc3 (check r)):=by
 refine aQ (af:=a229) rfl (by simp [a229]) dd ?_
 have hfs:=h.settings
 have hfr:=h.ran
 have hfl:=h.looks
 (repeat (first|simp only [↓QA,QB,Nat.reduceLT,reduceIte,Nat.reduceEqDiff,Nat.reduceAdd,Nat.reduceLeDiff,Nat.reduceMul,Nat.reduceBEq,d8,a229]|refine rd0 rfl ?_))
 refine aE D1 rfl bF ?_
 (repeat (first|simp only [↓QA,QB,Nat.reduceLT,reduceIte,Nat.reduceEqDiff,Nat.reduceAdd,Nat.reduceLeDiff,Nat.reduceMul,Nat.reduceBEq,d8,SC]|refine rd0 rfl ?_))
 refine bU (S:=Nat) 0 (fun j=>j≤2∧(1≤j→(inR r.days 1 6&&(inR r.start.lo 0 69&&inR r.start.hi 0 69)&&inR r.opens 0 6)=true)∧(2≤j→r.start.lo≤r.start.hi)) (fun j=>2-j)
  (fun j=>[(1,.ptr 0 0),(7,.lit eU false none),(8,.int .i64 2),(9,.int .i64 j)]) (fun _=>[.cells (aI r)]) ⟨by omega,by omega,by omega⟩ (by simp [aI,ints]) ?_ fun j hj=>?_
 ·try simp only [aF,QE,Nat.reduceLT,reduceIte,Nat.reduceEqDiff,Nat.reduceAdd,Nat.reduceLeDiff,Nat.reduceMul,Nat.reduceBEq,d8]
  try simp
 ·obtain ⟨hj2,hj0,hj1⟩:=hj
  have hcases:j=0∨j=1∨j=2:=by omega
  rcases hcases with rfl|rfl|rfl
  ·(repeat (first|simp only [↓QA,QB,Nat.reduceLT,reduceIte,Nat.reduceEqDiff,Nat.reduceAdd,Nat.reduceLeDiff,Nat.reduceMul,Nat.reduceBEq,d8,HN,P3,PF,show decide (((0:Nat):Int)<2)=true from rfl]|refine rd0 rfl ?_))
   ((first|refine aE (JD r) rfl dd ?_|refine aG (JD r) rfl dd ?_);(repeat (first|simp only [↓QA,QB,Nat.reduceLT,reduceIte,Nat.reduceEqDiff,Nat.reduceAdd,Nat.reduceLeDiff,Nat.reduceMul,Nat.reduceBEq,d8]|refine rd0 rfl ?_)))
   cases h1:(inR r.days 1 6&&(inR r.start.lo 0 69&&inR r.start.hi 0 69)&&inR r.opens 0 6)
   ·have hc:check r=(1,0,7):=by
     simp only [check]
     rw [if_pos]
     simp only [dV]
     cases g1:inR r.days 1 6<;>cases g2:inR r.start.lo 0 69<;>cases g3:inR r.start.hi 0 69<;>cases g4:inR r.opens 0 6<;>simp_all
    rw [hc]
    (repeat (first|simp only [↓QA,QB,Nat.reduceLT,reduceIte,Nat.reduceEqDiff,Nat.reduceAdd,Nat.reduceLeDiff,Nat.reduceMul,Nat.reduceBEq,d8,enc3]|refine rd0 rfl ?_))
   ·(repeat (first|simp only [↓QA,QB,Nat.reduceLT,reduceIte,Nat.reduceEqDiff,Nat.reduceAdd,Nat.reduceLeDiff,Nat.reduceMul,Nat.reduceBEq,d8]|refine rd0 rfl ?_))
    refine ⟨1,(by first|exact ⟨by omega,fun _=>h1,by omega⟩|exact ⟨by omega,by omega⟩),by omega,?_⟩
    try simp only [aF,QE,Nat.reduceLT,reduceIte,Nat.reduceEqDiff,Nat.reduceAdd,Nat.reduceLeDiff,Nat.reduceMul,Nat.reduceBEq,d8,EJ]
    simp [aX]
  ·have h1:=hj0 (by omega)
   (repeat (first|simp only [↓QA,QB,Nat.reduceLT,reduceIte,Nat.reduceEqDiff,Nat.reduceAdd,Nat.reduceLeDiff,Nat.reduceMul,Nat.reduceBEq,d8,HN,O0,P2,show decide (((1:Nat):Int)<2)=true from rfl]|refine rd0 rfl ?_))
   ((first|refine aE (J4 r) rfl dd ?_|refine aG (J4 r) rfl dd ?_);(repeat (first|simp only [↓QA,QB,Nat.reduceLT,reduceIte,Nat.reduceEqDiff,Nat.reduceAdd,Nat.reduceLeDiff,Nat.reduceMul,Nat.reduceBEq,d8]|refine rd0 rfl ?_)))
   have hends:inR r.days 1 6=true∧inR r.opens 0 6=true∧inR r.start.lo 0 69=true∧inR r.start.hi 0 69=true:=by
    cases g1:inR r.days 1 6<;>cases g2:inR r.start.lo 0 69<;>cases g3:inR r.start.hi 0 69<;>cases g4:inR r.opens 0 6<;>simp_all
   cases h2:decide (r.start.lo≤r.start.hi)
   ·have h2':r.start.hi<r.start.lo:=by simpa using h2
    have hc:check r=(1,0,2):=by simp [check,dV,hends.1,hends.2.1,hends.2.2.1,hends.2.2.2,h2']
    rw [hc]
    (repeat (first|simp only [↓QA,QB,Nat.reduceLT,reduceIte,Nat.reduceEqDiff,Nat.reduceAdd,Nat.reduceLeDiff,Nat.reduceMul,Nat.reduceBEq,d8,enc3]|refine rd0 rfl ?_))
   ·have h2':r.start.lo≤r.start.hi:=by simpa using h2
    (repeat (first|simp only [↓QA,QB,Nat.reduceLT,reduceIte,Nat.reduceEqDiff,Nat.reduceAdd,Nat.reduceLeDiff,Nat.reduceMul,Nat.reduceBEq,d8]|refine rd0 rfl ?_))
    refine ⟨2,(by first|exact ⟨by omega,fun _=>h1,fun _=>h2'⟩|exact ⟨by omega,fun _=>h1⟩|simp),by omega,?_⟩
    try simp only [aF,QE,Nat.reduceLT,reduceIte,Nat.reduceEqDiff,Nat.reduceAdd,Nat.reduceLeDiff,Nat.reduceMul,Nat.reduceBEq,d8,EJ]
    simp [aX]
  ·have h1:=hj0 (by omega)
   have h2:=hj1 (by omega)
   have hends:inR r.days 1 6=true∧inR r.opens 0 6=true∧inR r.start.lo 0 69=true∧inR r.start.hi 0 69=true:=by
    cases g1:inR r.days 1 6<;>cases g2:inR r.start.lo 0 69<;>cases g3:inR r.start.hi 0 69<;>cases g4:inR r.opens 0 6<;>simp_all
   have hc:check r=eK r:=by
    have:¬r.start.hi<r.start.lo:=by omega
    simp [check,dV,hends.1,hends.2.1,hends.2.2.1,hends.2.2.2,this]
   rw [hc]
   (repeat (first|simp only [↓QA,QB,Nat.reduceLT,reduceIte,Nat.reduceEqDiff,Nat.reduceAdd,Nat.reduceLeDiff,Nat.reduceMul,Nat.reduceBEq,d8,HN,show decide (((2:Nat):Int)<2)=false from rfl]|refine rd0 rfl ?_))
   have f1:=IF [.cells (aI r)] (.func 360 [] [.ptr 0 0]) r.settings 1 4 (i9 r) hfs (fun τ=>by try simp only [QS,QC,Nat.reduceLT,reduceIte,Nat.reduceEqDiff,Nat.reduceAdd,Nat.reduceLeDiff,Nat.reduceMul,Nat.reduceBEq,d8,List.length_append]) fun i hi=>by
    have:=HM r h i hi [.cells (encSetting r.settings[i]).cells]
    simpa using this
   try simp only [↓QA,QB,Nat.reduceLT,reduceIte,Nat.reduceEqDiff,Nat.reduceAdd,Nat.reduceLeDiff,Nat.reduceMul,Nat.reduceBEq,d8] at f1
   refine aV f1 ?_
   (repeat (first|simp only [↓QA,QB,Nat.reduceLT,reduceIte,Nat.reduceEqDiff,Nat.reduceAdd,Nat.reduceLeDiff,Nat.reduceMul,Nat.reduceBEq,d8,kI]|refine rd0 rfl ?_))
   have f2:=IV [.cells (aI r)] (.func 364 [] [.ptr 0 0]) r.ran 0 r.days (fun i n=>kH r 0 n) hfr (fun τ=>by try simp only [QS,QC,Nat.reduceLT,reduceIte,Nat.reduceEqDiff,Nat.reduceAdd,Nat.reduceLeDiff,Nat.reduceMul,Nat.reduceBEq,d8,List.length_append]) fun i hi=>GC r h i r.ran[i]
   have f3:=rX [.cells (aI r)] (.func 366 [] [.ptr 0 0]) r.looks 0 4 (fun i n=>iC r 0 n) hfl (fun τ=>by try simp only [QS,QC,Nat.reduceLT,reduceIte,Nat.reduceEqDiff,Nat.reduceAdd,Nat.reduceLeDiff,Nat.reduceMul,Nat.reduceBEq,d8,List.length_append]) fun i hi=>by
    have:=GI r i r.looks[i]
    simpa using this
   try simp only [↓QA,QB,Nat.reduceLT,reduceIte,Nat.reduceEqDiff,Nat.reduceAdd,Nat.reduceLeDiff,Nat.reduceMul,Nat.reduceBEq,d8] at f2 f3
   cases h3:inR r.settings.length 1 4
   ·have e1:cX 1 4 (i9 r) r.settings=(0,3):=by simp only [cX,h3,if_true]
    have e2:eK r=(2,0,3):=by simp only [eK,h3,if_true]
    rw [e1,e2]
    (repeat (first|simp only [↓QA,QB,Nat.reduceLT,reduceIte,Nat.reduceEqDiff,Nat.reduceAdd,Nat.reduceLeDiff,Nat.reduceMul,Nat.reduceBEq,d8,show ((3:Int)==0)=false from rfl,enc3]|refine rd0 rfl ?_))
   ·cases h4:aL (i9 r) r.settings 0 with
    |some p =>
     obtain ⟨i,e⟩:=p
     have hne:(e==0)=false:=by simpa using pD h4
     have e1:cX 1 4 (i9 r) r.settings=((i:Int),e):=by simp only [cX,h3,h4];rfl
     have e2:eK r=(2,(i:Int),e):=by simp only [eK,h3,h4];rfl
     rw [e1,e2]
     (repeat (first|simp only [↓QA,QB,Nat.reduceLT,reduceIte,Nat.reduceEqDiff,Nat.reduceAdd,Nat.reduceLeDiff,Nat.reduceMul,Nat.reduceBEq,d8,hne,enc3]|refine rd0 rfl ?_))
    |none =>
     have e1:cX 1 4 (i9 r) r.settings=(0,0):=by simp only [cX,h3,h4];rfl
     have e2:eK r=gI r:=by simp only [eK,h3,h4];rfl
     rw [e1,e2]
     (repeat (first|simp only [↓QA,QB,Nat.reduceLT,reduceIte,Nat.reduceEqDiff,Nat.reduceAdd,Nat.reduceLeDiff,Nat.reduceMul,Nat.reduceBEq,d8,show ((0:Int)==0)=true from rfl]|refine rd0 rfl ?_))
     refine aV f2 ?_
     (repeat (first|simp only [↓QA,QB,Nat.reduceLT,reduceIte,Nat.reduceEqDiff,Nat.reduceAdd,Nat.reduceLeDiff,Nat.reduceMul,Nat.reduceBEq,d8,kI]|refine rd0 rfl ?_))
     by_cases h5:r.days<r.ran.length
     ·have hi:inR r.ran.length 0 r.days=false:=by simp [inR];omega
      have e1:cX 0 r.days (fun i n=>kH r 0 n) r.ran=(0,3):=by simp only [cX,hi,if_true]
      have e2:gI r=(3,0,3):=by simp only [gI,h5,if_true]
      rw [e1,e2]
      (repeat (first|simp only [↓QA,QB,Nat.reduceLT,reduceIte,Nat.reduceEqDiff,Nat.reduceAdd,Nat.reduceLeDiff,Nat.reduceMul,Nat.reduceBEq,d8,show ((3:Int)==0)=false from rfl,enc3]|refine rd0 rfl ?_))
     ·have hi:inR r.ran.length 0 r.days=true:=by simp [inR];omega
      cases h6:aL (kH r) r.ran 0 with
      |some p =>
       obtain ⟨i,e⟩:=p
       have hne:(e==0)=false:=by simpa using pD h6
       have e1:cX 0 r.days (fun i n=>kH r 0 n) r.ran=((i:Int),e):=by simp only [cX,hi,sJ,h6];rfl
       have e2:gI r=(3,(i:Int),e):=by simp only [gI,h5,if_false,h6]
       rw [e1,e2]
       (repeat (first|simp only [↓QA,QB,Nat.reduceLT,reduceIte,Nat.reduceEqDiff,Nat.reduceAdd,Nat.reduceLeDiff,Nat.reduceMul,Nat.reduceBEq,d8,hne,enc3]|refine rd0 rfl ?_))
      |none =>
       have e1:cX 0 r.days (fun i n=>kH r 0 n) r.ran=(0,0):=by simp only [cX,hi,sJ,h6];rfl
       have e2:gI r=gD r:=by simp only [gI,h5,if_false,h6]
       rw [e1,e2]
       (repeat (first|simp only [↓QA,QB,Nat.reduceLT,reduceIte,Nat.reduceEqDiff,Nat.reduceAdd,Nat.reduceLeDiff,Nat.reduceMul,Nat.reduceBEq,d8,show ((0:Int)==0)=true from rfl]|refine rd0 rfl ?_))
       refine aV f3 ?_
       (repeat (first|simp only [↓QA,QB,Nat.reduceLT,reduceIte,Nat.reduceEqDiff,Nat.reduceAdd,Nat.reduceLeDiff,Nat.reduceMul,Nat.reduceBEq,d8,kI]|refine rd0 rfl ?_))
       by_cases h7:4<r.looks.length
       ·have hi:inR r.looks.length 0 4=false:=by simp [inR];omega
        have e1:cX 0 4 (fun i n=>iC r 0 n) r.looks=(0,3):=by simp only [cX,hi,if_true]
        have e2:gD r=(4,0,3):=by simp only [gD,h7,if_true]
        rw [e1,e2]
        (repeat (first|simp only [↓QA,QB,Nat.reduceLT,reduceIte,Nat.reduceEqDiff,Nat.reduceAdd,Nat.reduceLeDiff,Nat.reduceMul,Nat.reduceBEq,d8,show ((3:Int)==0)=false from rfl,enc3]|refine rd0 rfl ?_))
       ·have hi:inR r.looks.length 0 4=true:=by simp [inR];omega
        cases h8:aL (iC r) r.looks 0 with
        |some p =>
         obtain ⟨i,e⟩:=p
         have hne:(e==0)=false:=by simpa using pD h8
         have e1:cX 0 4 (fun i n=>iC r 0 n) r.looks=((i:Int),e):=by simp only [cX,hi,pV,h8];rfl
         have e2:gD r=(4,(i:Int),e):=by simp only [gD,h7,if_false,h8]
         rw [e1,e2]
         (repeat (first|simp only [↓QA,QB,Nat.reduceLT,reduceIte,Nat.reduceEqDiff,Nat.reduceAdd,Nat.reduceLeDiff,Nat.reduceMul,Nat.reduceBEq,d8,hne,enc3]|refine rd0 rfl ?_))
        |none =>
         have e1:cX 0 4 (fun i n=>iC r 0 n) r.looks=(0,0):=by simp only [cX,hi,pV,h8];rfl
         have e2:gD r=(0,0,0):=by simp only [gD,h7,if_false,h8]
         rw [e1,e2]
         (repeat (first|simp only [↓QA,QB,Nat.reduceLT,reduceIte,Nat.reduceEqDiff,Nat.reduceAdd,Nat.reduceLeDiff,Nat.reduceMul,Nat.reduceBEq,d8,show ((0:Int)==0)=true from rfl,enc3]|refine rd0 rfl ?_))
end Go.Am.Room.Ro
set_option maxRecDepth 4000
namespace Go.Am.Room.Ro
def fL:=And.intro @gT (And.intro @dY (And.intro @eC (And.intro @dS (And.intro @dR (And.intro @Nat.mul_one (And.intro @Int.toNat_natCast (And.intro @encRoom_eq (And.intro @roomCells_eq (And.intro @encSetting_eq (And.intro @encLook_eq (And.intro @aC (And.intro @jI (And.intro @Nat.add_lt_add_iff_left (And.intro @Nat.lt_add_right_iff_pos (@bI)))))))))))))))
def sW (T:FuncId→Option AFunc) (f:AV) (args:List AV) (σ:St) (v:AV) (σ':St):Prop:=Run T (.callv f args σ) fun o=>o.v=v∧o.σ=σ'
theorem gY {f:AV} {args:List AV} {v:AV} {σ σ':St} {K:AV→St→Prop} (h:sW T f args σ v σ') (k:K v σ'):cK (K:=⟨K⟩) T f args σ:=.mono h fun o ho=>by rw [ho.1,ho.2];exact k
theorem eS {f:AV} {args:List AV} {v:AV} {σ σ':St} {K:AV→St→Prop} (h:sW T f args σ v σ') (k:K v σ'):cD (K:=⟨K⟩) T f args σ:=⟨v,σ',h,k⟩
def iQ:List Int→Int
 |n::lo::hi::rest=>if inR n lo hi=true then iQ rest else 7
 |_=>0
theorem JL {ns:List Int} {i:Nat} (h:i+2<ns.length):iQ (ns.drop i)=if inR ns[i] ns[i+1] ns[i+2]=true then iQ (ns.drop (i+3)) else 7:=by
 rw [List.drop_eq_getElem_cons (show i<ns.length by omega),List.drop_eq_getElem_cons (show i+1<ns.length by omega),List.drop_eq_getElem_cons h]
 rfl
theorem KW {ns:List Int} {i:Nat} (h:¬i+2<ns.length):iQ (ns.drop i)=0:=by
 have hl:(ns.drop i).length≤2:=by simp;omega
 match hd:ns.drop i with
 |[]=>rfl
 |[_]=>rfl
 |[_,_]=>rfl
 |_::_::_::_=>rw [hd] at hl;simp at hl
theorem rY (σ:St) (p:Nat) (ns:List Int) (f:Bool) (tk:Option Nat) (hl:ns.length≤100) (hp:aM σ p=some [.lit (ns.map (.int .i64)) f tk]) (hpl:p<σ.length):eA T (.func 235 [] [.ptr p 0]) [] σ (.int .i64 (iQ ns)):=by
 refine bR (af:=a235) rfl (by simp [a235]) ?_
 (repeat (first|simp only [↓QA,QB,Nat.reduceLT,reduceIte,Nat.reduceEqDiff,Nat.reduceAdd,Nat.reduceLeDiff,Nat.reduceMul,Nat.reduceBEq,fL,a235]|refine rd0 rfl ?_))
 refine bU (S:=Nat) 0 (fun i=>i≤ns.length+2∧iQ (ns.drop i)=iQ ns) (fun i=>ns.length+2-i) (fun i=>[(0,.ptr p 0),(2,.int .i64 i)]) (fun _=>σ) ⟨by omega,by simp⟩ rfl ?_ fun i hi=>?_
 ·try simp only [aF,QE,Nat.reduceLT,reduceIte,Nat.reduceEqDiff,Nat.reduceAdd,Nat.reduceLeDiff,Nat.reduceMul,Nat.reduceBEq,fL]
  try simp
 ·obtain ⟨hi,hq⟩:=hi
  have w2:IntKind.i64.wrap ((i:Int)+2)=((i+2:Nat):Int):=by rw [aX ⟨by omega,by omega⟩];omega
  have w1:IntKind.i64.wrap ((i:Int)+1)=((i+1:Nat):Int):=by rw [aX ⟨by omega,by omega⟩];omega
  have w3:IntKind.i64.wrap ((i:Int)+3)=((i+3:Nat):Int):=by rw [aX ⟨by omega,by omega⟩];omega
  (repeat (first|simp only [↓QA,QB,Nat.reduceLT,reduceIte,Nat.reduceEqDiff,Nat.reduceAdd,Nat.reduceLeDiff,Nat.reduceMul,Nat.reduceBEq,fL,VQ,hp,w2]|refine rd0 rfl ?_))
  refine aJ (fun h=>?_) fun h=>?_
  ·have h3:i+2<ns.length:=by simp at h;omega
   have h1:i<ns.length:=by omega
   have h2:i+1<ns.length:=by omega
   rw [JL h3] at hq
   (repeat (first|simp only [↓QA,QB,Nat.reduceLT,reduceIte,Nat.reduceEqDiff,Nat.reduceAdd,Nat.reduceLeDiff,Nat.reduceMul,Nat.reduceBEq,fL,hp,w1,w2,w3,h1,h2,h3]|refine rd0 rfl ?_))
   ((first|refine bJ (aY ns[i+1] ns[i+2] [ns[i]] (by simp)) (by simp [clr,clrs,ints]) (by simp [okV,okVs]) ?_|refine cP (aY ns[i+1] ns[i+2] [ns[i]] (by simp)) (by simp [clr,clrs,ints]) (by simp [okV,okVs]) ?_);(repeat (first|simp only [↓QA,QB,Nat.reduceLT,reduceIte,Nat.reduceEqDiff,Nat.reduceAdd,Nat.reduceLeDiff,Nat.reduceMul,Nat.reduceBEq,fL,fK,hp,w1,w2,w3,h1,h2,h3]|refine rd0 rfl ?_)))
   cases hin:inR ns[i] ns[i+1] ns[i+2]
   ·(repeat (first|simp only [↓QA,QB,Nat.reduceLT,reduceIte,Nat.reduceEqDiff,Nat.reduceAdd,Nat.reduceLeDiff,Nat.reduceMul,Nat.reduceBEq,fL,hp,w1,w2,w3,h1,h2,h3]|refine rd0 rfl ?_))
    refine bY [] (by first|rfl|simp) ?_
    rw [←hq,hin]
    try simp only [QS,QC,Nat.reduceLT,reduceIte,Nat.reduceEqDiff,Nat.reduceAdd,Nat.reduceLeDiff,Nat.reduceMul,Nat.reduceBEq,fL]
    rfl
   ·(repeat (first|simp only [↓QA,QB,Nat.reduceLT,reduceIte,Nat.reduceEqDiff,Nat.reduceAdd,Nat.reduceLeDiff,Nat.reduceMul,Nat.reduceBEq,fL,hp,w1,w2,w3,h1,h2,h3]|refine rd0 rfl ?_))
    refine ⟨i+3,⟨by omega,?_⟩,by omega,?_⟩
    ·rw [←hq,hin];rfl
    ·try simp only [aF,QE,Nat.reduceLT,reduceIte,Nat.reduceEqDiff,Nat.reduceAdd,Nat.reduceLeDiff,Nat.reduceMul,Nat.reduceBEq,fL,w3,hpl,Nat.le_refl]
  ·have h3:¬i+2<ns.length:=by simp at h;omega
   rw [KW h3] at hq
   (repeat (first|simp only [↓QA,QB,Nat.reduceLT,reduceIte,Nat.reduceEqDiff,Nat.reduceAdd,Nat.reduceLeDiff,Nat.reduceMul,Nat.reduceBEq,fL]|refine rd0 rfl ?_))
   refine bY [] (by first|rfl|simp) ?_
   rw [←hq]
   try simp only [QS,QC,Nat.reduceLT,reduceIte,Nat.reduceEqDiff,Nat.reduceAdd,Nat.reduceLeDiff,Nat.reduceMul,Nat.reduceBEq,fL]
theorem rE (σ:St) (xs:List AV) (f:Bool):sW T (.func 96 [] []) [.lit xs f none] σ (.func 235 [] [.ptr σ.length 0]) (σ++[.cells [.lit xs f none]]):=by
 refine .callf (.call (af:=a96) rfl (by simp [a96]) (eQ (K:=fun j e σ1=>(j=none∨j=some .ret)∧Env.get e 2 = .func 235 [] [.ptr σ.length 0]∧σ1=σ++[.cells [.lit xs f none]]) ?_ fun o ho=>ho) fun o ho=>?_)
 ·(repeat (first|simp only [↓QA,QB,Nat.reduceLT,reduceIte,Nat.reduceEqDiff,Nat.reduceAdd,Nat.reduceLeDiff,Nat.reduceMul,Nat.reduceBEq,fL,a96,List.length_append]|refine rd0 rfl ?_))
  try simp
 ·refine ⟨ho.1,_,?_,.inl ⟨ho.2.1,ho.2.2⟩⟩
  rfl
theorem rO (σ:St) (p:Nat) (r:Rm) (ps:Nat→Span) (m:Nat) (hp:aM σ p=some (rb r ps m)):eA T (.func 98 [] []) [.ptr p 0] σ (.int .i64 r.ran.length):=by
 refine bR (af:=a98) rfl (by simp [a98]) ?_
 (repeat (first|simp only [↓QA,QB,Nat.reduceLT,reduceIte,Nat.reduceEqDiff,Nat.reduceAdd,Nat.reduceLeDiff,Nat.reduceMul,Nat.reduceBEq,fL,a98,hp,S8]|refine rd0 rfl ?_))
 refine bY [] (by first|rfl|simp) ?_
 try simp only [QS,QC,Nat.reduceLT,reduceIte,Nat.reduceEqDiff,Nat.reduceAdd,Nat.reduceLeDiff,Nat.reduceMul,Nat.reduceBEq,fL]
theorem IP (σ:St) (p:Nat) (r:Rm) (ps:Nat→Span) (m:Nat) (hf:Fits r) (hp:aM σ p=some (rb r ps m)):eA T (.func 99 [] []) [.ptr p 0] σ (.int .i64 (fZ r)):=by
 refine bR (af:=a99) rfl (by simp [a99]) ?_
 have hfr:=hf.ran
 (repeat (first|simp only [↓QA,QB,Nat.reduceLT,reduceIte,Nat.reduceEqDiff,Nat.reduceAdd,Nat.reduceLeDiff,Nat.reduceMul,Nat.reduceBEq,fL,a99]|refine rd0 rfl ?_))
 refine aV (rO σ p r ps m hp) ?_
 by_cases h0:r.ran.length=0
 ·have g:((r.ran.length:Int)==0)=true:=by rw [beq_iff_eq];omega
  (repeat (first|simp only [↓QA,QB,Nat.reduceLT,reduceIte,Nat.reduceEqDiff,Nat.reduceAdd,Nat.reduceLeDiff,Nat.reduceMul,Nat.reduceBEq,fL,g]|refine rd0 rfl ?_))
  refine bY [] (by first|rfl|simp) ?_
  simp only [fZ,h0,if_true]
  try simp only [QS,QC,Nat.reduceLT,reduceIte,Nat.reduceEqDiff,Nat.reduceAdd,Nat.reduceLeDiff,Nat.reduceMul,Nat.reduceBEq,fL]
 ·have g:((r.ran.length:Int)==0)=false:=by rw [beq_eq_false_iff_ne];omega
  have hw:IntKind.i64.wrap ((r.ran.length:Int)-1)=((r.ran.length-1:Nat):Int):=by rw [aX ⟨by omega,by omega⟩];omega
  have hlt:r.ran.length-1<r.ran.length:=by omega
  (repeat (first|simp only [↓QA,QB,Nat.reduceLT,reduceIte,Nat.reduceEqDiff,Nat.reduceAdd,Nat.reduceLeDiff,Nat.reduceMul,Nat.reduceBEq,fL,g,hp,S8]|refine rd0 rfl ?_))
  refine eL (rO σ p r ps m hp) ?_
  (repeat (first|simp only [↓QA,QB,Nat.reduceLT,reduceIte,Nat.reduceEqDiff,Nat.reduceAdd,Nat.reduceLeDiff,Nat.reduceMul,Nat.reduceBEq,fL,hw,hlt,hp,S8,ints]|refine rd0 rfl ?_))
  refine bY [] (by first|rfl|simp) ?_
  simp only [fZ,h0,if_false,List.getElem?_eq_getElem hlt,Option.getD_some]
  try simp only [QS,QC,Nat.reduceLT,reduceIte,Nat.reduceEqDiff,Nat.reduceAdd,Nat.reduceLeDiff,Nat.reduceMul,Nat.reduceBEq,fL]
end Go.Am.Room.Ro
set_option maxRecDepth 4000
namespace Go.Am.Room.Ro
def mS:=And.intro @gT (And.intro @dY (And.intro @eC (And.intro @dS (And.intro @dR (And.intro @Nat.mul_one (And.intro @Int.toNat_natCast (And.intro @encRoom_eq (And.intro @roomCells_eq (And.intro @encSetting_eq (And.intro @encLook_eq (And.intro @aC (And.intro @jI (And.intro @Nat.add_lt_add_iff_left (And.intro @Nat.lt_add_right_iff_pos (@bI)))))))))))))))
theorem YH:ButIs 0 []:=⟨by omega,fun i hi=>by simp⟩
def jB (r:Rm) (eo:Int):Int:=aZ r (if (check r).2.2=0 then eo else (check r).2.2)
def lC (r:Rm) (eo:Int) (n:Nat):AV:=if jB r eo=0 then .tuple [.ptr (n+3) 0,.int .i64 0] else .tuple [.nilPtr,.int .i64 (jB r eo)]
def mR (σ:St) (r:Rm) (eo:Int):St:=if jB r eo=0 then σ++[.cells (aI r),.cells (aI r),.map [],.cells (rb r (psB r []) (σ.length+2))] else σ
theorem lT (σ:St) (r:Rm) (f:AV) (eo:Int) (hf:Fits r) (h:(check r).2.2=0→eA T f [] (σ++[.cells (aI r)]) (.int .i64 eo)):sW T (.func 95 [] []) [encRoom r,f] σ (lC r eo σ.length) (mR σ r eo):=by
 refine .callf (.call (af:=a95) rfl (by simp [a95]) (eQ (K:=fun j e σ1=>(j=none∨j=some .ret)∧(if jB r eo=0 then Env.get e 4 = .ptr (σ.length+3) 0∧Env.get e 5 = .int .i64 0∧σ1=mR σ r eo else Env.get e 4 = .nilPtr∧Env.get e 5 = .int .i64 (jB r eo)∧∃ τ,σ1=σ++τ)) ?_ fun o ho=>ho) fun o ho=>?_)
 ·(repeat (first|simp only [↓QA,QB,seval,mS,a95]|refine rd0 rfl ?_))
  ((first|refine aE (jG r hf) rfl dd ?_|refine aG (jG r hf) rfl dd ?_);(repeat (first|simp only [↓QA,QB,seval,mS,enc3]|refine rd0 rfl ?_)))
  cases h0:((check r).2.2==0)
  ·have h0':(check r).2.2≠0:=by simpa using h0
   have he:jB r eo=(check r).2.2:=by simp [jB,h0',aZ]
   (repeat (first|simp only [↓QA,QB,seval,mS,h0]|refine rd0 rfl ?_))
   rw [he,if_neg h0']
   simp
  ·have h0':(check r).2.2=0:=by simpa using h0
   have hv:=vd_of_check h0'
   have h:=h h0'
   try simp only [↓QA,QB,seval,mS] at h
   have he:jB r eo=aZ r eo:=by simp [jB,h0']
   rw [he]
   (repeat (first|simp only [↓QA,QB,seval,mS,h0]|refine rd0 rfl ?_))
   refine aV h ?_
   cases h1:(eo==0)
   ·have h1':eo≠0:=by simpa using h1
    have he2:aZ r eo=eo:=by simp [aZ,h1']
    (repeat (first|simp only [↓QA,QB,seval,mS,h1]|refine rd0 rfl ?_))
    rw [he2,if_neg h1']
    simp
   ·have h1':eo=0:=by simpa using h1
    have hlk:=yB (σ++[.cells (aI r)]) r 0 [] hv YH
    cases hs:bQ r []
    ·have he2:aZ r eo=8:=by simp [aZ,h1',hs]
     rw [hs,roomCells_eq] at hlk
     (repeat (first|simp only [↓QA,QB,seval,mS,h1]|refine rd0 rfl ?_))
     refine .mono hlk fun o ho=>?_
     obtain ⟨ps,hov,hoσ,hps⟩:=ho
     rw [hov,hoσ]
     (repeat (first|simp only [↓QA,QB,seval,mS,List.length_append,k7]|refine rd0 rfl ?_))
     rw [he2]
     simp
    ·have he2:aZ r eo=0:=by simp [aZ,h1',hs]
     rw [hs,roomCells_eq] at hlk
     (repeat (first|simp only [↓QA,QB,seval,mS,h1]|refine rd0 rfl ?_))
     refine .mono hlk fun o ho=>?_
     obtain ⟨ps,hov,hoσ,hps⟩:=ho
     obtain rfl:=hps rfl
     rw [hov,hoσ]
     (repeat (first|simp only [↓QA,QB,seval,mS,List.length_append,k7]|refine rd0 rfl ?_))
     rw [he2]
     simp [mR,he,he2,roomCells_eq]
 ·obtain ⟨hj,ho⟩:=ho
  by_cases he:jB r eo=0
  ·rw [if_pos he] at ho
   refine ⟨hj,lC r eo σ.length,?_,.inl ⟨rfl,ho.2.2⟩⟩
   simp [f9,k8,a95,ho.1,ho.2.1,lC,he]
  ·rw [if_neg he] at ho
   obtain ⟨h4,h5,τ,hσ⟩:=ho
   refine ⟨hj,lC r eo σ.length,?_,.inr ⟨20,lC r eo σ.length,lC r eo σ.length,?_,.inl rfl,fun i hi=>.inl (by rw [hσ];exact List.getElem?_append_left hi),by rw [hσ];simp,rfl,by rw [hσ];simp [mR,he]⟩⟩
   ·simp [f9,k8,a95,h4,h5,lC,he]
   ·simp [lC,he,snap,snaps]
end Go.Am.Room.Ro
set_option maxRecDepth 4000
namespace Go.Am.Room.Ro
def fB:=And.intro @gT (And.intro @dY (And.intro @eC (And.intro @dS (And.intro @dR (And.intro @Nat.mul_one (And.intro @Int.toNat_natCast (And.intro @encRoom_eq (And.intro @roomCells_eq (And.intro @encSetting_eq (And.intro @encLook_eq (And.intro @aC (And.intro @jI (And.intro @Nat.add_lt_add_iff_left (And.intro @Nat.lt_add_right_iff_pos (@bI)))))))))))))))
theorem A5 {r:Rm} (hv:Vd r) (hs:bQ r []=true) {d:Nat} (hd:d≤r.ran.length):psB r [] d=gB r d:=by
 rw [k9 hv] at hs
 obtain ⟨b,f,h1,_⟩:=nA hv hs (r.ran.length-d) (by omega)
 simp [psB,hd,bS,gB,h1]
theorem TL {r:Rm} (hv:Vd r) (hs:bQ r []=true) {d:Nat} (hd:d≤r.ran.length):psB r [] d=mD (y2 r [] d):=by rw [A5 hv hs hd,BE hv]
theorem iE (r:Rm) (day:Int) (hf:Fits r):cN T 82 [encRoom r,.int .i64 day] (iA (cQ r day)):=by
 refine aQ (af:=a82) rfl (by simp [a82]) dd ?_
 (repeat (first|simp only [↓QA,QB,Nat.reduceLT,reduceIte,Nat.reduceEqDiff,Nat.reduceAdd,Nat.reduceLeDiff,Nat.reduceMul,Nat.reduceBEq,fB,a82]|refine rd0 rfl ?_))
 refine eS (rE _ _ _) ?_
 (repeat (first|simp only [↓QA,QB,Nat.reduceLT,reduceIte,Nat.reduceEqDiff,Nat.reduceAdd,Nat.reduceLeDiff,Nat.reduceMul,Nat.reduceBEq,fB]|refine rd0 rfl ?_))
 refine eS (lT _ r _ (if inR day 0 r.ran.length=true then 0 else 7) hf ?_) ?_
 ·intro _
  have:=rY [.cells (aI r),.cells [.int .i64 0,.int .i64 0],.cells [.lit [.int .i64 day,.int .i64 0,.int .i64 r.ran.length] true none],.cells (aI r)] 2 [day,0,r.ran.length] true none (by simp) (by simp [aM]) (by simp)
  rw [roomCells_eq] at this
  have e:iQ [day,0,(r.ran.length:Int)]=if inR day 0 r.ran.length=true then 0 else 7:=rfl
  rw [e] at this
  try simp only [↓QA,QB,Nat.reduceLT,reduceIte,Nat.reduceEqDiff,Nat.reduceAdd,Nat.reduceLeDiff,Nat.reduceMul,Nat.reduceBEq,fB]
  exact this
 have he:jB r (if inR day 0 r.ran.length=true then 0 else 7)=aZ r (dA r day 0 r.ran.length):=rfl
 simp only [lC,mR,he]
 by_cases h0:aZ r (dA r day 0 r.ran.length)=0
 ·obtain ⟨h1,hs⟩:=dO h0
  obtain ⟨hv,hd0,hd1⟩:=eV h1
  have hdd:=hv.days
  have hdr:=hv.ranLen
  have hp:cQ r day=(psB r [] day.toNat,0):=by rw [cQ,if_pos h0,TL hv hs (by omega)]
  have i1:(0:Int)≤day∧day<((7:Nat):Int):=⟨hd0,by omega⟩
  have c1:7+day.toNat*2+2≤22:=by omega
  have t1:=fun m=>FY r (psB r []) m day.toNat (by omega)
  rw [if_pos h0,if_pos h0,hp]
  (repeat (first|simp only [↓QA,QB,Nat.reduceLT,reduceIte,Nat.reduceEqDiff,Nat.reduceAdd,Nat.reduceLeDiff,Nat.reduceMul,Nat.reduceBEq,fB,show ((0:Int)==0)=true from rfl,i1,c1,t1,hJ,iA]|refine rd0 rfl ?_))
 ·have h0':(aZ r (dA r day 0 r.ran.length)==0)=false:=by simpa using h0
  have hp:cQ r day=(⟨0,0⟩,aZ r (dA r day 0 r.ran.length)):=by rw [cQ,if_neg h0]
  rw [if_neg h0,if_neg h0,hp]
  (repeat (first|simp only [↓QA,QB,Nat.reduceLT,reduceIte,Nat.reduceEqDiff,Nat.reduceAdd,Nat.reduceLeDiff,Nat.reduceMul,Nat.reduceBEq,fB,h0',iA]|refine rd0 rfl ?_))
theorem BM (r:Rm) (day:Int) (hf:Fits r):cN T 83 [encRoom r,.int .i64 day] (iA (j2 r day)):=by
 refine aQ (af:=a83) rfl (by simp [a83]) dd ?_
 (repeat (first|simp only [↓QA,QB,Nat.reduceLT,reduceIte,Nat.reduceEqDiff,Nat.reduceAdd,Nat.reduceLeDiff,Nat.reduceMul,Nat.reduceBEq,fB,a83]|refine rd0 rfl ?_))
 ((first|refine aE (iE r day hf) rfl dd ?_|refine aG (iE r day hf) rfl dd ?_);(repeat (first|simp only [↓QA,QB,Nat.reduceLT,reduceIte,Nat.reduceEqDiff,Nat.reduceAdd,Nat.reduceLeDiff,Nat.reduceMul,Nat.reduceBEq,fB,iA]|refine rd0 rfl ?_)))
 cases h0:((cQ r day).2==0)
 ·have h0':(cQ r day).2≠0:=by simpa using h0
  (repeat (first|simp only [↓QA,QB,Nat.reduceLT,reduceIte,Nat.reduceEqDiff,Nat.reduceAdd,Nat.reduceLeDiff,Nat.reduceMul,Nat.reduceBEq,fB,h0,j2,h0',iA]|refine rd0 rfl ?_))
 ·have h0':(cQ r day).2=0:=by simpa using h0
  obtain ⟨hv,hs,_,_,hp⟩:=J8 h0'
  have hb:=vP hv hs day.toNat
  rw [←hp] at hb
  (repeat (first|simp only [↓QA,QB,Nat.reduceLT,reduceIte,Nat.reduceEqDiff,Nat.reduceAdd,Nat.reduceLeDiff,Nat.reduceMul,Nat.reduceBEq,fB,h0]|refine rd0 rfl ?_))
  ((first|refine aE (kO (cQ r day).1 hb.1 (by omega) (by omega) (by omega)) rfl dd ?_|refine aG (kO (cQ r day).1 hb.1 (by omega) (by omega) (by omega)) rfl dd ?_);(repeat (first|simp only [↓QA,QB,Nat.reduceLT,reduceIte,Nat.reduceEqDiff,Nat.reduceAdd,Nat.reduceLeDiff,Nat.reduceMul,Nat.reduceBEq,fB,j2,h0',iA]|refine rd0 rfl ?_)))
theorem IG (r:Rm) (hf:Fits r):cN T 84 [encRoom r] (iA (cQ r 0)):=by
 refine aQ (af:=a84) rfl (by simp [a84]) dd ?_
 (repeat (first|simp only [↓QA,QB,Nat.reduceLT,reduceIte,Nat.reduceEqDiff,Nat.reduceAdd,Nat.reduceLeDiff,Nat.reduceMul,Nat.reduceBEq,fB,a84]|refine rd0 rfl ?_))
 ((first|refine aE (iE r 0 hf) rfl dd ?_|refine aG (iE r 0 hf) rfl dd ?_);(repeat (first|simp only [↓QA,QB,Nat.reduceLT,reduceIte,Nat.reduceEqDiff,Nat.reduceAdd,Nat.reduceLeDiff,Nat.reduceMul,Nat.reduceBEq,fB,iA]|refine rd0 rfl ?_)))
theorem LJ (σ:St) (p q:Nat) (r:Rm) (l:List Int) (hv:Vd r) (hl:l.length<9223372036854775808) (hp:aM σ p=some [.lit (l.map (.int .i64)) false none]) (hq:aM σ q=some (aI r)) :
  eA T (.func 226 [] [.ptr p 0,.ptr q 0]) [] σ (.int .i64 (if r.days-r.ran.length<l.length then 3 else if l.all (eD r)=true then 0 else 4)):=by
 refine bR (af:=a226) rfl (by simp [a226]) ?_
 rw [roomCells_eq] at hq
 have hd1:=hv.days
 have hd2:=hv.ranLen
 have hns:=hv.nset
 have hwd:IntKind.i64.wrap (r.days-(r.ran.length:Int))=r.days-r.ran.length:=aX ⟨by omega,by omega⟩
 have hws:IntKind.i64.wrap ((r.settings.length:Int)-1)=(r.settings.length:Int)-1:=aX ⟨by omega,by omega⟩
 have hall:iV 0 ((r.settings.length:Int)-1) l = !l.all (eD r):=by
  rw [Bool.eq_iff_iff]
  simp [iV,fQ,eD,inR,List.any_eq_true,List.all_eq_true]
  constructor
  ·rintro ⟨x,hx,h⟩;exact ⟨x,hx,by omega⟩
  ·rintro ⟨x,hx,h⟩;exact ⟨x,hx,by omega⟩
 (repeat (first|simp only [↓QA,QB,Nat.reduceLT,reduceIte,Nat.reduceEqDiff,Nat.reduceAdd,Nat.reduceLeDiff,Nat.reduceMul,Nat.reduceBEq,fB,a226,hp,hq,hwd]|refine rd0 rfl ?_))
 cases h1:decide (r.days-(r.ran.length:Int)<(l.length:Int))
 ·have h1':¬r.days-(r.ran.length:Int)<(l.length:Int):=by simpa using h1
  (repeat (first|simp only [↓QA,QB,Nat.reduceLT,reduceIte,Nat.reduceEqDiff,Nat.reduceAdd,Nat.reduceLeDiff,Nat.reduceMul,Nat.reduceBEq,fB,h1,hp,hq,hws]|refine rd0 rfl ?_))
  ((first|refine aE (aY 0 ((r.settings.length:Int)-1) l hl) rfl dd ?_|refine aG (aY 0 ((r.settings.length:Int)-1) l hl) rfl dd ?_);(repeat (first|simp only [↓QA,QB,Nat.reduceLT,reduceIte,Nat.reduceEqDiff,Nat.reduceAdd,Nat.reduceLeDiff,Nat.reduceMul,Nat.reduceBEq,fB,hall]|refine rd0 rfl ?_)))
  cases h2:l.all (eD r)
  ·(repeat (first|simp only [↓QA,QB,Nat.reduceLT,reduceIte,Nat.reduceEqDiff,Nat.reduceAdd,Nat.reduceLeDiff,Nat.reduceMul,Nat.reduceBEq,fB]|refine rd0 rfl ?_))
   refine bY [] (by first|rfl|simp) ?_
   simp only [h1',if_false]
   try simp only [QS,QC,Nat.reduceLT,reduceIte,Nat.reduceEqDiff,Nat.reduceAdd,Nat.reduceLeDiff,Nat.reduceMul,Nat.reduceBEq,fB]
   rfl
  ·(repeat (first|simp only [↓QA,QB,Nat.reduceLT,reduceIte,Nat.reduceEqDiff,Nat.reduceAdd,Nat.reduceLeDiff,Nat.reduceMul,Nat.reduceBEq,fB]|refine rd0 rfl ?_))
   refine bY [] (by first|rfl|simp) ?_
   simp only [h1',if_false]
   try simp only [QS,QC,Nat.reduceLT,reduceIte,Nat.reduceEqDiff,Nat.reduceAdd,Nat.reduceLeDiff,Nat.reduceMul,Nat.reduceBEq,fB]
 ·have h1':r.days-(r.ran.length:Int)<(l.length:Int):=by simpa using h1
  (repeat (first|simp only [↓QA,QB,Nat.reduceLT,reduceIte,Nat.reduceEqDiff,Nat.reduceAdd,Nat.reduceLeDiff,Nat.reduceMul,Nat.reduceBEq,fB,h1]|refine rd0 rfl ?_))
  refine bY [] (by first|rfl|simp) ?_
  simp only [h1',if_true]
  try simp only [QS,QC,Nat.reduceLT,reduceIte,Nat.reduceEqDiff,Nat.reduceAdd,Nat.reduceLeDiff,Nat.reduceMul,Nat.reduceBEq,fB]
end Go.Am.Room.Ro
set_option maxRecDepth 4000
namespace Go.Am.Room.Ro
def jR:=And.intro @gT (And.intro @dY (And.intro @eC (And.intro @dS (And.intro @dR (And.intro @Nat.mul_one (And.intro @Int.toNat_natCast (And.intro @encRoom_eq (And.intro @roomCells_eq (And.intro @encSetting_eq (And.intro @encLook_eq (And.intro @aC (And.intro @jI (And.intro @Nat.add_lt_add_iff_left (And.intro @Nat.lt_add_right_iff_pos (@bI)))))))))))))))
theorem DF (n:Nat):(List.replicate n [AV.int .i64 0]).flatten=List.replicate n (.int .i64 0):=by
 induction n with
 |zero=>rfl
 |succ n ih=>simp [List.replicate_succ,ih]
theorem CC (l:List Int):(l.map (AV.int .i64)).flatMap AV.cells=l.map (.int .i64):=by
 induction l with
 |nil=>rfl
 |cons x l ih=>simp only [List.map_cons,List.flatMap_cons,ih,AV.cells];rfl
theorem QI (b0 b1 b2 b3 b4 b5 b6:ABlk) (l:List Int):pT 1 [b0,b1,b2,b3,b4,b5,b6,.cells (List.replicate l.length (.int .i64 0))] (.ref 7 0 l.length 1) (.lit (l.map (.int .i64)) false none)=some (.int .i64 l.length,[b0,b1,b2,b3,b4,b5,b6,.cells (l.map (.int .i64))]):=by
 have h1:aU 1 (l.map (AV.int .i64))=true:=qB 1 _ l (fun x=>FI _ _)
 have h2:(l.map (AV.int .i64)).take l.length=l.map (.int .i64):=List.take_of_length_le (by simp)
 simp [pT,o9,wM,h1,aM,fX,h2,CC]
theorem V0 (r:Rm) (l:List Int):jB r (if r.days-r.ran.length<l.length then 3 else if l.all (eD r)=true then 0 else 4)=aZ r (kD r l):=by
 simp only [jB,kD,wF,HD]
 congr 1
 by_cases h0:(check r).2.2=0
 ·by_cases h1:r.days-(r.ran.length:Int)<(l.length:Int)
  ·simp [h0,h1]
  ·simp [h0,h1]
 ·simp [h0]
theorem O1 (r:Rm) (l:List Int) (hf:Fits r) (hl:l.length<9223372036854775808):cN T 85 [encRoom r,ints l] (iA (oD r l)):=by
 refine aQ (af:=a85) rfl (by simp [a85]) dd ?_
 (repeat (first|simp only [↓QA,QB,Nat.reduceLT,reduceIte,Nat.reduceEqDiff,Nat.reduceAdd,Nat.reduceLeDiff,Nat.reduceMul,Nat.reduceBEq,jR,a85]|refine rd0 rfl ?_))
 refine gY (lT _ r _ (if r.days-r.ran.length<l.length then 3 else if l.all (eD r)=true then 0 else 4) hf ?_) ?_
 ·intro h0
  have:=LJ [.cells (aI r),.cells [.lit (l.map (.int .i64)) false none],.cells [.int .i64 0,.int .i64 0],.cells (aI r)] 1 0 r l (vd_of_check h0) hl (by simp [aM]) (by simp [aM])
  rw [roomCells_eq] at this
  try simp only [↓QA,QB,Nat.reduceLT,reduceIte,Nat.reduceEqDiff,Nat.reduceAdd,Nat.reduceLeDiff,Nat.reduceMul,Nat.reduceBEq,jR]
  exact this
 simp only [lC,mR,V0]
 by_cases h0:aZ r (kD r l)=0
 ·obtain ⟨h1,hs⟩:=dO h0
  obtain ⟨hv,hlen,hn⟩:=BR h1
  have hdd:=hv.days
  have hdr:=hv.ranLen
  obtain ⟨b0,b1,b2,b3⟩:=MG hv hs
  have hsb:=HJ hv l hn
  have hb:oD r l=(colours (plus (gB r r.ran.length) (sumS r l)),0):=if_pos h0
  have i1:(0:Int)≤(r.ran.length:Int)∧(r.ran.length:Int)<((7:Nat):Int):=⟨by omega,by omega⟩
  have c1:7+r.ran.length*2+2≤22:=by omega
  have t1:=fun m=>FY r (psB r []) m r.ran.length (by omega)
  rw [A5 hv hs (Nat.le_refl _)] at t1
  have hmk:qU 8 (.int .i64 l.length) (.int .i64 l.length)=some l.length:=by simp [qU,room];omega
  rw [if_pos h0,if_pos h0,hb]
  (repeat (first|simp only [↓QA,QB,Nat.reduceLT,reduceIte,Nat.reduceEqDiff,Nat.reduceAdd,Nat.reduceLeDiff,Nat.reduceMul,Nat.reduceBEq,jR,show ((0:Int)==0)=true from rfl,hmk,DF,QI]|refine rd0 rfl ?_))
  refine mU [.cells [.int .i64 0,.int .i64 0]] rfl ?_
  (repeat (first|simp only [↓QA,QB,Nat.reduceLT,reduceIte,Nat.reduceEqDiff,Nat.reduceAdd,Nat.reduceLeDiff,Nat.reduceMul,Nat.reduceBEq,jR]|refine rd0 rfl ?_))
  refine eL (rO _ 6 r (psB r []) 5 (by simp [aM])) ?_
  (repeat (first|simp only [↓QA,QB,Nat.reduceLT,reduceIte,Nat.reduceEqDiff,Nat.reduceAdd,Nat.reduceLeDiff,Nat.reduceMul,Nat.reduceBEq,jR,i1,c1,t1,hJ]|refine rd0 rfl ?_))
  refine bU (S:=Nat×Span) (0,gB r r.ran.length) (fun s=>s.1≤l.length∧plus s.2 (sumS r (l.drop s.1))=plus (gB r r.ran.length) (sumS r l)∧0≤s.2.lo∧0≤s.2.hi) (fun s=>l.length-s.1)
   (fun s=>[(2,.ptr 0 0),(4,.ptr 2 0),(5,.int .i64 0),(9,.ptr 8 0),(35,.ref 7 0 l.length 1),(36,.int .i64 l.length),(37,.int .i64 s.1)])
   (fun s=>[.cells (aI r),.cells [.lit (l.map (.int .i64)) false none],.cells [.int .i64 0,.int .i64 0],.cells (aI r),.cells (aI r),.map [],.cells (rb r (psB r []) 5),.cells (l.map (.int .i64)),.cells [.int .i64 s.2.lo,.int .i64 s.2.hi]])
   ⟨by simp,by simp,b0,by simp only;omega⟩ (by simp [aI,ints]) ?_ fun s hs=>?_
  ·try simp only [aF,QE,Nat.reduceLT,reduceIte,Nat.reduceEqDiff,Nat.reduceAdd,Nat.reduceLeDiff,Nat.reduceMul,Nat.reduceBEq,jR]
   try simp
  ·obtain ⟨k,q⟩:=s
   obtain ⟨hk,hq,hq0,hq1⟩:=hs
   simp only at hk hq hq0 hq1
   (repeat (first|simp only [↓QA,QB,Nat.reduceLT,reduceIte,Nat.reduceEqDiff,Nat.reduceAdd,Nat.reduceLeDiff,Nat.reduceMul,Nat.reduceBEq,jR,ZI]|refine rd0 rfl ?_))
   refine aJ (fun h=>?_) fun h=>?_
   ·have hk1:k<l.length:=by simpa using h
    have hw:=b7 hk1 (by omega)
    have hx:=hn _ (List.getElem_mem hk1)
    have hx0:0≤l[k]:=hx.1
    have hx1:l[k].toNat<r.settings.length:=by omega
    have hg:=hv.gains _ (List.getElem_mem hx1)
    have hrest:=HJ hv (l.drop (k+1)) fun n hm=>hn n (List.mem_of_mem_drop hm)
    rw [List.drop_eq_getElem_cons hk1] at hq
    simp only [sumS,gainN_eq hx1] at hq
    rw [←CD] at hq
    have hq2:=congrArg Span.hi hq
    have hq3:=congrArg Span.lo hq
    simp only [plus] at hq2 hq3
    have i2:(0:Int)≤(k:Int)∧(k:Int)<((l.length:Nat):Int)∧1=1:=⟨by omega,by omega,rfl⟩
    (repeat (first|simp only [↓QA,QB,Nat.reduceLT,reduceIte,Nat.reduceEqDiff,Nat.reduceAdd,Nat.reduceLeDiff,Nat.reduceMul,Nat.reduceBEq,jR,i2,hk1,DB,hx0,hx1,Nat.zero_add]|refine rd0 rfl ?_))
    ((first|refine aE (mZ q r.settings[l[k].toNat].gain (by omega) (by omega) (by omega) (by omega)) rfl dd ?_|refine aG (mZ q r.settings[l[k].toNat].gain (by omega) (by omega) (by omega) (by omega)) rfl dd ?_);(repeat (first|simp only [↓QA,QB,Nat.reduceLT,reduceIte,Nat.reduceEqDiff,Nat.reduceAdd,Nat.reduceLeDiff,Nat.reduceMul,Nat.reduceBEq,jR,i2,hk1,DB,hx0,hx1,hw]|refine rd0 rfl ?_)))
    refine ⟨(k+1,plus q r.settings[l[k].toNat].gain),⟨by simp only;omega,hq,by simp only [plus];omega,by simp only [plus];omega⟩,by simp only;omega,?_⟩
    try simp only [aF,QE,Nat.reduceLT,reduceIte,Nat.reduceEqDiff,Nat.reduceAdd,Nat.reduceLeDiff,Nat.reduceMul,Nat.reduceBEq,jR,hw,plus]
    try simp [aT,okVs,okV]
    exact gH (by omega)
   ·have hk1:k=l.length:=by simp at h;omega
    rw [hk1,List.drop_length] at hq
    have hq':q=plus (gB r r.ran.length) (sumS r l):=by rw [←hq];simp [sumS,plus]
    have hqh:q.hi<1000:=by rw [hq'];simp only [plus];omega
    have hql:q.lo<1000:=by rw [hq'];simp only [plus];omega
    rw [←hq']
    (repeat (first|simp only [↓QA,QB,Nat.reduceLT,reduceIte,Nat.reduceEqDiff,Nat.reduceAdd,Nat.reduceLeDiff,Nat.reduceMul,Nat.reduceBEq,jR]|refine rd0 rfl ?_))
    ((first|refine aE (kO q hq0 (by omega) hq1 (by omega)) rfl dd ?_|refine aG (kO q hq0 (by omega) hq1 (by omega)) rfl dd ?_);(repeat (first|simp only [↓QA,QB,Nat.reduceLT,reduceIte,Nat.reduceEqDiff,Nat.reduceAdd,Nat.reduceLeDiff,Nat.reduceMul,Nat.reduceBEq,jR,iA]|refine rd0 rfl ?_)))
 ·have h0':(aZ r (kD r l)==0)=false:=by simpa using h0
  have hb:oD r l=(⟨0,0⟩,aZ r (kD r l)):=if_neg h0
  rw [if_neg h0,if_neg h0,hb]
  (repeat (first|simp only [↓QA,QB,Nat.reduceLT,reduceIte,Nat.reduceEqDiff,Nat.reduceAdd,Nat.reduceLeDiff,Nat.reduceMul,Nat.reduceBEq,jR,h0',iA]|refine rd0 rfl ?_))
end Go.Am.Room.Ro
set_option maxRecDepth 4000
namespace Go.Am.Room.Ro
def nS:=And.intro @gT (And.intro @dY (And.intro @eC (And.intro @dS (And.intro @dR (And.intro @Nat.mul_one (And.intro @Int.toNat_natCast (And.intro @encRoom_eq (And.intro @roomCells_eq (And.intro @encSetting_eq (And.intro @encLook_eq (And.intro @aC (And.intro @jI (And.intro @Nat.add_lt_add_iff_left (And.intro @Nat.lt_add_right_iff_pos (And.intro @bI (And.intro @List.length_append.{0} (And.intro @aD5 (And.intro @aAN (And.intro @aCJ (And.intro @S8 (@ZY)))))))))))))))))))))
structure W4 where
 a:Int
 b:Int
 c:Int
 d:Int
 deriving DecidableEq
def W4.at (w:W4):Nat→Int
 |0=>w.a
 |1=>w.b
 |2=>w.c
 |3=>w.d
 |_=>0
def AP (w:W4):AV:=.agg [.int .i64 w.a,.int .i64 w.b,.int .i64 w.c,.int .i64 w.d]
theorem iB (w:W4):AP w = .agg [.int .i64 w.a,.int .i64 w.b,.int .i64 w.c,.int .i64 w.d]:=by simp only [AP]
def jM (r:Rm) (w:W4):Nat→Span
 |0=>⟨0,0⟩
 |k+1=>plus (jM r w k) (match r.settings[k]? with|some s=>⟨w.at k*s.gain.lo,w.at k*s.gain.hi⟩|none=>⟨0,0⟩)
def gF (r:Rm) (w:W4):Span:=jM r w r.settings.length
abbrev dH:=List W4
def g8 (r:Rm) (M:dH):List (AV×AV):=M.map fun w=>(AP w,bC (gF r w))
def eN (M:dH) (w:W4):dH:=if w∈M then M else M++[w]
theorem eqW (w x:W4):jV (.agg [.i,.i,.i,.i]) (AP w) (AP x)=some (decide (w=x)):=by
 obtain ⟨a,b,c,d⟩:=w
 obtain ⟨a',b',c',d'⟩:=x
 have key:∀ p q:Bool,p=q→some p=some q:=fun p q h=>by rw [h]
 simp only [jV,AP,GG,K6,N2,GU]
 refine key _ _ ?_
 rw [Bool.eq_iff_iff]
 simp [W4.mk.injEq,and_assoc]
theorem Y7 (r:Rm) (w:W4):∀ M:dH,findKey (.agg [.i,.i,.i,.i]) (AP w) (g8 r M)=some (if w∈M then some (bC (gF r w)) else none)
 |[]=>by simp [g8,findKey]
 |x::M=>by
  have ih:=Y7 r w M
  simp only [g8,List.map_cons,findKey,eqW] at ih ⊢
  by_cases h:w=x
  ·subst h;simp
  ·simp only [h,decide_false,ih,List.mem_cons,false_or]
theorem aD8 (r:Rm) (w:W4):∀ M:dH,w∉M→mF (.agg [.i,.i,.i,.i]) (AP w) (bC (gF r w)) (g8 r M)=some (g8 r (M++[w]))
 |[],_=>by simp [g8,mF]
 |x::M,h=>by
  have ih:=aD8 r w M (fun q=>h (List.mem_cons_of_mem _ q))
  have hx:w≠x:=fun e=>h (by rw [e];simp)
  simp only [g8,List.map_cons,mF,eqW,List.cons_append] at ih ⊢
  simp only [hx,decide_false,ih,Option.map_some]
structure RoomAt (S:dH→St) (r:Rm) (ps:Nat→Span) (p m N:Nat):Prop where
 len:∀ M,(S M).length=N
 at0:∀ M,aM (S M) p=some (rb r ps m)
 map0:∀ M,(S M)[m]? = some (.map (g8 r M))
 mset:∀ M M',(S M).set m (.map (g8 r M'))=S M'
 pl:p<N
 ml:m<N
namespace RoomAt
variable {S:dH→St} {r:Rm} {ps:Nat→Span} {p m N:Nat}
theorem base (h:RoomAt S r ps p m N) (M:dH) (τ:St) (k:Nat):aM (S M++τ) (N+k)=aM τ k:=by rw [←h.len M];exact nC _ _ _
theorem base0 (h:RoomAt S r ps p m N) (M:dH) (τ:St):aM (S M++τ) N=aM τ 0:=h.base M τ 0
theorem bset (h:RoomAt S r ps p m N) (M:dH) (τ:St) (k:Nat) (x:ABlk):(S M++τ).set (N+k) x=S M++τ.set k x:=by rw [←h.len M];exact oP _ _ _ _
theorem bset0 (h:RoomAt S r ps p m N) (M:dH) (τ:St) (x:ABlk):(S M++τ).set N x=S M++τ.set 0 x:=h.bset M τ 0 x
theorem at1 (h:RoomAt S r ps p m N) (M:dH) (τ:St):aM (S M++τ) p=some (rb r ps m):=by
 have:=h.at0 M
 have hl:=h.pl
 rw [←h.len M] at hl
 simp only [aM] at this ⊢
 rw [List.getElem?_append_left hl]
 exact this
theorem map1 (h:RoomAt S r ps p m N) (M:dH) (τ:St):(S M++τ)[m]? = some (.map (g8 r M)):=by
 have hl:=h.ml
 rw [←h.len M] at hl
 rw [List.getElem?_append_left hl]
 exact h.map0 M
theorem mset1 (h:RoomAt S r ps p m N) (M M':dH) (τ:St):(S M++τ).set m (.map (g8 r M'))=S M'++τ:=by
 have hl:=h.ml
 rw [←h.len M] at hl
 rw [List.set_append_left _ _ hl,h.mset]
theorem look1 (h:RoomAt S r ps p m N) (M:dH) (τ:St) (w:W4):wG (.agg [.i,.i,.i,.i]) (S M++τ) (.map m) (AP w)=some (if w∈M then some (bC (gF r w)) else none):=by
 simp only [wG,h.map1,Y7,eqW]
 simp
theorem put1 (h:RoomAt S r ps p m N) (M:dH) (τ:St) (w:W4) (hw:w∉M):sO (.agg [.i,.i,.i,.i]) (S M++τ) (.map m) (AP w) (bC (gF r w))=some (S (M++[w])++τ):=by
 simp only [sO,eqW,h.map1,aD8 r w M hw,Option.map_some,h.mset1]
 simp
theorem keep (h:RoomAt S r ps p m N) (M M':dH) (i:Nat) (hi:i≠m):(S M')[i]? = (S M)[i]?:=by
 rw [←h.mset M M',List.getElem?_set_ne (fun e=>hi e.symm)]
theorem memo_ok (r:Rm) (M:dH) (k:Nat):aT k (.map (g8 r M)):=by
 simp only [aT,g8]
 intro q hq
 obtain ⟨w,hw,rfl⟩:=List.mem_map.1 hq
 simp [AP,bC,okV,okVs]
theorem kept (h:RoomAt S r ps p m N) {M M':dH} {σ τ:St} (hσ:σ=S M'++τ):∀ i,i<(S M).length→pC (S M) σ (S M).length i:=by
 intro i hi
 rw [hσ]
 have hl:i<(S M').length:=by rw [h.len] at hi ⊢;exact hi
 by_cases him:i=m
 ·subst him
  refine .inr (.inl ⟨.map (g8 r M'),?_,memo_ok r M' _⟩)
  rw [List.getElem?_append_left hl,h.map0]
 ·refine .inl ?_
  rw [List.getElem?_append_left hl,h.keep M M' i him]
end RoomAt
theorem W4.get (w:W4) {k:Nat} (h:k<4):[AV.int .i64 w.a,.int .i64 w.b,.int .i64 w.c,.int .i64 w.d][k]? = some (.int .i64 (w.at k)):=by
 match k,h with
 |0,_=>rfl
 |1,_=>rfl
 |2,_=>rfl
 |3,_=>rfl
theorem HE {a b:Int} (h0:0≤a) (h1:a≤10) (h2:0≤b) (h3:b≤15):0≤a*b∧a*b≤150:=by
  constructor
  · exact Int.mul_nonneg h0 h2
  · calc a*b≤10*b:=Int.mul_le_mul_of_nonneg_right h1 h2
      _≤150:=by omega
theorem mX {r:Rm} {w:W4} {k:Nat} (h:k<r.settings.length):jM r w (k+1)=plus (jM r w k) ⟨w.at k*r.settings[k].gain.lo,w.at k*r.settings[k].gain.hi⟩:=by
 simp only [jM,List.getElem?_eq_getElem h]
theorem zB {r:Rm} (hv:Vd r) {w:W4} (hw:∀ k,0≤w.at k∧w.at k≤10):∀ k,k≤r.settings.length→0≤(jM r w k).lo∧(jM r w k).lo≤150*k∧0≤(jM r w k).hi∧(jM r w k).hi≤150*k
 |0,_=>by simp [jM]
 |k+1,h=>by
  have ih:=zB hv hw k (by omega)
  have hk:k<r.settings.length:=h
  have hg:=hv.gains _ (List.getElem_mem hk)
  have m1:=HE (hw k).1 (hw k).2 hg.1 (show r.settings[k].gain.lo≤15 by omega)
  have m2:=HE (hw k).1 (hw k).2 (show 0≤r.settings[k].gain.hi by omega) hg.2.2
  rw [mX hk]
  simp only [plus]
  omega
theorem F3 (z v:AV):E0 true z (some (some v))=some (.tuple [v,.bool true]):=rfl
theorem HL (z:AV):E0 true z (some none)=some (.tuple [z,.bool false]):=rfl
theorem SZ {S:dH→St} {r:Rm} {ps:Nat→Span} {p m N:Nat} (hR:RoomAt S r ps p m N) (hv:Vd r) (M:dH) (w:W4) (hw:∀ k,0≤w.at k∧w.at k≤10) :
  sW T (.func 237 [] []) [.ptr p 0,AP w] (S M) (bC (gF r w)) (S (eN M w)):=by
 have hns:=hv.nset
 refine .callf (.call (af:=a237) rfl (by simp [a237]) (eQ (K:=fun j e σ1=>(j=none∨j=some .ret)∧∃ τ,f9 a237.results e σ1=some (bC (gF r w))∧σ1=S (eN M w)++τ) ?_ fun o ho=>ho) fun o ho=>?_)
 ·have hl1:=fun τ=>hR.look1 M τ w
  simp only [iB,aC] at hl1
  (repeat (first|simp only [↓QA,QB,Nat.reduceLT,reduceIte,Nat.reduceEqDiff,Nat.reduceAdd,Nat.reduceLeDiff,Nat.reduceMul,Nat.reduceBEq,nS,iB,hR.len,hR.base,hR.base0,hR.bset,hR.bset0,hR.at1,hR.at0,hR.map1,hR.map0,a237]|refine rd0 rfl ?_))
  refine mU [.cells [.int .i64 0,.int .i64 0]] rfl ?_
  by_cases hm:w∈M
  ·have hst:eN M w=M:=by simp [eN,hm]
   rw [hst]
   simp only [hm,if_true] at hl1
   (repeat (first|simp only [↓QA,QB,Nat.reduceLT,reduceIte,Nat.reduceEqDiff,Nat.reduceAdd,Nat.reduceLeDiff,Nat.reduceMul,Nat.reduceBEq,nS,iB,hR.len,hR.base,hR.base0,hR.bset,hR.bset0,hR.at1,hR.at0,hR.map1,hR.map0,hl1,F3,HL]|refine rd0 rfl ?_))
   exact ⟨_,rfl⟩
  ·have hst:eN M w=M++[w]:=by simp [eN,hm]
   have hput:=fun τ=>hR.put1 M τ w hm
   simp only [iB,aC] at hput
   rw [hst]
   simp only [hm,if_false] at hl1
   (repeat (first|simp only [↓QA,QB,Nat.reduceLT,reduceIte,Nat.reduceEqDiff,Nat.reduceAdd,Nat.reduceLeDiff,Nat.reduceMul,Nat.reduceBEq,nS,iB,hR.len,hR.base,hR.base0,hR.bset,hR.bset0,hR.at1,hR.at0,hR.map1,hR.map0,hl1,F3,HL]|refine rd0 rfl ?_))
   refine bU (S:=Nat×Span) (0,⟨0,0⟩) (fun s=>s.1≤r.settings.length∧s.2=jM r w s.1) (fun s=>r.settings.length-s.1)
    (fun s=>[(0,.ptr p 0),(3,.ptr N 0),(4,.ptr (N+1) 0),(7,.ptr (N+3) 0),(25,.lit (r.settings.map encSetting) false none),(26,.int .i64 r.settings.length),(27,.int .i64 s.1)])
    (fun s=>S M++[.cells [.int .i64 w.a,.int .i64 w.b,.int .i64 w.c,.int .i64 w.d],.cells [.int .i64 0,.int .i64 0],.cells [.int .i64 0,.int .i64 0],.cells [.int .i64 s.2.lo,.int .i64 s.2.hi]]) ⟨by simp,rfl⟩ rfl ?_ fun s hs=>?_
   ·try simp only [aF,QE,Nat.reduceLT,reduceIte,Nat.reduceEqDiff,Nat.reduceAdd,Nat.reduceLeDiff,Nat.reduceMul,Nat.reduceBEq,nS,iB,hR.len,hR.base,hR.base0,hR.bset,hR.bset0,hR.at1,hR.at0,hR.map1,hR.map0]
    try simp
   ·obtain ⟨k,q⟩:=s
    obtain ⟨hk,hq⟩:=hs
    simp only at hk hq
    (repeat (first|simp only [↓QA,QB,Nat.reduceLT,reduceIte,Nat.reduceEqDiff,Nat.reduceAdd,Nat.reduceLeDiff,Nat.reduceMul,Nat.reduceBEq,nS,iB,hR.len,hR.base,hR.base0,hR.bset,hR.bset0,hR.at1,hR.at0,hR.map1,hR.map0,UH]|refine rd0 rfl ?_))
    refine aJ (fun h=>?_) fun h=>?_
    ·have hk1:k<r.settings.length:=by simp at h;omega
     have hk4:k<4:=by omega
     have hw1:=b7 hk1 (by omega)
     have hg:=hv.gains _ (List.getElem_mem hk1)
     have m1:=HE (hw k).1 (hw k).2 hg.1 (show r.settings[k].gain.lo≤15 by omega)
     have m2:=HE (hw k).1 (hw k).2 (show 0≤r.settings[k].gain.hi by omega) hg.2.2
     have bd:=zB hv hw k (by omega)
     rw [←hq] at bd
     have hs:=mX (w:=w) hk1
     rw [←hq] at hs
     have hg4:=w.get hk4
     have i1:(0:Int)≤(k:Int)∧(k:Int)<((4:Nat):Int):=⟨by omega,by omega⟩
     have e1:IntKind.i64.wrap (w.at k*r.settings[k].gain.lo)=w.at k*r.settings[k].gain.lo:=aX ⟨by omega,by omega⟩
     have e2:IntKind.i64.wrap (w.at k*r.settings[k].gain.hi)=w.at k*r.settings[k].gain.hi:=aX ⟨by omega,by omega⟩
     (repeat (first|simp only [↓QA,QB,Nat.reduceLT,reduceIte,Nat.reduceEqDiff,Nat.reduceAdd,Nat.reduceLeDiff,Nat.reduceMul,Nat.reduceBEq,nS,iB,hR.len,hR.base,hR.base0,hR.bset,hR.bset0,hR.at1,hR.at0,hR.map1,hR.map0,hk1,hg4,i1,e1,e2,Nat.zero_add]|refine rd0 rfl ?_))
     ((first|refine aE (mZ q ⟨w.at k*r.settings[k].gain.lo,w.at k*r.settings[k].gain.hi⟩ (by simp only;omega) (by simp only;omega) (by simp only;omega) (by simp only;omega)) rfl dd ?_|refine aG (mZ q ⟨w.at k*r.settings[k].gain.lo,w.at k*r.settings[k].gain.hi⟩ (by simp only;omega) (by simp only;omega) (by simp only;omega) (by simp only;omega)) rfl dd ?_);(repeat (first|simp only [↓QA,QB,Nat.reduceLT,reduceIte,Nat.reduceEqDiff,Nat.reduceAdd,Nat.reduceLeDiff,Nat.reduceMul,Nat.reduceBEq,nS,iB,hR.len,hR.base,hR.base0,hR.bset,hR.bset0,hR.at1,hR.at0,hR.map1,hR.map0,hk1,hg4,i1,e1,e2,Nat.zero_add,hw1]|refine rd0 rfl ?_)))
     refine ⟨(k+1,plus q ⟨w.at k*r.settings[k].gain.lo,w.at k*r.settings[k].gain.hi⟩),⟨by simp only;omega,by simp only;rw [←hs]⟩,by simp only;omega,?_⟩
     try simp only [aF,QE,Nat.reduceLT,reduceIte,Nat.reduceEqDiff,Nat.reduceAdd,Nat.reduceLeDiff,Nat.reduceMul,Nat.reduceBEq,nS,iB,hR.len,hR.base,hR.base0,hR.bset,hR.bset0,hR.at1,hR.at0,hR.map1,hR.map0,hw1,hR.pl,S_mapSet,plus]
     have:=hR.pl
     simp [aT,okVs,okV]
     try omega
    ·have hk1:k=r.settings.length:=by simp at h;omega
     have hq':q=gF r w:=by rw [hq,hk1];rfl
     rw [hq']
     (repeat (first|simp only [↓QA,QB,Nat.reduceLT,reduceIte,Nat.reduceEqDiff,Nat.reduceAdd,Nat.reduceLeDiff,Nat.reduceMul,Nat.reduceBEq,nS,iB,hR.len,hR.base,hR.base0,hR.bset,hR.bset0,hR.at1,hR.at0,hR.map1,hR.map0,hput]|refine rd0 rfl ?_))
     exact ⟨_,rfl⟩
 ·obtain ⟨hj,τ,hres,hσ⟩:=ho
  refine ⟨hj,bC (gF r w),hres,.inr ⟨20,bC (gF r w),bC (gF r w),?_,.inl rfl,?_,?_,rfl,?_⟩⟩
  ·simp [bC,snap,snaps]
  ·exact hR.kept hσ
  ·rw [hσ,List.length_append,hR.len,hR.len];omega
  ·rw [hσ,hR.len,←hR.len (eN M w),List.take_left]
end Go.Am.Room.Ro
set_option maxRecDepth 4000
namespace Go.Am.Room.Ro
def yF:=And.intro @gT (And.intro @dY (And.intro @eC (And.intro @dS (And.intro @dR (And.intro @Nat.mul_one (And.intro @Int.toNat_natCast (And.intro @encRoom_eq (And.intro @roomCells_eq (And.intro @encSetting_eq (And.intro @encLook_eq (And.intro @aC (And.intro @jI (And.intro @Nat.add_lt_add_iff_left (And.intro @Nat.lt_add_right_iff_pos (And.intro @bI (And.intro @iB (And.intro @List.length_append.{0} (And.intro @aD5 (And.intro @aAN (And.intro @aCJ (And.intro @S8 (@ZY))))))))))))))))))))))
theorem RoomAt.app {S:dH→St} {r:Rm} {ps:Nat→Span} {p m N:Nat} (h:RoomAt S r ps p m N) (τ:St):RoomAt (fun M=>S M++τ) r ps p m (N+τ.length) :=
 ⟨fun M=>by rw [List.length_append,h.len],fun M=>h.at1 M τ,fun M=>h.map1 M τ,fun M M'=>h.mset1 M M' τ,by have:=h.pl;omega,by have:=h.ml;omega⟩
def JT (S:dH→St) (i:Nat) (cs:List AV):Prop:=∀ M τ,aM (S M++τ) i=some cs
theorem JT.nil {S:dH→St} {i:Nat} {cs:List AV} (h:JT S i cs) (M:dH):aM (S M) i=some cs:=by simpa using h M []
def hY (r:Rm) (now:Span) (w:W4) (c:Int):Bool:=(colours (plus now (gF r w))).lo==c&&(colours (plus now (gF r w))).hi==c
theorem JH {S:dH→St} {r:Rm} {ps:Nat→Span} {p m N:Nat} (hR:RoomAt S r ps p m N) (hv:Vd r) (now:Span) (want:Int) (pn pr pw:Nat) (hn:JT S pn [.int .i64 now.lo,.int .i64 now.hi]) (hr:JT S pr [.ptr p 0]) (hw0:JT S pw [.int .i64 want])
  (h0:0≤now.lo) (h1:now.lo<1000) (h2:0≤now.hi) (h3:now.hi<1000) (M:dH) (sl:List AV) (fl:Bool) (tk:Option Nat) (w:W4) (hw:∀ k,0≤w.at k∧w.at k≤10) (c:Int) :
  sW T (.func 236 [] [.ptr pn 0,.ptr pr 0,.ptr pw 0]) [.agg [.lit sl fl tk,.int .i64 w.a,.int .i64 w.b,.int .i64 w.c,.int .i64 w.d,.int .i64 c]] (S M) (.bool (hY r now w want)) (S (eN M w)):=by
 have hns:=hv.nset
 have bd:=zB hv hw r.settings.length (Nat.le_refl _)
 have hb:jM r w r.settings.length=gF r w:=rfl
 rw [hb] at bd
 refine .callf (.call (af:=a236) rfl (by simp [a236]) (eQ (K:=fun j e σ1=>(j=none∨j=some .ret)∧∃ τ,f9 a236.results e σ1=some (.bool (hY r now w want))∧σ1=S (eN M w)++τ) ?_ fun o ho=>ho) fun o ho=>?_)
 ·have hs:=SZ (hR.app [.cells [.lit sl fl tk,.int .i64 w.a,.int .i64 w.b,.int .i64 w.c,.int .i64 w.d,.int .i64 c]]) hv M w hw
  try simp only [↓QA,QB,seval,yF,hR.len,hR.base,hR.base0,hR.bset,hR.bset0,hR.at1,hR.at0,hR.map1,hR.map0] at hs
  have hn':=fun M τ=>hn M τ
  have hr':=fun M τ=>hr M τ
  have hw':=fun M τ=>hw0 M τ
  (repeat (first|simp only [↓QA,QB,seval,yF,hR.len,hR.base,hR.base0,hR.bset,hR.bset0,hR.at1,hR.at0,hR.map1,hR.map0,a236,hn',hr',hw']|refine rd0 rfl ?_))
  refine eS hs ?_
  (repeat (first|simp only [↓QA,QB,seval,yF,hR.len,hR.base,hR.base0,hR.bset,hR.bset0,hR.at1,hR.at0,hR.map1,hR.map0,hn',hr',hw']|refine rd0 rfl ?_))
  ((first|refine aE (mZ now (gF r w) (by omega) (by omega) (by omega) (by omega)) rfl dd ?_|refine aG (mZ now (gF r w) (by omega) (by omega) (by omega) (by omega)) rfl dd ?_);(repeat (first|simp only [↓QA,QB,seval,yF,hR.len,hR.base,hR.base0,hR.bset,hR.bset0,hR.at1,hR.at0,hR.map1,hR.map0,hn',hr',hw']|refine rd0 rfl ?_)))
  ((first|refine aE (kO (plus now (gF r w)) (by simp only [plus];omega) (by simp only [plus];omega) (by simp only [plus];omega) (by simp only [plus];omega)) rfl dd ?_|refine aG (kO (plus now (gF r w)) (by simp only [plus];omega) (by simp only [plus];omega) (by simp only [plus];omega) (by simp only [plus];omega)) rfl dd ?_);(repeat (first|simp only [↓QA,QB,seval,yF,hR.len,hR.base,hR.base0,hR.bset,hR.bset0,hR.at1,hR.at0,hR.map1,hR.map0,hn',hr',hw']|refine rd0 rfl ?_)))
  exact ⟨_,rfl,rfl⟩
 ·obtain ⟨hj,τ,hres,hσ⟩:=ho
  refine ⟨hj,.bool (hY r now w want),hres,.inr ⟨20,.bool (hY r now w want),.bool (hY r now w want),?_,.inl rfl,?_,?_,rfl,?_⟩⟩
  ·simp [snap]
  ·exact hR.kept hσ
  ·rw [hσ,List.length_append,hR.len,hR.len];omega
  ·rw [hσ,hR.len,←hR.len (eN M w),List.take_left]
end Go.Am.Room.Ro
set_option maxRecDepth 4000
namespace Go.Am.Room.Ro
def WL:=And.intro @Nat.mul_one (And.intro @Int.toNat_natCast (And.intro @encRoom_eq (And.intro @roomCells_eq (And.intro @aC (And.intro @Nat.add_lt_add_iff_left (And.intro @Nat.lt_add_right_iff_pos (And.intro @bI (And.intro @iB (@List.length_append.{0})))))))))
theorem aCG (σ:St) (l:List Int) (f:Bool) (tk:Option Nat):uG 1 σ (.lit (l.map (.int .i64)) f tk) none (some (.int .i64 (l.length:Int))) (some (.int .i64 (l.length:Int)))=some (.lit (l.map (.int .i64)) true tk):=by
 have hc:uH 1 (l.map (AV.int .i64)) 0 (l.length:Int)=true:=by
  unfold uH
  cases l with
  |nil=>simp
  |cons x l=>simp [AV.cells]
 simp only [uG,iY,nH,Option.map_some,fP,mL]
 rw [if_pos (by simp),if_pos ⟨by omega,by omega,by simp,hc⟩]
 simp [List.take_of_length_le]
theorem QX (σ:St) (l:List Int) (f:Bool) (tk:Option Nat):sW T (.func 372 [] []) [.lit (l.map (.int .i64)) f tk] σ (.lit (l.map (.int .i64)) true tk) σ:=by
 refine .callf (.call (af:=a372) rfl (by simp [a372]) (eQ (K:=fun j e σ1=>(j=none∨j=some .ret)∧Env.get e 2 = .lit (l.map (.int .i64)) true tk∧σ1=σ) ?_ fun o ho=>ho) fun o ho=>?_)
 ·(repeat (first|simp only [↓QA,QB,seval,WL,a372,aCG]|refine rd0 rfl ?_))
  try simp
 ·exact ⟨ho.1,_,rfl,.inl ⟨ho.2.1,ho.2.2⟩⟩
theorem xH (k:Nat) (x:ABlk) (hx:aT k x):∀ (A a b c:St) (i:Nat),EqS k (A++a) (A.set i x++b) (A.set i x++c)=EqS k a b c
 |[],a,b,c,i=>by simp
 |y::A,a,b,c,0=>by
  simp only [List.set_cons_zero,List.cons_append,EqS,bI,hx,or_true,true_and,and_self]
 |y::A,a,b,c,i+1=>by
  have:=xH k x hx A a b c i
  simp only [List.set_cons_succ,List.cons_append,EqS,this,true_or,true_and,and_self]
theorem RoomAt.eqS {S:dH→St} {r:Rm} {ps:Nat→Span} {p m N:Nat} (h:RoomAt S r ps p m N) (k:Nat) (M M':dH) (a b c:St):EqS k (S M++a) (S M'++b) (S M'++c)=EqS k a b c:=by
 rw [←h.mset M M']
 exact xH k _ (RoomAt.memo_ok r M' k) _ _ _ _ _
def W4.inc (w:W4) (n:Nat):W4:=match n with|0=>{ w with a:=w.a+1 }|1=>{ w with b:=w.b+1 }|2=>{ w with c:=w.c+1 }|3=>{ w with d:=w.d+1 }|_=>w
structure Pl where
 l:List Int
 w:W4
 c:Int
def Pl.add (q:Pl) (b:Int) (n:Nat):Pl:=⟨q.l++[(n:Int)],q.w.inc n,if 0≤b∧(n:Int)≠b then q.c+1 else q.c⟩
def oN (f:Nat→dH→Option Pl×dH):Nat→Nat→dH→Option Pl×dH
 |0,_,M=>(none,M)
 |j+1,n,M=>match f n M with
  |(some x,M')=>(some x,M')
  |(none,M')=>oN f j (n+1) M'
def i3 (r:Rm) (now:Span) (want ch:Int):Nat→Pl→Int→dH→Option Pl×dH
 |0,q,_,M=>if q.c≠ch then (none,M) else if hY r now q.w want=true then (some q,eN M q.w) else (none,eN M q.w)
 |k+1,q,b,M=>oN (fun n M=>if 0≤b∧(n:Int)≠b∧q.c=ch then (none,M) else i3 r now want ch k (q.add b n) n M) r.settings.length 0 M
def CL (r:Rm) (s:Span) (b c:Int) (l:List Int):Prop:=aW b l≤r.opens∧kA r s l c=true
theorem tQ (r:Rm) (s:Span) (b c:Int):∀ (ls:List (List Int)) (i:Nat) (o:Option (Nat×Int)),
  (uF r s b c ls i o=o∧∀ l∈ls,CL r s b c l→∃ x,o=some x∧x.2≤aW b l) ∨
  ∃ j l,ls[j]? = some l∧uF r s b c ls i o=some (i+j,aW b l)∧CL r s b c l∧(∀ x,o=some x→aW b l<x.2) ∧
   (∀ l'∈ls,CL r s b c l'→aW b l≤aW b l')∧(∀ (j':Nat) l',j'<j→ls[j']? = some l'→CL r s b c l'→aW b l<aW b l')
 |[],i,o=>.inl ⟨rfl,by simp⟩
 |l::ls,i,o=>by
  simp only [uF]
  by_cases hc:aW b l≤r.opens∧YD o (aW b l)=true∧kA r s l c=true
  ·rw [if_pos hc]
   have hok:CL r s b c l:=⟨hc.1,hc.2.2⟩
   have hb:∀ x,o=some x→aW b l<x.2:=by
    intro x hx;have:=hc.2.1;rw [hx] at this;simpa [YD] using this
   rcases tQ r s b c ls (i+1) (some (i,aW b l)) with ⟨h1,h2⟩|⟨j,l1,h1,h2,h3,h4,h5,h6⟩
   ·refine .inr ⟨0,l,rfl,by rw [h1];rfl,hok,hb,fun l' hl' ho=>?_,fun j' l' hj=>by omega⟩
    rcases List.mem_cons.1 hl' with rfl|hl'
    ·exact Int.le_refl _
    ·obtain ⟨x,hx,hle⟩:=h2 l' hl' ho
     simp only [Option.some.injEq] at hx;subst hx;exact hle
   ·have hlt:=h4 _ rfl
    simp only at hlt
    refine .inr ⟨j+1,l1,by simpa using h1,by rw [h2];congr 2;omega,h3,fun x hx=>by have:=hb x hx;omega,fun l' hl' ho=>?_,fun j' l' hj he ho=>?_⟩
    ·rcases List.mem_cons.1 hl' with rfl|hl'
     ·omega
     ·exact h5 l' hl' ho
    ·cases j' with
     |zero=>simp only [List.getElem?_cons_zero,Option.some.injEq] at he;subst he;exact hlt
     |succ j'=>exact h6 j' l' (by omega) (by simpa using he) ho
  ·rw [if_neg hc]
   have hno:CL r s b c l→∃ x,o=some x∧x.2≤aW b l:=by
    intro ho
    cases o with
    |none=>exact absurd ⟨ho.1,rfl,ho.2⟩ hc
    |some x =>
     refine ⟨x,rfl,?_⟩
     by_cases hlt:aW b l<x.2
     ·exact absurd ⟨ho.1,by simpa [YD] using hlt,ho.2⟩ hc
     ·omega
   rcases tQ r s b c ls (i+1) o with ⟨h1,h2⟩|⟨j,l1,h1,h2,h3,h4,h5,h6⟩
   ·refine .inl ⟨h1,fun l' hl' ho=>?_⟩
    rcases List.mem_cons.1 hl' with rfl|hl'
    ·exact hno ho
    ·exact h2 l' hl' ho
   ·have hlt:CL r s b c l→aW b l1<aW b l:=fun ho=>by
     obtain ⟨x,hx,hle⟩:=hno ho;have:=h4 x hx;omega
    refine .inr ⟨j+1,l1,by simpa using h1,by rw [h2];congr 2;omega,h3,h4,fun l' hl' ho=>?_,fun j' l' hj he ho=>?_⟩
    ·rcases List.mem_cons.1 hl' with rfl|hl'
     ·exact Int.le_of_lt (hlt ho)
     ·exact h5 l' hl' ho
    ·cases j' with
     |zero=>simp only [List.getElem?_cons_zero,Option.some.injEq] at he;subst he;exact hlt ho
     |succ j'=>exact h6 j' l' (by omega) (by simpa using he) ho
theorem v9 (r:Rm) (s:Span) (b:Int) (many:Nat) (c:Int) :
  (g0 r s b many c=none∧∀ l∈dQ r.settings.length many,¬CL r s b c l) ∨
  ∃ j l,(dQ r.settings.length many)[j]? = some l∧g0 r s b many c=some (l,aW b l)∧CL r s b c l ∧
   (∀ l'∈dQ r.settings.length many,CL r s b c l'→aW b l≤aW b l')∧(∀ (j':Nat) l',j'<j→(dQ r.settings.length many)[j']? = some l'→CL r s b c l'→aW b l<aW b l'):=by
 rcases tQ r s b c (dQ r.settings.length many) 0 none with ⟨h1,h2⟩|⟨j,l,h1,h2,h3,_,h5,h6⟩
 ·refine .inl ⟨by simp [g0,h1],fun l hl ho=>?_⟩
  obtain ⟨x,hx,_⟩:=h2 l hl ho
  cases hx
 ·refine .inr ⟨j,l,h1,?_,h3,h5,h6⟩
  simp [g0,h2,h1]
theorem FK {α β γ:Type} (f:α→List β) (g:β→List γ):∀ l:List α,(l.flatMap f).flatMap g=l.flatMap fun a=>(f a).flatMap g
 |[]=>rfl
 |a::l=>by simp [FK f g l]
theorem KD {α β γ:Type} (f:α→β) (g:β→List γ):∀ l:List α,(l.map f).flatMap g=l.flatMap fun a=>g (f a)
 |[]=>rfl
 |a::l=>by simp [KD f g l]
theorem HV {α β γ:Type} (f:α→List β) (g:β→γ):∀ l:List α,(l.flatMap f).map g=l.flatMap fun a=>(f a).map g
 |[]=>rfl
 |a::l=>by simp [HV f g l]
theorem vL (m:Nat):∀ k,dQ m (k+1)=(aP 0 m).flatMap fun n=>(dQ m k).map (n::·)
 |0=>by
  simp only [dQ,List.flatMap_cons,List.flatMap_nil,List.append_nil,List.nil_append,List.map_cons,List.map_nil]
  generalize aP 0 m=l
  induction l with
  |nil=>rfl
  |cons x l ih=>simp [ih]
 |k+1=>by
  have ih:=vL m k
  have e:dQ m (k+1+1)=(dQ m (k+1)).flatMap fun c=>(aP 0 m).map fun n=>c++[n]:=rfl
  rw [e,ih,FK]
  congr 1
  funext n
  rw [KD]
  have e2:dQ m (k+1)=(dQ m k).flatMap fun c=>(aP 0 m).map fun n=>c++[n]:=rfl
  rw [←ih,e2,HV]
  congr 1
  funext c
  simp
theorem EL {α β:Type} (f:α→List β) (p:β→Bool):∀ l:List α,(l.flatMap f).find? p=l.findSome? fun a=>(f a).find? p
 |[]=>rfl
 |a::l=>by
  rw [List.flatMap_cons,List.find?_append,EL f p l,List.findSome?_cons]
  cases (f a).find? p<;>rfl
theorem pX {α β γ:Type} (f:α→Option β) (g:β→γ):∀ l:List α,(l.findSome? fun a=>(f a).map g)=(l.findSome? f).map g
 |[]=>rfl
 |a::l=>by
  rw [List.findSome?_cons,List.findSome?_cons,pX f g l]
  cases f a<;>rfl
theorem C8 {α:Type} {p q:α→Bool}:∀ {l:List α},(∀ a∈l,p a=q a)→l.find? p=l.find? q
 |[],_=>rfl
 |a::l,h=>by
  rw [List.find?_cons,List.find?_cons,h a (by simp),C8 fun b hb=>h b (List.mem_cons_of_mem _ hb)]
theorem JP {α β:Type} (f:α→β) (p:β→Bool):∀ l:List α,(l.map f).find? p=(l.find? fun a=>p (f a)).map f
 |[]=>rfl
 |a::l=>by
  rw [List.map_cons,List.find?_cons,List.find?_cons,JP f p l]
  cases p (f a)<;>rfl
theorem yK {β:Type} {f:Nat→dH→Option Pl×dH} {g:Int→Option Pl} (h:∀ (n:Nat) M,(f n M).1=g n):∀ (j n:Nat) M,(oN f j n M).1=(aP n j).findSome? g
 |0,n,M=>rfl
 |j+1,n,M=>by
  have h1:=h n M
  rw [oN,aP,List.findSome?_cons]
  cases hf:f n M with
  |mk x M' =>
   rw [hf] at h1
   simp only at h1
   rw [←h1]
   cases x with
   |none=>simp only;exact yK (β:=β) h j (n+1) M'
   |some x=>rfl
def W4.incs (w:W4):List Int→W4
 |[]=>w
 |n::c=>(w.inc n.toNat).incs c
def Pl.adds (q:Pl) (b:Int) (c:List Int):Pl:=⟨q.l++c,q.w.incs c,q.c+aW b c⟩
theorem I2 (q:Pl) (b:Int) (n:Nat) (c:List Int):(q.add b n).adds n c=q.adds b ((n:Int)::c):=by
 simp only [Pl.add,Pl.adds,W4.incs,Int.toNat_natCast,aW,Pl.mk.injEq,List.append_assoc,List.cons_append,List.nil_append,true_and]
 split<;>omega
theorem HU (r:Rm) (now:Span) (want ch:Int):∀ (k:Nat) (q:Pl) (b:Int) (M:dH),
  (i3 r now want ch k q b M).1=((dQ r.settings.length k).find? fun c=>decide (q.c+aW b c=ch)&&hY r now (q.w.incs c) want).map (q.adds b)
 |0,q,b,M=>by
  simp only [i3,dQ,List.find?_cons,List.find?_nil,aW,W4.incs,Int.add_zero]
  by_cases hc:q.c=ch
  ·cases hg:hY r now q.w want
   ·simp [hc]
   ·simp [hc,Pl.adds,W4.incs,aW]
    cases q;simp at hc;subst hc;rfl
  ·simp [hc]
 |k+1,q,b,M=>by
  rw [i3,vL,EL]
  rw [yK (β:=Unit) (g:=fun n=>((((dQ r.settings.length k).map (n::·)).find? fun c=>decide (q.c+aW b c=ch)&&hY r now (q.w.incs c) want).map (q.adds b)))]
  ·rw [pX];rfl
  ·intro n M
   rw [JP]
   by_cases hp:0≤b∧(n:Int)≠b∧q.c=ch
   ·rw [if_pos hp]
    have:(dQ r.settings.length k).find? (fun c=>decide (q.c+aW b ((n:Int)::c)=ch)&&hY r now (q.w.incs ((n:Int)::c)) want)=none:=by
     rw [List.find?_eq_none]
     intro c _
     have:=(sL c n).1
     have he:¬q.c+aW b ((n:Int)::c)=ch:=by
      simp only [aW,hp.1,hp.2.1,ne_eq,not_false_eq_true,and_self,if_true]
      omega
     simp [he]
    rw [this];rfl
   ·rw [if_neg hp,HU r now want ch k (q.add b n) n M]
    have e:(fun c=>decide ((q.add b n).c+aW n c=ch)&&hY r now ((q.add b n).w.incs c) want)=fun c=>decide (q.c+aW b ((n:Int)::c)=ch)&&hY r now (q.w.incs ((n:Int)::c)) want:=by
     funext c
     have:=I2 q b n c
     simp only [Pl.adds,Pl.mk.injEq] at this
     rw [this.2.1,this.2.2]
    rw [e]
    cases (dQ r.settings.length k).find? (fun c=>decide (q.c+aW b ((n:Int)::c)=ch)&&hY r now (q.w.incs ((n:Int)::c)) want) with
    |none=>rfl
    |some c=>simp [I2]
theorem aDI (w:W4) (n i:Nat) (hn:n<4):(w.inc n).at i=if i=n then w.at i+1 else w.at i:=by
 match n,hn with
 |0,_=>match i with|0|1|2|3=>simp [W4.inc,W4.at]|i+4=>simp [W4.inc,W4.at]
 |1,_=>match i with|0|1|2|3=>simp [W4.inc,W4.at]|i+4=>simp [W4.inc,W4.at]
 |2,_=>match i with|0|1|2|3=>simp [W4.inc,W4.at]|i+4=>simp [W4.inc,W4.at]
 |3,_=>match i with|0|1|2|3=>simp [W4.inc,W4.at]|i+4=>simp [W4.inc,W4.at]
theorem B2 (r:Rm) (w:W4) (n:Nat) (hn:n<4):∀ k,k≤r.settings.length→jM r (w.inc n) k=if n<k then plus (jM r w k) (gainN r n) else jM r w k
 |0,_=>by simp [jM]
 |k+1,hk=>by
  have ih:=B2 r w n hn k (by omega)
  rw [mX (w:=w.inc n) hk,mX (w:=w) hk,ih,aDI w n k hn]
  by_cases h1:n<k
  ·rw [if_pos h1,if_pos (show n<k+1 by omega),if_neg (show ¬k=n by omega)]
   simp only [plus,Span.mk.injEq];omega
  ·by_cases h2:n=k
   ·subst h2
    rw [if_neg (show ¬n<n by omega),if_pos (show n<n+1 by omega),if_pos rfl]
    have hg:gainN r n=r.settings[n].gain:=gainN_eq (show (n:Int).toNat<_ from hk)
    rw [hg]
    have e1:=Int.add_mul (w.at n) 1 r.settings[n].gain.lo
    have e2:=Int.add_mul (w.at n) 1 r.settings[n].gain.hi
    simp only [plus,Span.mk.injEq];omega
   ·rw [if_neg h1,if_neg (show ¬n<k+1 by omega),if_neg (show ¬k=n by omega)]
theorem LR {r:Rm} (h4:r.settings.length≤4) (w:W4) {n:Nat} (hn:n<r.settings.length):gF r (w.inc n)=plus (gF r w) (gainN r n):=by
 rw [gF,B2 r w n (by omega) _ (Nat.le_refl _),if_pos hn];rfl
theorem zZ {r:Rm} (h4:r.settings.length≤4):∀ (c:List Int) (w:W4),(∀ n∈c,0≤n∧n<r.settings.length)→gF r (w.incs c)=plus (gF r w) (sumS r c)
 |[],w,_=>by simp [W4.incs,sumS,plus]
 |n::c,w,h=>by
  have hn:=h n (by simp)
  rw [W4.incs,zZ h4 c _ fun m hm=>h m (List.mem_cons_of_mem _ hm),LR h4 w (by omega),sumS,CD,show ((n.toNat:Nat):Int)=n by omega]
def W4.zero:W4:=⟨0,0,0,0⟩
theorem AI (r:Rm):∀ k,k≤r.settings.length→jM r W4.zero k=⟨0,0⟩
 |0,_=>rfl
 |k+1,h=>by
  rw [mX h,AI r k (by omega)]
  have:W4.zero.at k=0:=by match k with|0|1|2|3=>rfl|k+4=>rfl
  simp [plus,this]
theorem RH {r:Rm} (h4:r.settings.length≤4) (now:Span) (want:Int) (c:List Int) (h:∀ n∈c,0≤n∧n<r.settings.length):hY r now (W4.zero.incs c) want=kA r now c want:=by
 have e:gF r W4.zero=⟨0,0⟩:=AI r _ (Nat.le_refl _)
 rw [hY,zZ h4 c _ h,e]
 simp [kA,colours,plus]
theorem qJ {α:Type} {g:Int→Option α}:∀ {K:Nat} {a:Int} {n:Nat} {x:α},n<K→g (a+n)=some x→(∀ i:Nat,i<n→g (a+i)=none)→(aP a K).findSome? g=some x
 |0,a,n,x,hn,_,_=>by omega
 |K+1,a,0,x,hn,hx,_=>by
  rw [aP,List.findSome?_cons]
  have:g a=some x:=by simpa using hx
  rw [this]
 |K+1,a,n+1,x,hn,hx,hlt=>by
  rw [aP,List.findSome?_cons]
  have h0:=hlt 0 (by omega)
  have:g a=none:=by simpa using h0
  rw [this]
  refine qJ (n:=n) (by omega) ?_ fun i hi=>?_
  ·rw [show a+1+(n:Int)=a+((n+1:Nat):Int) by omega];exact hx
  ·rw [show a+1+(i:Int)=a+((i+1:Nat):Int) by omega];exact hlt (i+1) (by omega)
theorem N7 {α:Type} {p:α→Bool}:∀ {l:List α} {j:Nat} {x:α},l[j]? = some x→p x=true→(∀ (j':Nat) y,j'<j→l[j']? = some y→p y=false)→l.find? p=some x
 |[],j,x,h,_,_=>by simp at h
 |a::l,0,x,h,hp,_=>by
  simp at h;subst h
  rw [List.find?_cons,hp]
 |a::l,j+1,x,h,hp,hlt=>by
  rw [List.find?_cons,hlt 0 a (by omega) rfl]
  exact N7 (by simpa using h) hp fun j' y hj hy=>hlt (j'+1) y (by omega) (by simpa using hy)
def Pl.zero:Pl:=⟨[],W4.zero,0⟩
def y0 (r:Rm) (now:Span) (b:Int) (many:Nat) (want:Int) (M:dH):Option Pl×dH:=oN (fun ch M=>i3 r now want ch many Pl.zero b M) (min r.opens many+1).toNat 0 M
theorem ON {r:Rm} (hv:Vd r) (now:Span) (b:Int) (many:Nat) (want:Int) (M:dH):(y0 r now b many want M).1=(g0 r now b many want).map fun x=>Pl.zero.adds b x.1:=by
 have h4:=hv.nset.2
 have hsp:=rS r.settings.length many
 have hlaw:=yK (β:=Unit) (f:=fun ch M=>i3 r now want ch many Pl.zero b M) (g:=fun ch=>((dQ r.settings.length many).find? fun c=>decide (aW b c=ch)&&kA r now c want).map (Pl.zero.adds b)) (by
  intro n M
  rw [HU]
  congr 1
  refine C8 fun c hc=>?_
  have e1:Pl.zero.w=W4.zero:=rfl
  have e2:Pl.zero.c=0:=rfl
  rw [e1,e2,RH h4 now want c (hsp c hc).2,Int.zero_add]) (min r.opens many+1).toNat 0 M
 rw [y0,hlaw,pX]
 have ho:=hv.opens
 rcases v9 r now b many want with ⟨h1,h2⟩|⟨j,l,h1,h2,h3,h4,h5⟩
 ·rw [h1]
  have:(aP ((0:Nat):Int) (min r.opens many+1).toNat).findSome? (fun ch=>(dQ r.settings.length many).find? fun c=>decide (aW b c=ch)&&kA r now c want)=none:=by
   rw [List.findSome?_eq_none_iff]
   intro ch hch
   rw [List.find?_eq_none]
   intro c hc
   simp only [Bool.and_eq_true,decide_eq_true_eq,not_and]
   rintro rfl hg
   rw [cO] at hch
   exact h2 c hc ⟨by omega,hg⟩
  rw [this];rfl
 ·rw [h2]
  have hmem:=List.mem_of_getElem? h1
  have hbd:=sL l b
  have hlen:=(hsp l hmem).1
  have hopn:=h3.1
  have:(aP ((0:Nat):Int) (min r.opens many+1).toNat).findSome? (fun ch=>(dQ r.settings.length many).find? fun c=>decide (aW b c=ch)&&kA r now c want)=some l:=by
   refine qJ (n:=(aW b l).toNat) (by omega) ?_ fun i hi=>?_
   ·refine N7 h1 ?_ fun j' y hj hy=>?_
    ·simp only [Bool.and_eq_true,decide_eq_true_eq];exact ⟨by omega,h3.2⟩
    ·rw [Bool.eq_false_iff]
     simp only [ne_eq,Bool.and_eq_true,decide_eq_true_eq,not_and]
     intro he hg
     have:=h5 j' y hj hy ⟨by omega,hg⟩
     omega
   ·rw [List.find?_eq_none]
    intro c hc
    simp only [Bool.and_eq_true,decide_eq_true_eq,not_and]
    intro he hg
    have:=h4 c hc ⟨by omega,hg⟩
    omega
  rw [this];rfl
theorem kE:∀ {a b c:List Int},less a b=true→less b c=true→less a c=true
 |a,b,[],h1,h2=>by cases b<;>simp [less] at h2
 |a,[],c::cs,h1,h2=>by cases a<;>simp [less] at h1
 |[],b::bs,c::cs,h1,h2=>by simp [less]
 |a::az,b::bs,c::cs,h1,h2=>by
  simp only [less] at *
  by_cases hab:a=b
  ·subst hab
   by_cases hac:a=c
   ·subst hac
    simp only [if_true] at *
    exact kE h1 h2
   ·simp only [hac,if_false,if_true] at *
    exact h2
  ·by_cases hbc:b=c
   ·subst hbc
    simp only [hab,if_false,if_true,decide_eq_true_eq] at *
    exact h1
   ·simp only [hab,hbc,if_false,decide_eq_true_eq] at *
    rw [if_neg (by omega)]
    simp;omega
theorem jS (a:List Int):bD a a=false:=by simp [bD,kY]
theorem jO {a b c:List Int} (h1:bD a b=true) (h2:bD b c=true):bD a c=true:=by
 simp only [bD] at *
 by_cases e1:a.length=b.length<;>by_cases e2:b.length=c.length
 ·simp only [e1,e2,if_true] at *;exact kE h1 h2
 ·simp only [e1,e2,if_true,if_false,decide_eq_true_eq] at *;exact h2
 ·rw [if_neg e1] at h1;rw [if_neg (by omega)];simp at h1 ⊢;omega
 ·simp only [e1,e2,if_false,decide_eq_true_eq] at *
  rw [if_neg (by omega)];simp;omega
theorem n4 {a b:List Int} (h1:bD a b=false) (h2:bD b a=false):a=b:=by
 simp only [bD] at *
 by_cases e1:a.length=b.length
 ·simp only [e1,if_true] at *
  exact xR a b h1 h2
 ·rw [if_neg e1] at h1;rw [if_neg (Ne.symm e1)] at h2
  simp at h1 h2;omega
theorem sF {a b c:List Int} (h1:bD b a=false) (h2:bD c b=false):bD c a=false:=by
 rw [Bool.eq_false_iff]
 intro h
 by_cases hab:bD a b=true
 ·rw [jO h hab] at h2;cases h2
 ·have:=n4 (by simpa using hab) h1
  subst this
  rw [h] at h2;cases h2
def lst (n s:Nat):List Int:=(aP 0 n).filter fun i=>decide (s/2^i.toNat%2=1)
theorem G5:∀ n:Fin 5,∀ s:Fin 16,s.val<2^n.val→lst n s∈bE n (lst n s).length:=by decide +kernel
theorem BI:∀ n m:Fin 5,∀ c∈bE n m,∃ s:Fin 16,s.val<2^n.val∧lst n s=c:=by decide +kernel
theorem lO:∀ n m:Fin 5,(bE n m).Pairwise fun a b=>less a b=true:=by decide +kernel
theorem uC:∀ n:Fin 5,(bE n n).length=1:=by decide +kernel
theorem rG (n s:Nat):(lst n s).length≤n:=by
 have:=List.length_filter_le (fun i:Int=>decide (s/2^i.toNat%2=1)) (aP 0 n)
 rw [kW] at this
 exact this
theorem C1 (r:Rm) (hN:r.looks.length≤4) (hall:∀ c∈bE r.looks.length r.looks.length,bQ r c=true):∀ k m,k+m=r.looks.length→(∀ m',m'<m→∀ c∈bE r.looks.length m',bQ r c=false) →
  eW r k m∈bE r.looks.length (eW r k m).length∧bQ r (eW r k m)=true∧∀ m',m'≤r.looks.length→∀ c∈bE r.looks.length m',bQ r c=true→bD c (eW r k m)=false
 |0,m,hk,hlow=>by
  have h1:=uC ⟨r.looks.length,by omega⟩
  simp only at h1
  obtain ⟨w,hw⟩:=List.length_eq_one_iff.1 h1
  have hww:eW r 0 m=w:=by simp [eW,hw]
  have hmem:w∈bE r.looks.length r.looks.length:=by rw [hw];simp
  have hlen:=(dB _ _ _ hmem).1
  rw [hww,hlen]
  refine ⟨hmem,hall w hmem,fun m' hm' c hc hs=>?_⟩
  by_cases he:m'=r.looks.length
  ·subst he
   rw [hw] at hc
   simp at hc
   subst hc
   exact jS _
  ·rw [hlow m' (by omega) c hc] at hs;cases hs
 |k+1,m,hk,hlow=>by
  simp only [eW]
  cases hf:(bE r.looks.length m).find? (bQ r) with
  |none =>
   simp only
   refine C1 r hN hall k (m+1) (by omega) fun m' hm' c hc=>?_
   by_cases he:m'=m
   ·subst he
    rw [List.find?_eq_none] at hf
    simpa using hf c hc
   ·exact hlow m' (by omega) c hc
  |some l =>
   simp only
   have hmem:=List.mem_of_find?_eq_some hf
   have hs:=List.find?_some hf
   have hlen:=(dB _ _ _ hmem).1
   rw [hlen]
   refine ⟨hmem,hs,fun m' hm' c hc hsc=>?_⟩
   have hcl:=(dB _ _ _ hc).1
   by_cases h1:m'<m
   ·rw [hlow m' h1 c hc] at hsc;cases hsc
   ·by_cases he:m'=m
    ·subst he
     rw [Bool.eq_false_iff]
     intro hlt
     simp only [bD,hcl,hlen,if_true] at hlt
     -- the first one is the fY
     obtain ⟨pre,post,e1,e2⟩:=(List.find?_eq_some_iff_append.1 hf).2
     have hpw:=lO ⟨r.looks.length,by omega⟩ ⟨m',by omega⟩
     simp only at hpw
     rw [e1] at hc hpw
     rcases List.mem_append.1 hc with hc|hc
     ·have:=e2 c hc
      rw [hsc] at this;cases this
     ·rcases List.mem_cons.1 hc with rfl|hc
      ·rw [kY] at hlt;cases hlt
      ·have:=(List.pairwise_append.1 hpw).2.1
       have:=(List.pairwise_cons.1 this).1 c hc
       have h3:=kE hlt this
       rw [kY] at h3;cases h3
    ·simp only [bD];rw [if_neg (by omega)];simp;omega
theorem wK (day:Int) (but:List Int):∀ (l:List Look) (i:Nat),(∀ j,i≤j→j<i+l.length→but.contains (j:Int)=true)→nJ day but l i=⟨0,1000⟩
 |[],_,_=>rfl
 |x::l,i,h=>by
  have h0:=h i (Nat.le_refl _) (by simp)
  simp only [nJ,h0,Bool.not_true,Bool.and_false,Bool.false_eq_true,if_false]
  exact wK day but l (i+1) fun j h1 h2=>h j (by omega) (by simp at h2 ⊢;omega)
theorem w5 {r:Rm} (hv:Vd r) {but:List Int} (h:∀ j,j<r.looks.length→but.contains (j:Int)=true):bQ r but=true:=by
 rw [k9 hv]
 have hdd:=hv.days
 have hdr:=hv.ranLen
 have key:∀ d,d≤r.ran.length→(fwd r but d).isSome=true:=by
  intro d
  induction d with
  |zero =>
   intro _
   have hs:=hv.start
   simp only [fwd,wK 0 but r.looks 0 fun j _ hj=>h j (by omega),ne,gQ]
   rw [if_pos (by omega)];rfl
  |succ d ih =>
   intro hd
   obtain ⟨s,hs⟩:=Option.isSome_iff_exists.1 (ih (by omega))
   have hb:=p9 hv but d (by omega) s hs
   have hg:=nQ hv (show d<r.ran.length by omega)
   simp only [fwd,hs,Option.bind_some,wK _ but r.looks 0 fun j _ hj=>h j (by omega),ne,gQ,plus]
   rw [if_pos (by omega)];rfl
 exact key _ (Nat.le_refl _)
theorem rD:∀ n:Fin 5,∀ c∈bE n n,∀ j:Fin 5,j.val<n.val→c.contains ((j.val:Nat):Int)=true:=by decide +kernel
theorem yL {r:Rm} (hv:Vd r):∀ c∈bE r.looks.length r.looks.length,bQ r c=true:=fun c hc=>by
 have hl:=hv.looksLen
 exact w5 hv fun j hj=>rD ⟨r.looks.length,by omega⟩ c hc ⟨j,by omega⟩ hj
def kG (r:Rm) (o:Option (List Int)) (l:List Int):Option (List Int):=match o with
 |none=>if bQ r l=true then some l else none
 |some b=>if bD b l=true then some b else if bQ r l=true then some l else some b
def rP (r:Rm) (n:Nat):Nat→Nat→Option (List Int)→Option (List Int)
 |0,_,o=>o
 |k+1,s,o=>rP r n k (s+1) (kG r o (lst n s))
theorem AM (r:Rm) (n:Nat):∀ k s o,(∀ w,o=some w→bQ r w=true∧∃ t,t<s∧w=lst n t∧∀ t',t'<s→bQ r (lst n t')=true→bD (lst n t') w=false)→(o=none→∀ t,t<s→bQ r (lst n t)=false) →
  (∀ w,rP r n k s o=some w→bQ r w=true∧∃ t,t<s+k∧w=lst n t∧∀ t',t'<s+k→bQ r (lst n t')=true→bD (lst n t') w=false)∧(rP r n k s o=none→∀ t,t<s+k→bQ r (lst n t)=false)
 |0,s,o,h1,h2=>⟨h1,h2⟩
 |k+1,s,o,h1,h2=>by
  have ih:=AM r n k (s+1) (kG r o (lst n s))
  rw [show s+1+k=s+(k+1) by omega] at ih
  simp only [rP]
  have last:∀ (w:List Int) t',t'<s+1→(∀ t'',t''<s→bQ r (lst n t'')=true→bD (lst n t'') w=false)→(bQ r (lst n s)=true→bD (lst n s) w=false)→bQ r (lst n t')=true→bD (lst n t') w=false:=by
   intro w t' ht h3 h4 hs
   by_cases he:t'=s
   ·subst he;exact h4 hs
   ·exact h3 t' (by omega) hs
  refine ih (fun w hw=>?_) fun hn t ht=>?_
  ·cases o with
   |none =>
    simp only [kG] at hw
    split at hw
    ·rename_i hs
     simp only [Option.some.injEq] at hw
     subst hw
     refine ⟨hs,s,by omega,rfl,fun t' ht hst=>last _ t' ht (fun t'' h4 h5=>by rw [h2 rfl t'' h4] at h5;cases h5) (fun _=>jS _) hst⟩
    ·cases hw
   |some b =>
    obtain ⟨q1,t,q2,q3,q4⟩:=h1 b rfl
    simp only [kG] at hw
    split at hw
    ·rename_i hf
     simp only [Option.some.injEq] at hw
     subst hw
     refine ⟨q1,t,by omega,q3,fun t' ht hst=>last _ t' ht q4 (fun _=>?_) hst⟩
     rw [Bool.eq_false_iff]
     intro h5
     have:=jO hf h5
     rw [jS] at this;cases this
    ·rename_i hf
     split at hw
     ·rename_i hs
      simp only [Option.some.injEq] at hw
      subst hw
      refine ⟨hs,s,by omega,rfl,fun t' ht hst=>last _ t' ht (fun t'' h4 h5=>?_) (fun _=>jS _) hst⟩
      exact sF (by simpa using hf) (q4 t'' h4 h5)
     ·rename_i hs
      simp only [Option.some.injEq] at hw
      subst hw
      exact ⟨q1,t,by omega,q3,fun t' ht hst=>last _ t' ht q4 (fun h5=>absurd h5 hs) hst⟩
  ·cases o with
   |none =>
    simp only [kG] at hn
    split at hn
    ·cases hn
    ·rename_i hs
     by_cases he:t=s
     ·subst he;simpa using hs
     ·exact h2 rfl t (by omega)
   |some b =>
    simp only [kG] at hn
    split at hn
    ·cases hn
    ·split at hn<;>cases hn
theorem TV {r:Rm} (hv:Vd r):rP r r.looks.length (2^r.looks.length) 0 none=some (eW r r.looks.length 0):=by
 have hl:=hv.looksLen
 have hp:2^r.looks.length≤2^4:=Nat.pow_le_pow_right (by omega) hl
 obtain ⟨w1,w2,w3⟩:=C1 r hl (yL hv) r.looks.length 0 (by omega) (fun m' h=>by omega)
 obtain ⟨s1,s2⟩:=AM r r.looks.length (2^r.looks.length) 0 none (fun w h=>by cases h) (fun _ t h=>by omega)
 rw [Nat.zero_add] at s1 s2
 obtain ⟨W,hW⟩:∃ W,eW r r.looks.length 0=W:=⟨_,rfl⟩
 rw [hW] at w1 w2 w3 ⊢
 have hwl:W.length≤4:=by
  by_cases h:W.length≤r.looks.length
  ·omega
  ·exfalso
   have h3:∀ n i c,c∈bE n i→i≤n:=by
    intro n i
    cases i with
    |zero=>intros;omega
    |succ i =>
     intro c hc
     have h1:=(dB n (i+1) c hc).1
     have h2:=(dB n (i+1) c hc).2
     simp only [bE,List.mem_flatMap,EU,List.mem_map,cO] at hc
     obtain ⟨d,hd,x,hx,rfl⟩:=hc
     have key:∀ j (d:List Int),d∈bE n j→(j:Int)≤fY j d:=by
      intro j
      induction j with
      |zero=>intro d _;simp [fY]
      |succ j ih =>
       intro d hd
       simp only [bE,List.mem_flatMap,EU,List.mem_map,cO] at hd
       obtain ⟨d',hd',y,hy,rfl⟩:=hd
       have h5:=ih d' hd'
       have h6:=(dB n j d' hd').1
       simp only [fY,Nat.succ_pos,if_true,Nat.add_sub_cancel]
       rw [List.getElem?_append_right (by omega),h6,Nat.sub_self]
       simp only [List.getElem?_cons_zero,Option.getD_some]
       omega
     have:=key i d hd
     omega
   exact h (h3 _ _ _ w1)
 obtain ⟨t,ht,hlt⟩:=BI ⟨r.looks.length,by omega⟩ ⟨W.length,by omega⟩ W w1
 simp only at ht hlt
 cases hf:rP r r.looks.length (2^r.looks.length) 0 none with
 |none =>
  have:=s2 hf t.val ht
  rw [hlt,w2] at this;cases this
 |some w =>
  obtain ⟨q1,t',q2,q3,q4⟩:=s1 w hf
  have a1:=q4 t.val ht (by rw [hlt];exact w2)
  rw [hlt] at a1
  have hin:=G5 ⟨r.looks.length,by omega⟩ ⟨t',by omega⟩ q2
  simp only at hin
  rw [←q3] at hin
  have hle:w.length≤r.looks.length:=by rw [q3];exact rG _ _
  have a2:=w3 w.length hle w hin q1
  rw [n4 a1 a2]
theorem colour_mono {a b:Int} (h:a≤b):colourOf a≤colourOf b:=by simp only [colourOf];omega
structure Tr (r:Rm):Prop where
 vd:Vd r
 some:bQ r []=true
 chk:(check r).2.2=0
theorem Tr.ask {r:Rm} (h:Tr r) {n lo hi:Int} (h1:lo≤n) (h2:n≤hi):dA r n lo hi=0:=by simp [dA,h.chk,inR,h1,h2]
theorem Tr.known {r:Rm} (h:Tr r):aZ r 0=0:=by simp [aZ,h.some]
theorem Tr.points {r:Rm} (h:Tr r) {d:Nat} (hd:d≤r.ran.length):cQ r d=(gB r d,0):=by
 have e:=h.ask (n:=(d:Int)) (lo:=0) (hi:=r.ran.length) (by omega) (by omega)
 rw [cQ,e,h.known,if_pos rfl,Int.toNat_natCast,BE h.vd]
theorem Tr.colours {r:Rm} (h:Tr r) {d:Nat} (hd:d≤r.ran.length):j2 r d=(colours (gB r d),0):=by
 rw [j2,h.points hd];rfl
theorem Tr.bd {r:Rm} (h:Tr r) (d:Nat):0≤(gB r d).lo∧(gB r d).lo≤(gB r d).hi∧(gB r d).hi<160:=NR h.vd h.some d
theorem Tr.plan {r:Rm} (h:Tr r) {day c:Int} (h1:(r.ran.length:Int)≤day) (h2:day≤r.days) (h3:1≤c) (h4:c≤7):lS r day c=(match g0 r (gB r r.ran.length) (fZ r) (day-r.ran.length).toNat c with|.none=>([],0,9)|.some x=>(x.1,x.2,0)):=by
 have:gA c=true:=by simp [gA,inR,h3,h4]
 rw [lS,nX,h.ask h1 h2,kC,this]
 simp only [if_true,h.known]
 rfl
theorem Tr.fill {r:Rm} (h:(check r).2.2=0) {day c:Int} (h1:0≤day) (h2:day≤r.days) (h3:1≤c) (h4:c≤7):tK r day c=((aP 0 (day+1).toNat).filter (ER r day c),0):=by
 have:gA c=true:=by simp [gA,inR,h3,h4]
 have e:dA r day 0 r.days=0:=by simp [dA,h,inR,h1,h2]
 rw [tK,pN,e,kC,this]
 simp
theorem xC {r:Rm} (h:Tr r) {d:Nat} (hd:d<r.ran.length):(gB r d).lo≤(gB r (d+1)).lo∧(gB r d).hi≤(gB r (d+1)).hi:=by
 have hs:=h.some
 rw [k9 h.vd] at hs
 obtain ⟨b,f,h1,h2,h3,h4⟩:=nA h.vd hs (r.ran.length-(d+1)) (by omega)
 obtain ⟨b0,f0,q1,q2,q3,q4⟩:=nA h.vd hs (r.ran.length-d) (by omega)
 have hg:=nQ h.vd hd
 have e1:gB r (d+1)=b:=by simp [gB,h1]
 have e0:gB r d=b0:=by simp [gB,q1]
 rw [e1,e0]
 rw [show r.ran.length-(r.ran.length-(d+1))=d+1 by omega] at h2
 rw [show r.ran.length-(r.ran.length-d)=d by omega] at q2
 simp only [fwd,q2,Option.bind_some,ne] at h2
 rw [show r.ran.length-d=(r.ran.length-(d+1))+1 by omega] at q1
 simp only [bwd,h1,Option.bind_some] at q1
 rw [show r.ran.length-(r.ran.length-(d+1)+1)=d by omega,q2] at q1
 simp only [Option.bind_some,ne] at q1
 split at h2
 ·split at q1
  ·simp only [Option.some.injEq] at h2 q1
   subst h2 q1
   simp only [gQ,back,plus] at *
   omega
  ·cases q1
 ·cases h2
end Go.Am.Room.Ro
set_option maxRecDepth 4000
namespace Go.Am.Room.Ro
def wV:=And.intro @Nat.mul_one (And.intro @Int.toNat_natCast (And.intro @aC (And.intro @Nat.add_lt_add_iff_left (And.intro @Nat.lt_add_right_iff_pos (And.intro @bI (And.intro @iB (@List.length_append.{0})))))))
def RA:ACode:=.reg [⟨(some 14),.alloc [.lit [] true none,.int .i64 0,.int .i64 0,.int .i64 0,.int .i64 0,.int .i64 0],none⟩,⟨none,.store 6 (.t 14) (.t 32),none⟩]
def lpB (st:LS) (pend:Option AJump) (e:Env):ABlk:=.loop st pend e [32] RA F0
def dU (sl:List AV) (f:Bool) (tk:Option Nat) (w:W4) (c:Int):List AV:=[.lit sl f tk,.int .i64 w.a,.int .i64 w.b,.int .i64 w.c,.int .i64 w.d,.int .i64 c]
def ED (N:Nat):AV:=.func 371 [] [.ptr (N+12) 0,.ptr (N+8) 0,.ptr (N+9) 0,.ptr (N+11) 0,.ptr (N+6) 0,.ptr (N+13) 0]
def fst (now:Span) (want b many ch:Int) (p N:Nat) (res:List AV) (fnd:Bool) (lp:ABlk) (plan:List AV):St :=
 [.cells [.ptr p 0],.cells [.int .i64 now.lo,.int .i64 now.hi],.cells [.int .i64 want],.cells res,.cells [.bool fnd],.cells [.func 236 [] [.ptr (N+1) 0,.ptr N 0,.ptr (N+2) 0]],
  .cells [.ptr p 0],.cells [.int .i64 b],.cells [.int .i64 many],.cells [.int .i64 ch],lp,.cells [.yield (N+10)],.cells plan,.cells [ED N]]
def eO:List AV:=[.lit [] true none,.int .i64 0,.int .i64 0,.int .i64 0,.int .i64 0,.int .i64 0]
theorem QJ {S:dH→St} {r:Rm} {ps:Nat→Span} {p m N:Nat} (hR:RoomAt S r ps p m N) (hv:Vd r) (now:Span) (want b many ch:Int) (h0:0≤now.lo) (h1:now.lo<1000) (h2:0≤now.hi) (h3:now.hi<1000)
  (e:Env) (e10:Env.get e 10 = .ptr (N+3) 0) (e11:Env.get e 11 = .ptr (N+4) 0) (e12:Env.get e 12 = .ptr (N+5) 0)
  (M:dH) (sl:List AV) (f:Bool) (tk:Option Nat) (w:W4) (hw:∀ k,0≤w.at k∧w.at k≤10) (c:Int) (τ:St) :
  Run T (.callv (.yield (N+10)) [.agg (dU sl f tk w c)] (S M++(fst now want b many ch p N eO false (lpB .ready none e) (dU sl f tk w c)++τ))) fun o =>
   if hY r now w want=true then o.v = .bool false∧∃ τ',o.σ=S (eN M w)++(fst now want b many ch p N (dU sl f tk w c) true (lpB .done (some .ret) e) (dU sl f tk w c)++τ')
   else o.v = .bool true∧∃ τ',o.σ=S (eN M w)++(fst now want b many ch p N eO false (lpB .ready none e) (dU sl f tk w c)++(τ++τ')):=by
 have hid:∀ (M:dH) (υ:St),(S M++υ)[N+10]? = υ[10]?:=fun M υ=>by rw [←hR.len M];exact oI _ _ _
 refine .round (R:=fun o=>o.j=none∧Env.get o.env 10 = .ptr (N+3) 0∧Env.get o.env 11 = .ptr (N+4) 0∧Env.get o.env 12 = .ptr (N+5) 0∧Env.get o.env 14 = .ptr (N+(τ.length+14)) 0∧o.σ=S M++(fst now want b many ch p N eO false (lpB .ready none e) (dU sl f tk w c)++(τ++[.cells (dU sl f tk w c)])))
  (S:=fun o=>if hY r now w want=true then o.j=some .ret∧∃ τ',o.σ=S (eN M w)++(fst now want b many ch p N (dU sl f tk w c) true (lpB .busy none e) (dU sl f tk w c)++τ') else o.j=none∧∃ τ',o.σ=S (eN M w)++(fst now want b many ch p N eO false (lpB .busy none e) (dU sl f tk w c)++(τ++τ'))) (env:=e) (ps:=[32]) (a:=RA) (b:=F0) ?_ rfl ?_ ?_ ?_ ?_
 ·rw [hid];rfl
 ·refine eQ (K:=fun j e' σ'=>j=none∧Env.get e' 10 = .ptr (N+3) 0∧Env.get e' 11 = .ptr (N+4) 0∧Env.get e' 12 = .ptr (N+5) 0∧Env.get e' 14 = .ptr (N+(τ.length+14)) 0∧σ'=S M++(fst now want b many ch p N eO false (lpB .ready none e) (dU sl f tk w c)++(τ++[.cells (dU sl f tk w c)]))) ?_ fun o ho=>ho
  (repeat (first|simp only [↓QA,QB,seval,wV,hR.len,hR.base,hR.base0,hR.bset,hR.bset0,hR.at1,hR.at0,hR.map1,hR.map0,RA,pR,fst,dU,eO,e10,e11,e12]|refine rd0 rfl ?_))
 ·intro o ho
  refine ⟨ho.1,?_⟩
  rw [ho.2.2.2.2.2,hid];rfl
 ·rintro o ⟨hj,q10,q11,q12,q14,hσ⟩
  rw [hσ,hR.bset]
  have hset:∀ υ:St,(fst now want b many ch p N eO false (lpB .ready none e) (dU sl f tk w c)++υ).set 10 (.loop .busy none e [32] RA F0)=fst now want b many ch p N eO false (lpB .busy none e) (dU sl f tk w c)++υ:=fun υ=>rfl
  rw [hset]
  have hg:=JH (hR.app (fst now want b many ch p N eO false (lpB .busy none e) (dU sl f tk w c)++(τ++[.cells (dU sl f tk w c)]))) hv now want (N+1) N (N+2) (fun M υ=>by simp [fst,hR.base,DD,JI,FU]) (fun M υ=>by simp [fst,hR.base0,DD,FU]) (fun M υ=>by simp [fst,hR.base,DD,JI,FU]) h0 h1 h2 h3 M sl f tk w hw c
  refine eQ (K:=fun j e' σ'=>if hY r now w want=true then j=some .ret∧∃ τ',σ'=S (eN M w)++(fst now want b many ch p N (dU sl f tk w c) true (lpB .busy none e) (dU sl f tk w c)++τ') else j=none∧∃ τ',σ'=S (eN M w)++(fst now want b many ch p N eO false (lpB .busy none e) (dU sl f tk w c)++(τ++τ'))) ?_ fun o ho=>ho
  simp only [fst,dU,eO] at hg ⊢
  try simp only [↓QA,QB,seval,wV,hR.len,hR.base,hR.base0,hR.bset,hR.bset0,hR.at1,hR.at0,hR.map1,hR.map0] at hg
  (repeat (first|simp only [↓QA,QB,seval,wV,hR.len,hR.base,hR.base0,hR.bset,hR.bset0,hR.at1,hR.at0,hR.map1,hR.map0,F0,q10,q11,q12,q14]|refine rd0 rfl ?_))
  refine gY hg ?_
  cases hG:hY r now w want
  ·(repeat (first|simp only [↓QA,QB,seval,wV,hR.len,hR.base,hR.base0,hR.bset,hR.bset0,hR.at1,hR.at0,hR.map1,hR.map0,q10,q11,q12,q14]|refine rd0 rfl ?_))
   refine ⟨[.cells [.lit sl f tk,.int .i64 w.a,.int .i64 w.b,.int .i64 w.c,.int .i64 w.d,.int .i64 c]],?_⟩
   try simp
  ·(repeat (first|simp only [↓QA,QB,seval,wV,hR.len,hR.base,hR.base0,hR.bset,hR.bset0,hR.at1,hR.at0,hR.map1,hR.map0,q10,q11,q12,q14]|refine rd0 rfl ?_))
   exact ⟨_,rfl⟩
 ·intro o ho
  cases hG:hY r now w want
  ·rw [hG] at ho
   simp only [Bool.false_eq_true,if_false] at ho ⊢
   obtain ⟨hj,τ',hσ⟩:=ho
   rw [hσ,hid,hR.bset,hj]
   exact ⟨rfl,rfl,τ',rfl⟩
  ·rw [hG] at ho
   simp only [if_true] at ho ⊢
   obtain ⟨hj,τ',hσ⟩:=ho
   rw [hσ,hid,hR.bset,hj]
   exact ⟨rfl,rfl,τ',rfl⟩
end Go.Am.Room.Ro
set_option maxRecDepth 4000
namespace Go.Am.Room.Ro
def eZ:=And.intro @Nat.mul_one (And.intro @Int.toNat_natCast (And.intro @aC (And.intro @Nat.add_lt_add_iff_left (And.intro @Nat.lt_add_right_iff_pos (And.intro @bI (And.intro @iB (@List.length_append.{0})))))))
def eR (q:Pl) (f:Bool) (tk:Option Nat):List AV:=dU (q.l.map (.int .i64)) f tk q.w q.c
theorem S6 (sl:List AV) (f:Bool) (tk:Option Nat) (w:W4) (c:Int):∀ n,n<4→(dU sl f tk w c)[1+n]? = some (.int .i64 (w.at n))
 |0,_=>rfl
 |1,_=>rfl
 |2,_=>rfl
 |3,_=>rfl
theorem TG (sl:List AV) (f:Bool) (tk:Option Nat) (w:W4) (c:Int):∀ n,n<4→(dU sl f tk w c).take (1+n)++[.int .i64 (w.at n+1)]++[AV.int .i64 w.a,.int .i64 w.b,.int .i64 w.c,.int .i64 w.d,.int .i64 c].drop (1+n)=dU sl f tk (w.inc n) c
 |0,_=>rfl
 |1,_=>rfl
 |2,_=>rfl
 |3,_=>rfl
theorem aBC (w:W4) (n i:Nat):w.at i≤(w.inc n).at i∧(w.inc n).at i≤w.at i+1:=by
 match n with
 |0=>match i with|0|1|2|3=>(simp [W4.inc,W4.at]<;>omega)|i+4=>simp [W4.inc,W4.at]
 |1=>match i with|0|1|2|3=>(simp [W4.inc,W4.at]<;>omega)|i+4=>simp [W4.inc,W4.at]
 |2=>match i with|0|1|2|3=>(simp [W4.inc,W4.at]<;>omega)|i+4=>simp [W4.inc,W4.at]
 |3=>match i with|0|1|2|3=>(simp [W4.inc,W4.at]<;>omega)|i+4=>simp [W4.inc,W4.at]
 |n+4=>match i with|0|1|2|3=>(simp [W4.inc,W4.at]<;>omega)|i+4=>simp [W4.inc,W4.at]
theorem DY {S:dH→St} {r:Rm} {ps:Nat→Span} {p m N:Nat} (hR:RoomAt S r ps p m N) (now:Span) (want b ch:Int) (many:Int) (e:Env) (M:dH) (q:Pl) (f:Bool) (tk:Option Nat) (τ:St) {M':dH} {τ':St} {σ':St} {Q:Out→Prop}
  (hσ:σ'=S M'++(fst now want b many ch p N eO false (lpB .ready none e) (eR q f tk)++(τ++τ'))) (hQ:Q ⟨none,[],S M'++(fst now want b many ch p N eO false (lpB .ready none e) (eR q f tk)++τ),.bool true⟩) :
  NV (S M++(fst now want b many ch p N eO false (lpB .ready none e) (eR q f tk)++τ)) σ' (.bool true) Q:=by
 obtain ⟨X,hX⟩:∃ X,fst now want b many ch p N eO false (lpB .ready none e) (eR q f tk)++τ=X:=⟨_,rfl⟩
 have hσ2:σ'=(fun M=>S M++X) M'++τ':=by rw [hσ,←hX];simp
 rw [hX] at hQ ⊢
 have hA:=hR.app X
 refine .inr ⟨20,.bool true,.bool true,by simp [snap],.inl rfl,hA.kept hσ2,?_,?_⟩
 ·rw [hσ2]
  simp only [List.length_append,hR.len]
  omega
 ·have e1:σ'.take (S M++X).length=S M'++X:=by
   have q1:(S M++X).length=(S M'++X).length:=by simp only [List.length_append,hR.len]
   rw [hσ2,q1]
   exact List.take_left
  rw [e1]
  exact hQ
theorem N6 {S:dH→St} {r:Rm} {ps:Nat→Span} {p m N:Nat} (hR:RoomAt S r ps p m N) (hv:Vd r) (now:Span) (want b ch:Int) (many:Nat) (h0:0≤now.lo) (h1:now.lo<1000) (h2:0≤now.hi) (h3:now.hi<1000)
  (e:Env) (e10:Env.get e 10 = .ptr (N+3) 0) (e11:Env.get e 11 = .ptr (N+4) 0) (e12:Env.get e 12 = .ptr (N+5) 0) (hmany:many≤8) :
  ∀ (k:Nat) (q:Pl) (b0:Int) (M:dH) (f:Bool) (tk:Option Nat) (τ:St),q.l.length+k=many→(∀ i,0≤q.w.at i∧q.w.at i≤q.l.length)→(0≤q.c∧q.c≤q.l.length)→(∀ t,tk=some t→N≤t) →
  Run T (.callv (ED N) [.int .i64 b0] (S M++(fst now want b many ch p N eO false (lpB .ready none e) (eR q f tk)++τ))) fun o =>
   match i3 r now want ch k q b0 M with
   |(some x,M')=>o.v = .bool false∧∃ f' tk' plan τ',(∀ t,tk'=some t→N≤t)∧o.σ=S M'++(fst now want b many ch p N (eR x f' tk') true (lpB .done (some .ret) e) plan++τ')
   |(none,M')=>o.v = .bool true∧o.σ=S M'++(fst now want b many ch p N eO false (lpB .ready none e) (eR q f tk)++τ)
 |0,q,b0,M,f,tk,τ,hl,hw,hc,htk=>by
  have hl':(q.l.length:Int)=many:=by omega
  have hy:=QJ hR hv now want b many ch h0 h1 h2 h3 e e10 e11 e12 M (q.l.map (.int .i64)) f tk q.w (fun i=>⟨(hw i).1,by have:=(hw i).2;omega⟩) q.c τ
  refine .callf (.call (af:=a371) rfl (by simp [a371]) (eQ (K:=fun j e' σ1=>(j=none∨j=some .ret) ∧
   (match i3 r now want ch 0 q b0 M with
   |(some x,M')=>Env.get e' 8 = .bool false∧∃ f' tk' plan τ',(∀ t,tk'=some t→N≤t)∧σ1=S M'++(fst now want b many ch p N (eR x f' tk') true (lpB .done (some .ret) e) plan++τ')
   |(none,M')=>Env.get e' 8 = .bool true∧∃ τ',σ1=S M'++(fst now want b many ch p N eO false (lpB .ready none e) (eR q f tk)++(τ++τ')))) ?_ fun o ho=>ho) fun o ho=>?_)
  ·simp only [i3]
   by_cases hcc:q.c=ch
   ·rw [if_neg (by simpa using hcc)]
    have g:(q.c==ch)=true:=by simpa using hcc
    simp only [fst,eR,dU,ED] at hy ⊢
    (repeat (first|simp only [↓QA,QB,Nat.reduceLT,reduceIte,Nat.reduceEqDiff,Nat.reduceAdd,Nat.reduceLeDiff,Nat.reduceMul,Nat.reduceBEq,eZ,hR.len,hR.base,hR.base0,hR.bset,hR.bset0,hR.at1,hR.at0,hR.map1,hR.map0,a371,ED,hl',g]|refine rd0 rfl ?_))
    refine .mono hy fun o ho=>?_
    cases hG:hY r now q.w want
    ·rw [hG] at ho
     simp only [Bool.false_eq_true,if_false] at ho ⊢
     obtain ⟨hov,τ',hσ⟩:=ho
     rw [hov,hσ]
     (repeat (first|simp only [↓QA,QB,Nat.reduceLT,reduceIte,Nat.reduceEqDiff,Nat.reduceAdd,Nat.reduceLeDiff,Nat.reduceMul,Nat.reduceBEq,eZ,hR.len,hR.base,hR.base0,hR.bset,hR.bset0,hR.at1,hR.at0,hR.map1,hR.map0]|refine rd0 rfl ?_))
     exact ⟨τ',rfl⟩
    ·rw [hG] at ho
     simp only [if_true] at ho ⊢
     obtain ⟨hov,τ',hσ⟩:=ho
     rw [hov,hσ]
     (repeat (first|simp only [↓QA,QB,Nat.reduceLT,reduceIte,Nat.reduceEqDiff,Nat.reduceAdd,Nat.reduceLeDiff,Nat.reduceMul,Nat.reduceBEq,eZ,hR.len,hR.base,hR.base0,hR.bset,hR.bset0,hR.at1,hR.at0,hR.map1,hR.map0]|refine rd0 rfl ?_))
     exact ⟨f,tk,_,τ',htk,rfl⟩
   ·rw [if_pos hcc]
    have g:(q.c==ch)=false:=by simpa using hcc
    (repeat (first|simp only [↓QA,QB,Nat.reduceLT,reduceIte,Nat.reduceEqDiff,Nat.reduceAdd,Nat.reduceLeDiff,Nat.reduceMul,Nat.reduceBEq,eZ,hR.len,hR.base,hR.base0,hR.bset,hR.bset0,hR.at1,hR.at0,hR.map1,hR.map0,a371,ED,fst,eR,dU,hl',g]|refine rd0 rfl ?_))
    exact ⟨[],by simp⟩
  ·obtain ⟨hj,ho⟩:=ho
   refine ⟨hj,?_⟩
   cases hn:i3 r now want ch 0 q b0 M with
   |mk x M' =>
    rw [hn] at ho
    cases x with
    |none=>exact ⟨.bool true,by simp only [a371,f9,k8];rw [ho.1];rfl,by obtain ⟨_,τ',hσ⟩:=ho;exact DY hR now want b ch many e M q f tk τ hσ ⟨rfl,rfl⟩⟩
    |some x=>exact ⟨.bool false,by simp only [a371,f9,k8];rw [ho.1];rfl,.inl ⟨rfl,ho.2⟩⟩
 |k+1,q,b0,M,f,tk,τ,hl,hw,hc,htk=>by
  have ih:=N6 hR hv now want b ch many h0 h1 h2 h3 e e10 e11 e12 hmany k
  have hne:((q.l.length:Int)==(many:Int))=false:=by rw [beq_eq_false_iff_ne];omega
  obtain ⟨F,hF⟩:∃ F:Nat→dH→Option Pl×dH,F=fun (n:Nat) M=>if 0≤b0∧(n:Int)≠b0∧q.c=ch then (none,M) else i3 r now want ch k (q.add b0 n) n M:=⟨_,rfl⟩
  have hspec:i3 r now want ch (k+1) q b0 M=oN F r.settings.length 0 M:=by rw [hF];rfl
  refine .callf (.call (af:=a371) rfl (by simp [a371]) (eQ (K:=fun j e' σ1=>(j=none∨j=some .ret) ∧
   (match i3 r now want ch (k+1) q b0 M with
   |(some x,M')=>Env.get e' 8 = .bool false∧∃ f' tk' plan τ',(∀ t,tk'=some t→N≤t)∧σ1=S M'++(fst now want b many ch p N (eR x f' tk') true (lpB .done (some .ret) e) plan++τ')
   |(none,M')=>Env.get e' 8 = .bool true∧∃ τ',σ1=S M'++(fst now want b many ch p N eO false (lpB .ready none e) (eR q f tk)++(τ++τ')))) ?_ fun o ho=>ho) fun o ho=>?_)
  ·rw [hspec]
   obtain ⟨R,hR0⟩:∃ R,oN F r.settings.length 0 M=R:=⟨_,rfl⟩
   rw [hR0]
   simp only [fst,eR,dU,ED]
   (repeat (first|simp only [↓QA,QB,Nat.reduceLT,reduceIte,Nat.reduceEqDiff,Nat.reduceAdd,Nat.reduceLeDiff,Nat.reduceMul,Nat.reduceBEq,eZ,hR.len,hR.base,hR.base0,hR.bset,hR.bset0,hR.at1,hR.at0,hR.map1,hR.map0,a371,ED,hne,aAN]|refine rd0 rfl ?_))
   refine bU (S:=Nat×dH) (0,M) (fun s=>s.1≤r.settings.length∧oN F (r.settings.length-s.1) s.1 s.2=R) (fun s=>r.settings.length-s.1)
    (fun s=>[(0,.int .i64 b0),(1,.ptr (N+12) 0),(3,.ptr (N+9) 0),(6,.ptr (N+13) 0),(30,.int .i64 r.settings.length),(31,.int .i64 s.1)])
    (fun s=>S s.2++(fst now want b many ch p N eO false (lpB .ready none e) (eR q f tk)++τ)) ⟨by simp,hR0⟩ rfl ?_ fun s hs=>?_
   ·try simp only [aF,QE,Nat.reduceLT,reduceIte,Nat.reduceEqDiff,Nat.reduceAdd,Nat.reduceLeDiff,Nat.reduceMul,Nat.reduceBEq,eZ,hR.len,hR.base,hR.base0,hR.bset,hR.bset0,hR.at1,hR.at0,hR.map1,hR.map0]
    try simp
   ·obtain ⟨n,M2⟩:=s
    obtain ⟨hn,hq⟩:=hs
    simp only at hn hq
    simp only [fst,eR,dU,ED]
    (repeat (first|simp only [↓QA,QB,Nat.reduceLT,reduceIte,Nat.reduceEqDiff,Nat.reduceAdd,Nat.reduceLeDiff,Nat.reduceMul,Nat.reduceBEq,eZ,hR.len,hR.base,hR.base0,hR.bset,hR.bset0,hR.at1,hR.at0,hR.map1,hR.map0,SD]|refine rd0 rfl ?_))
    refine aJ (fun h=>?_) fun h=>?_
    ·have hn1:n<r.settings.length:=by simpa using h
     have hns:=hv.nset
     have hn4:n<4:=by omega
     have hw1:=b7 hn1 (by omega)
     have hwn:=hw n
     have hwi:IntKind.i64.wrap (q.w.at n+1)=q.w.at n+1:=aX ⟨by omega,by omega⟩
     have hci:IntKind.i64.wrap (q.c+1)=q.c+1:=aX ⟨by omega,by omega⟩
     have i1:(0:Int)≤(n:Int)∧(n:Int)<((4:Nat):Int):=⟨by omega,by omega⟩
     rw [show r.settings.length-n=(r.settings.length-(n+1))+1 by omega] at hq
     simp only [oN] at hq
     have cg:=fun (c:Int)=>S6 (q.l.map (.int .i64)) f tk q.w c n hn4
     have cs:=fun (c:Int)=>TG (q.l.map (.int .i64)) f tk q.w c n hn4
     simp only [dU] at cg cs
     have hap:∀ (σ:St) (t:Option Nat),cZ 1 8 σ (.lit (q.l.map (.int .i64)) true t) (.lit [.int .i64 n] true none)=some (.lit ((q.l++[(n:Int)]).map (.int .i64)) false (some σ.length),σ++[.tok 1 (q.l.length+1) true]):=fun σ t=>by
      rw [DQ ⟨qB 1 _ q.l (fun x=>FI _ _),by simp [aU,AV.cells,AV.cell],by simp [room];omega,by simp [room];omega⟩ (by simp)]
      simp
     have step:∀ (c':Int) (e':Env),True:=fun _ _=>trivial
     (repeat (first|simp only [↓QA,QB,Nat.reduceLT,reduceIte,Nat.reduceEqDiff,Nat.reduceAdd,Nat.reduceLeDiff,Nat.reduceMul,Nat.reduceBEq,eZ,hR.len,hR.base,hR.base0,hR.bset,hR.bset0,hR.at1,hR.at0,hR.map1,hR.map0]|refine rd0 rfl ?_))
     cases g1:decide (0≤b0)
     case' false =>
      have g1':¬0≤b0:=by simpa using g1
      obtain ⟨c',hc'⟩:∃ c',c'=q.c:=⟨_,rfl⟩
      have hadd:q.add b0 n=⟨q.l++[(n:Int)],q.w.inc n,c'⟩:=by simp [Pl.add,g1',hc']
      have hFn:F n M2=i3 r now want ch k ⟨q.l++[(n:Int)],q.w.inc n,c'⟩ n M2:=by rw [hF,←hadd];simp [g1']
      (repeat (first|simp only [↓QA,QB,Nat.reduceLT,reduceIte,Nat.reduceEqDiff,Nat.reduceAdd,Nat.reduceLeDiff,Nat.reduceMul,Nat.reduceBEq,eZ,hR.len,hR.base,hR.base0,hR.bset,hR.bset0,hR.at1,hR.at0,hR.map1,hR.map0,g1]|refine rd0 rfl ?_))
      rw [←hc']
     case' true =>
      have g1':0≤b0:=by simpa using g1
      (repeat (first|simp only [↓QA,QB,Nat.reduceLT,reduceIte,Nat.reduceEqDiff,Nat.reduceAdd,Nat.reduceLeDiff,Nat.reduceMul,Nat.reduceBEq,eZ,hR.len,hR.base,hR.base0,hR.bset,hR.bset0,hR.at1,hR.at0,hR.map1,hR.map0,g1]|refine rd0 rfl ?_))
      cases g2:((n:Int)==b0)
      case' true =>
       have g2':(n:Int)=b0:=by simpa using g2
       obtain ⟨c',hc'⟩:∃ c',c'=q.c:=⟨_,rfl⟩
       have hadd:q.add b0 n=⟨q.l++[(n:Int)],q.w.inc n,c'⟩:=by simp [Pl.add,g2',hc']
       have hFn:F n M2=i3 r now want ch k ⟨q.l++[(n:Int)],q.w.inc n,c'⟩ n M2:=by rw [hF,←hadd];simp [g2']
       (repeat (first|simp only [↓QA,QB,Nat.reduceLT,reduceIte,Nat.reduceEqDiff,Nat.reduceAdd,Nat.reduceLeDiff,Nat.reduceMul,Nat.reduceBEq,eZ,hR.len,hR.base,hR.base0,hR.bset,hR.bset0,hR.at1,hR.at0,hR.map1,hR.map0,g2]|refine rd0 rfl ?_))
       rw [←hc']
      case' false =>
       have g2':(n:Int)≠b0:=by simpa using g2
       (repeat (first|simp only [↓QA,QB,Nat.reduceLT,reduceIte,Nat.reduceEqDiff,Nat.reduceAdd,Nat.reduceLeDiff,Nat.reduceMul,Nat.reduceBEq,eZ,hR.len,hR.base,hR.base0,hR.bset,hR.bset0,hR.at1,hR.at0,hR.map1,hR.map0,g2]|refine rd0 rfl ?_))
       cases g3:(q.c==ch)
       case' false =>
        have g3':q.c≠ch:=by simpa using g3
        obtain ⟨c',hc'⟩:∃ c',c'=q.c+1:=⟨_,rfl⟩
        have hadd:q.add b0 n=⟨q.l++[(n:Int)],q.w.inc n,c'⟩:=by simp [Pl.add,g1',g2',hc']
        have hFn:F n M2=i3 r now want ch k ⟨q.l++[(n:Int)],q.w.inc n,c'⟩ n M2:=by rw [hF,←hadd];simp [g3']
        (repeat (first|simp only [↓QA,QB,Nat.reduceLT,reduceIte,Nat.reduceEqDiff,Nat.reduceAdd,Nat.reduceLeDiff,Nat.reduceMul,Nat.reduceBEq,eZ,hR.len,hR.base,hR.base0,hR.bset,hR.bset0,hR.at1,hR.at0,hR.map1,hR.map0,g3,hci]|refine rd0 rfl ?_))
        rw [←hc']
       case' true =>
        have g3':q.c=ch:=by simpa using g3
        have hFn:F n M2=(none,M2):=by rw [hF];simp [g1',g2',g3']
        rw [hFn] at hq
        (repeat (first|simp only [↓QA,QB,Nat.reduceLT,reduceIte,Nat.reduceEqDiff,Nat.reduceAdd,Nat.reduceLeDiff,Nat.reduceMul,Nat.reduceBEq,eZ,hR.len,hR.base,hR.base0,hR.bset,hR.bset0,hR.at1,hR.at0,hR.map1,hR.map0,g3]|refine rd0 rfl ?_))
     case true.false.true =>
      refine ⟨(n+1,M2),⟨by simp only;omega,hq⟩,by simp only;omega,?_⟩
      try simp only [aF,QE,Nat.reduceLT,reduceIte,Nat.reduceEqDiff,Nat.reduceAdd,Nat.reduceLeDiff,Nat.reduceMul,Nat.reduceBEq,eZ,hR.len,hR.base,hR.base0,hR.bset,hR.bset0,hR.at1,hR.at0,hR.map1,hR.map0,hw1,N5]
      try simp [aT,okVs,okV]
     all_goals
      have c1:1+n+1≤6:=by omega
      (repeat (first|simp only [↓QA,QB,Nat.reduceLT,reduceIte,Nat.reduceEqDiff,Nat.reduceAdd,Nat.reduceLeDiff,Nat.reduceMul,Nat.reduceBEq,eZ,hR.len,hR.base,hR.base0,hR.bset,hR.bset0,hR.at1,hR.at0,hR.map1,hR.map0,cg,cs,i1,hwi,c1]|refine rd0 rfl ?_))
      refine gY (QX _ q.l f tk) ?_
      (repeat (first|simp only [↓QA,QB,Nat.reduceLT,reduceIte,Nat.reduceEqDiff,Nat.reduceAdd,Nat.reduceLeDiff,Nat.reduceMul,Nat.reduceBEq,eZ,hR.len,hR.base,hR.base0,hR.bset,hR.bset0,hR.at1,hR.at0,hR.map1,hR.map0,hap,cg,cs,i1,hwi]|refine rd0 rfl ?_))
      have hih:=fun t (ht:N≤t)=>ih ⟨q.l++[(n:Int)],q.w.inc n,c'⟩ n M2 false (some t) (τ++[.cells (dU (q.l.map (.int .i64)) f tk q.w q.c),.tok 1 (q.l.length+1) true]) (by simp;omega)
       (fun i=>by have:=aBC q.w n i;have:=hw i;simp only [List.length_append,List.length_cons,List.length_nil];omega) (by simp only [List.length_append,List.length_cons,List.length_nil];omega) (fun u hu=>by cases hu;exact ht)
      rw [←hFn] at hih
      simp only [fst,eR,dU,ED] at hih
      first|refine .mono (hih _ (by omega)) fun o ho=>?_|(rw [←hc'] at hih;refine .mono (hih _ (by omega)) fun o ho=>?_)
      cases hx:F n M2 with
      |mk x M3 =>
       rw [hx] at ho hq
       cases x with
       |none =>
        simp only at ho hq
        rw [ho.1,ho.2]
        (repeat (first|simp only [↓QA,QB,Nat.reduceLT,reduceIte,Nat.reduceEqDiff,Nat.reduceAdd,Nat.reduceLeDiff,Nat.reduceMul,Nat.reduceBEq,eZ,hR.len,hR.base,hR.base0,hR.bset,hR.bset0,hR.at1,hR.at0,hR.map1,hR.map0]|refine rd0 rfl ?_))
        refine ⟨(n+1,M3),⟨by simp only;omega,hq⟩,by simp only;omega,?_⟩
        try simp only [aF,QE,Nat.reduceLT,reduceIte,Nat.reduceEqDiff,Nat.reduceAdd,Nat.reduceLeDiff,Nat.reduceMul,Nat.reduceBEq,eZ,hR.len,hR.base,hR.base0,hR.bset,hR.bset0,hR.at1,hR.at0,hR.map1,hR.map0,hw1,hR.eqS,K7,N5,lpB]
        try simp [aT,okVs,okV]
        try omega
       |some x =>
        simp only at ho hq
        obtain ⟨hov,f',tk',plan,τ',htk',hσ⟩:=ho
        subst hq
        rw [hov,hσ]
        (repeat (first|simp only [↓QA,QB,Nat.reduceLT,reduceIte,Nat.reduceEqDiff,Nat.reduceAdd,Nat.reduceLeDiff,Nat.reduceMul,Nat.reduceBEq,eZ,hR.len,hR.base,hR.base0,hR.bset,hR.bset0,hR.at1,hR.at0,hR.map1,hR.map0]|refine rd0 rfl ?_))
        exact ⟨f',tk',plan,τ',htk',rfl⟩
    ·have hn1:n=r.settings.length:=by simp at h;omega
     rw [hn1,Nat.sub_self] at hq
     simp only [oN] at hq
     subst hq
     (repeat (first|simp only [↓QA,QB,Nat.reduceLT,reduceIte,Nat.reduceEqDiff,Nat.reduceAdd,Nat.reduceLeDiff,Nat.reduceMul,Nat.reduceBEq,eZ,hR.len,hR.base,hR.base0,hR.bset,hR.bset0,hR.at1,hR.at0,hR.map1,hR.map0]|refine rd0 rfl ?_))
     exact ⟨[],by simp⟩
  ·obtain ⟨hj,ho⟩:=ho
   refine ⟨hj,?_⟩
   cases hn:i3 r now want ch (k+1) q b0 M with
   |mk x M' =>
    rw [hn] at ho
    cases x with
    |none=>exact ⟨.bool true,by simp only [a371,f9,k8];rw [ho.1];rfl,by obtain ⟨_,τ',hσ⟩:=ho;exact DY hR now want b ch many e M q f tk τ hσ ⟨rfl,rfl⟩⟩
    |some x=>exact ⟨.bool false,by simp only [a371,f9,k8];rw [ho.1];rfl,.inl ⟨rfl,ho.2⟩⟩
end Go.Am.Room.Ro
set_option maxRecDepth 4000
namespace Go.Am.Room.Ro
def fN:=And.intro @Nat.mul_one (And.intro @Int.toNat_natCast (And.intro @aC (And.intro @Nat.add_lt_add_iff_left (And.intro @Nat.lt_add_right_iff_pos (And.intro @bI (And.intro @iB (And.intro @List.length_append.{0} (@aCJ))))))))
theorem AZ (i:Nat):cA 1 (.yield i)=true:=by simp [cA,AV.cells,AV.cell]
theorem AU (i:Nat):(AV.yield i).cells=[.yield i]:=by simp [AV.cells]
theorem BU {f:AOpd} {g:FuncId} {first cap:List AV} {ps:List Nat} {a b:ACode} {e:Env} {σ:St} {K:KJ} {R:Out→Prop} (hf:f.ev e = .func g first cap)
  (h:Run T (.call g (first++[.yield σ.length]++cap) (σ++[.loop .ready none e ps a b])) R)
  (h1:∀ o,R o→∃ st pend env' ps' a' b',o.σ[σ.length]? = some (.loop st pend env' ps' a' b')∧st≠.busy∧K pend e (o.σ.set σ.length .dead)):rK (K:=⟨K⟩) T (.rangeFunc f ps a b) e σ:=.rangeFunc hf h h1
theorem FP {S:dH→St} {r:Rm} {ps:Nat→Span} {p m N:Nat} (hR:RoomAt S r ps p m N) {f:FuncId} {first cap args:List AV} {af:AFunc} {v:AV} {M M':dH} (hf:T f=some af) (hn:(first++args++cap).length≤af.ntmps)
  (h:wp T af.body (fC 0 (first++args++cap)) (S M) (fun j e σ1=>(j=none∨j=some .ret)∧∃ v0 τ,f9 af.results e σ1=some v0∧σ1=S M'++τ∧cV σ1 N 20 v0=some v)):sW T (.func f first cap) args (S M) v (S M'):=by
 refine .callf (.call hf hn (eQ h fun o ho=>ho) fun o ho=>?_)
 obtain ⟨hj,v0,τ,hres,hσ,h4⟩:=ho
 refine ⟨hj,v0,hres,?_⟩
 unfold cV at h4
 cases hs:snap o.σ N 20 v0 with
 |none=>rw [hs] at h4;cases h4
 |some v1 =>
  rw [hs] at h4
  simp at h4
  refine .inr ⟨20,v1,v,by rw [hR.len];exact hs,.inr h4.symm,hR.kept hσ,?_,rfl,?_⟩
  ·rw [hσ,List.length_append,hR.len,hR.len];omega
  ·rw [hσ,hR.len,←hR.len M',List.take_left]
def LQ (now:Span) (want:Int) (p N:Nat):St :=
 [.cells [.ptr p 0],.cells [.int .i64 now.lo,.int .i64 now.hi],.cells [.int .i64 want],.cells eO,.cells [.bool false],.cells [.func 236 [] [.ptr (N+1) 0,.ptr N 0,.ptr (N+2) 0]]]
def VL (b many ch:Int) (p:Nat):St:=[.cells [.ptr p 0],.cells [.int .i64 b],.cells [.int .i64 many],.cells [.int .i64 ch]]
theorem LZ {S:dH→St} {r:Rm} {ps:Nat→Span} {p m N:Nat} (hR:RoomAt S r ps p m N) (hv:Vd r) (now:Span) (want b ch:Int) (many:Nat) (h0:0≤now.lo) (h1:now.lo<1000) (h2:0≤now.hi) (h3:now.hi<1000)
  (e:Env) (e10:Env.get e 10 = .ptr (N+3) 0) (e11:Env.get e 11 = .ptr (N+4) 0) (e12:Env.get e 12 = .ptr (N+5) 0) (hmany:many≤8) (M:dH) :
  Run T (.call 370 [.yield (N+10),.ptr (N+8) 0,.ptr (N+9) 0,.ptr (N+6) 0,.ptr (N+7) 0] (S M++(LQ now want p N++(VL b many ch p++[lpB .ready none e])))) fun o =>
   match i3 r now want ch many Pl.zero b M with
   |(some x,M')=>∃ f' tk' plan τ',(∀ t,tk'=some t→N≤t)∧o.σ=S M'++(fst now want b many ch p N (eR x f' tk') true (lpB .done (some .ret) e) plan++τ')
   |(none,M')=>o.σ=S M'++fst now want b many ch p N eO false (lpB .ready none e) eO:=by
 refine .call (af:=a370) rfl (by simp [a370]) (eQ (K:=fun j e' σ1=>(j=none∨j=some .ret) ∧
   match i3 r now want ch many Pl.zero b M with
   |(some x,M')=>∃ f' tk' plan τ',(∀ t,tk'=some t→N≤t)∧σ1=S M'++(fst now want b many ch p N (eR x f' tk') true (lpB .done (some .ret) e) plan++τ')
   |(none,M')=>σ1=S M'++fst now want b many ch p N eO false (lpB .ready none e) eO) ?_ fun o ho=>ho) fun o ho=>⟨ho.1,.tuple [],rfl,.inl ho.2⟩
 have hn:=N6 hR hv now want b ch many h0 h1 h2 h3 e e10 e11 e12 hmany many Pl.zero b M true none [] (by simp [Pl.zero]) (fun i=>by simp [Pl.zero,W4.zero];match i with|0|1|2|3=>simp [W4.at]|i+4=>simp [W4.at]) (by simp [Pl.zero]) (fun t h=>by cases h)
 obtain ⟨R,hR0⟩:∃ R,i3 r now want ch many Pl.zero b M=R:=⟨_,rfl⟩
 rw [hR0] at hn ⊢
 simp only [fst,LQ,VL,eR,dU,ED,Pl.zero,List.map_nil,W4.zero,lpB,eO] at hn ⊢
 try simp only [↓QA,QB,seval,fN,hR.len,hR.base,hR.base0,hR.bset,hR.bset0,hR.at1,hR.at0,hR.map1,hR.map0] at hn
 (repeat (first|simp only [↓QA,QB,seval,fN,hR.len,hR.base,hR.base0,hR.bset,hR.bset0,hR.at1,hR.at0,hR.map1,hR.map0,a370,AZ,AU]|refine rd0 rfl ?_))
 refine .mono hn fun o ho=>?_
 obtain ⟨x,M'⟩:=R
 cases x with
 |none =>
  simp only at ho ⊢
  rw [ho.1,ho.2]
  (repeat (first|simp only [↓QA,QB,seval,fN,hR.len,hR.base,hR.base0,hR.bset,hR.bset0,hR.at1,hR.at0,hR.map1,hR.map0]|refine rd0 rfl ?_))
 |some x =>
  simp only at ho ⊢
  rw [ho.1]
  (repeat (first|simp only [↓QA,QB,seval,fN,hR.len,hR.base,hR.base0,hR.bset,hR.bset0,hR.at1,hR.at0,hR.map1,hR.map0]|refine rd0 rfl ?_))
  exact ho.2
theorem KQ {S:dH→St} {r:Rm} {ps:Nat→Span} {p m N:Nat} (hR:RoomAt S r ps p m N) (hv:Vd r) (now:Span) (want b ch:Int) (many:Nat) (h0:0≤now.lo) (h1:now.lo<1000) (h2:0≤now.hi) (h3:now.hi<1000)
  (e:Env) (e10:Env.get e 10 = .ptr (N+3) 0) (e11:Env.get e 11 = .ptr (N+4) 0) (e12:Env.get e 12 = .ptr (N+5) 0) (e31:Env.get e 31 = .func 370 [] [.ptr (N+8) 0,.ptr (N+9) 0,.ptr (N+6) 0,.ptr (N+7) 0]) (hmany:many≤8) (M:dH) (K:KJ)
  (hS:∀ x M' f' tk' plan τ',i3 r now want ch many Pl.zero b M=(some x,M')→(∀ t,tk'=some t→N≤t)→K (some .ret) e (S M'++(fst now want b many ch p N (eR x f' tk') true .dead plan++τ')))
  (hN:∀ M',i3 r now want ch many Pl.zero b M=(none,M')→K none e (S M'++fst now want b many ch p N eO false .dead eO)) :
  rK (K:=⟨K⟩) T (.rangeFunc (.t 31) [32] RA F0) e (S M++(LQ now want p N++VL b many ch p)):=by
 have hl:(S M++(LQ now want p N++VL b many ch p)).length=N+10:=by simp [List.length_append,hR.len,LQ,VL]
 have hp:=LZ hR hv now want b ch many h0 h1 h2 h3 e e10 e11 e12 hmany M
 refine BU (by rw [OB,e31]) (by rw [hl,List.append_assoc,List.append_assoc];exact hp) fun o ho=>?_
 rw [hl]
 have hid:∀ (M:dH) (υ:St),(S M++υ)[N+10]? = υ[10]?:=fun M υ=>by rw [←hR.len M];exact oI _ _ _
 cases hx:i3 r now want ch many Pl.zero b M with
 |mk x M' =>
  rw [hx] at ho
  cases x with
  |none =>
   simp only at ho
   rw [ho,hid,hR.bset]
   exact ⟨_,_,_,_,_,_,rfl,by simp,hN M' hx⟩
  |some x =>
   simp only at ho
   obtain ⟨f',tk',plan,τ',htk,hσ⟩:=ho
   rw [hσ,hid,hR.bset]
   exact ⟨_,_,_,_,_,_,rfl,by simp,hS x M' f' tk' plan τ' hx htk⟩
def pS (o:Option Pl):AV:=match o with
 |none=>.tuple [.agg (dU [] false none W4.zero 0),.bool false]
 |some x=>.tuple [.agg (dU (x.l.map (.int .i64)) false none x.w x.c),.bool true]
theorem KS {S:dH→St} {r:Rm} {ps:Nat→Span} {p m N:Nat} (hR:RoomAt S r ps p m N) (hv:Vd r) (now:Span) (want b:Int) (many:Nat) (h0:0≤now.lo) (h1:now.lo<1000) (h2:0≤now.hi) (h3:now.hi<1000) (hmany:many≤8) (M:dH) (fs az:List AV) (hfa:fs++az++[]=[.ptr p 0,bC now,.int .i64 b,.int .i64 many,.int .i64 want]) :
  sW T (.func 97 fs []) az (S M) (pS (y0 r now b many want M).1) (S (y0 r now b many want M).2):=by
 have ho:=hv.opens
 obtain ⟨K,hK⟩:∃ K,(min r.opens many+1).toNat=K:=⟨_,rfl⟩
 have hwK:IntKind.i64.wrap (min r.opens (many:Int)+1)=(K:Int):=by rw [aX ⟨by omega,by omega⟩];omega
 have hK8:K≤7:=by omega
 obtain ⟨F,hF⟩:∃ F:Nat→dH→Option Pl×dH,F=fun (ch:Nat) M=>i3 r now want ch many Pl.zero b M:=⟨_,rfl⟩
 have hspec:y0 r now b many want M=oN F K 0 M:=by rw [hF,←hK];rfl
 obtain ⟨R,hR0⟩:∃ R,oN F K 0 M=R:=⟨_,rfl⟩
 rw [hspec,hR0]
 refine FP hR (af:=a97) rfl (by rw [hfa];simp [a97]) ?_
 rw [hfa]
 (repeat (first|simp only [↓QA,QB,seval,fN,hR.len,hR.base,hR.base0,hR.bset,hR.bset0,hR.at1,hR.at0,hR.map1,hR.map0,a97,hwK]|refine rd0 rfl ?_))
 refine bU (S:=Nat×dH) (0,M) (fun s=>s.1≤K∧oN F (K-s.1) s.1 s.2=R) (fun s=>K-s.1)
  (fun s=>[(2,.int .i64 b),(3,.int .i64 many),(5,.ptr N 0),(10,.ptr (N+3) 0),(11,.ptr (N+4) 0),(12,.ptr (N+5) 0),(23,.int .i64 K),(24,.int .i64 s.1)])
  (fun s=>S s.2++LQ now want p N) ⟨by simp,hR0⟩ rfl ?_ fun s hs=>?_
 ·try simp only [aF,QE,seval,fN,hR.len,hR.base,hR.base0,hR.bset,hR.bset0,hR.at1,hR.at0,hR.map1,hR.map0]
  try simp
 ·obtain ⟨n,M2⟩:=s
  obtain ⟨hn,hq⟩:=hs
  simp only at hn hq
  simp only [LQ,eO]
  (repeat (first|simp only [↓QA,QB,seval,fN,hR.len,hR.base,hR.base0,hR.bset,hR.bset0,hR.at1,hR.at0,hR.map1,hR.map0,ZQ]|refine rd0 rfl ?_))
  refine aJ (fun h=>?_) fun h=>?_
  ·have hn1:n<K:=by simpa using h
   have hw1:=b7 hn1 (by omega)
   rw [show K-n=(K-(n+1))+1 by omega] at hq
   simp only [oN] at hq
   (repeat (first|simp only [↓QA,QB,seval,fN,hR.len,hR.base,hR.base0,hR.bset,hR.bset0,hR.at1,hR.at0,hR.map1,hR.map0]|refine rd0 rfl ?_))
   refine Q0 rfl (by simp [a238]) ?_
   (repeat (first|simp only [↓QA,QB,seval,fN,hR.len,hR.base,hR.base0,hR.bset,hR.bset0,hR.at1,hR.at0,hR.map1,hR.map0,a238]|refine rd0 rfl ?_))
   have hFn:F n M2=i3 r now want n many Pl.zero b M2:=by rw [hF]
   refine KQ hR hv now want b n many h0 h1 h2 h3 _ ?_ ?_ ?_ ?_ hmany M2 _ ?_ ?_
   ·try simp only [aF,QE,seval,fN,hR.len,hR.base,hR.base0,hR.bset,hR.bset0,hR.at1,hR.at0,hR.map1,hR.map0]
   ·try simp only [aF,QE,seval,fN,hR.len,hR.base,hR.base0,hR.bset,hR.bset0,hR.at1,hR.at0,hR.map1,hR.map0]
   ·try simp only [aF,QE,seval,fN,hR.len,hR.base,hR.base0,hR.bset,hR.bset0,hR.at1,hR.at0,hR.map1,hR.map0]
   ·try simp only [aF,QE,seval,fN,hR.len,hR.base,hR.base0,hR.bset,hR.bset0,hR.at1,hR.at0,hR.map1,hR.map0]
   ·intro x M' f' tk' plan τ' hx htk
    rw [hFn,hx] at hq
    simp only at hq
    subst hq
    simp only [fst,eR,dU,pS]
    (repeat (first|simp only [↓QA,QB,seval,fN,hR.len,hR.base,hR.base0,hR.bset,hR.bset0,hR.at1,hR.at0,hR.map1,hR.map0]|refine rd0 rfl ?_))
    refine ⟨_,_,rfl,rfl,?_⟩
    cases tk' with
    |none=>try simp only [QS,QC,seval,fN,hR.len,hR.base,hR.base0,hR.bset,hR.bset0,hR.at1,hR.at0,hR.map1,hR.map0,Bool.and_false]
    |some t =>
     have:=htk t rfl
     try simp only [QS,QC,seval,fN,hR.len,hR.base,hR.base0,hR.bset,hR.bset0,hR.at1,hR.at0,hR.map1,hR.map0,Nat.not_lt.2 this]
   ·intro M' hx
    rw [hFn,hx] at hq
    simp only at hq
    simp only [fst,eO]
    (repeat (first|simp only [↓QA,QB,seval,fN,hR.len,hR.base,hR.base0,hR.bset,hR.bset0,hR.at1,hR.at0,hR.map1,hR.map0,hw1]|refine rd0 rfl ?_))
    refine ⟨(n+1,M'),⟨by simp only;omega,hq⟩,by simp only;omega,?_⟩
    try simp only [aF,QE,seval,fN,hR.len,hR.base,hR.base0,hR.bset,hR.bset0,hR.at1,hR.at0,hR.map1,hR.map0,hw1,hR.eqS,K7,N5]
    try simp [aT,okVs,okV]
  ·have hn1:n=K:=by simp at h;omega
   rw [hn1,Nat.sub_self] at hq
   simp only [oN] at hq
   subst hq
   (repeat (first|simp only [↓QA,QB,seval,fN,hR.len,hR.base,hR.base0,hR.bset,hR.bset0,hR.at1,hR.at0,hR.map1,hR.map0]|refine rd0 rfl ?_))
   refine ⟨_,_,rfl,rfl,?_⟩
   try simp only [QS,QC,seval,fN,hR.len,hR.base,hR.base0,hR.bset,hR.bset0,hR.at1,hR.at0,hR.map1,hR.map0,pS,dU,W4.zero]
end Go.Am.Room.Ro
set_option maxRecDepth 4000
namespace Go.Am.Room.Ro
def kB:=And.intro @gT (And.intro @dY (And.intro @eC (And.intro @dS (And.intro @dR (And.intro @Nat.mul_one (And.intro @Int.toNat_natCast (And.intro @encRoom_eq (And.intro @roomCells_eq (And.intro @encSetting_eq (And.intro @encLook_eq (And.intro @aC (And.intro @jI (And.intro @Nat.add_lt_add_iff_left (And.intro @Nat.lt_add_right_iff_pos (And.intro @bI (@List.length_append.{0}))))))))))))))))
def EG (σ:St) (r:Rm) (ps:Nat→Span) (M:dH):St:=σ++[.cells (aI r),.cells (aI r),.map (g8 r M),.cells (rb r ps (σ.length+2))]
theorem NN (σ:St) (r:Rm) (ps:Nat→Span):RoomAt (EG σ r ps) r ps (σ.length+3) (σ.length+2) (σ.length+4) :=
 ⟨fun M=>by simp [EG],fun M=>by simp [EG,nC,JI,FU],fun M=>by rw [EG,oI];rfl,fun M M'=>by rw [EG,EG,oP];rfl,by omega,by omega⟩
theorem CU (σ:St) (r:Rm) (eo:Int) (h:jB r eo=0):mR σ r eo=EG σ r (psB r []) []:=by rw [mR,if_pos h];rfl
theorem B9 {S:dH→St} {r:Rm} {ps:Nat→Span} {p m N:Nat} (hR:RoomAt S r ps p m N) (hv:Vd r) (now:Span) (want b:Int) (many:Nat) (h0:0≤now.lo) (h1:now.lo<1000) (h2:0≤now.hi) (h3:now.hi<1000) (hmany:many≤8) (M:dH) (fs az:List AV) (hfa:fs++az++[]=[.ptr p 0,bC now,.int .i64 b,.int .i64 many,.int .i64 want]) :
  ∃ M',sW T (.func 97 fs []) az (S M) (pS ((g0 r now b many want).map fun x=>Pl.zero.adds b x.1)) (S M') :=
 ⟨(y0 r now b many want M).2,by rw [←ON hv now b many want M];exact KS hR hv now want b many h0 h1 h2 h3 hmany M fs az hfa⟩
theorem GY {r:Rm} {s:Span} {b c:Int} {many:Nat} {x:List Int×Int} (h:g0 r s b many c=some x):x.2=aW b x.1:=by
 rcases v9 r s b many c with ⟨h1,_⟩|⟨j,l,_,h2,_⟩
 ·rw [h1] at h;cases h
 ·rw [h2] at h;cases h;rfl
theorem plan_ok (r:Rm) (day c:Int) (hf:Fits r):cN T 16 [encRoom r,.int .i64 day,.int .i64 c] (encLNE (lS r day c)):=by
 refine aQ (af:=a16) rfl (by simp [a16]) dd ?_
 (repeat (first|simp only [↓QA,QB,Nat.reduceLT,reduceIte,Nat.reduceEqDiff,Nat.reduceAdd,Nat.reduceLeDiff,Nat.reduceMul,Nat.reduceBEq,kB,a16]|refine rd0 rfl ?_))
 refine eS (rE _ _ _) ?_
 (repeat (first|simp only [↓QA,QB,Nat.reduceLT,reduceIte,Nat.reduceEqDiff,Nat.reduceAdd,Nat.reduceLeDiff,Nat.reduceMul,Nat.reduceBEq,kB]|refine rd0 rfl ?_))
 obtain ⟨eo,heo⟩:∃ eo,eo=iQ [day,(r.ran.length:Int),r.days,c,1,7]:=⟨_,rfl⟩
 refine eS (lT _ r _ eo hf ?_) ?_
 ·intro _
  have:=rY [.cells (aI r),.cells [.lit [.int .i64 day,.int .i64 r.ran.length,.int .i64 r.days,.int .i64 c,.int .i64 1,.int .i64 7] true none],.cells (aI r)] 1 [day,r.ran.length,r.days,c,1,7] true none (by simp) (by simp [aM]) (by simp)
  rw [roomCells_eq,←heo] at this
  try simp only [↓QA,QB,Nat.reduceLT,reduceIte,Nat.reduceEqDiff,Nat.reduceAdd,Nat.reduceLeDiff,Nat.reduceMul,Nat.reduceBEq,kB]
  exact this
 have he:jB r eo=nX r day c:=by
  rw [heo]
  simp only [jB,nX,kC,dA,iQ,gA]
  congr 1
  by_cases hc:(check r).2.2=0
  ·simp only [hc,if_true]
   cases inR day r.ran.length r.days
   ·simp
   ·simp;rfl
  ·simp [hc]
 by_cases h0:nX r day c=0
 ·obtain ⟨h1,hs⟩:=dO h0
  obtain ⟨h2,hc1,hc2⟩:=v4 h1
  obtain ⟨hv,hd0,hd1⟩:=eV h2
  have hdd:=hv.days
  have hdr:=hv.ranLen
  obtain ⟨b0,b1,b2,_⟩:=MG hv hs
  have i1:(0:Int)≤(r.ran.length:Int)∧(r.ran.length:Int)<((7:Nat):Int):=⟨by omega,by omega⟩
  have c1:7+r.ran.length*2+2≤22:=by omega
  have t1:=fun m=>FY r (psB r []) m r.ran.length (by omega)
  have hsub:IntKind.i64.wrap (day-(r.ran.length:Int))=(((day-r.ran.length).toNat:Nat):Int):=by rw [aX ⟨by omega,by omega⟩];omega
  rw [A5 hv hs (Nat.le_refl _)] at t1
  rw [CU _ _ _ (he.trans h0)]
  simp only [lC,he,h0,if_true]
  have hR:=(NN [.cells (aI r),.cells [.lit [.int .i64 day,.int .i64 r.ran.length,.int .i64 r.days,.int .i64 c,.int .i64 1,.int .i64 7] true none]] r (psB r [])).app [.cells eO]
  obtain ⟨M',hfirst⟩:=B9 hR hv (gB r r.ran.length) c (fZ r) (day-r.ran.length).toNat b0 (by omega) (by omega) (by omega) (by omega) [] [] [.ptr 5 0,bC (gB r r.ran.length),.int .i64 (fZ r),.int .i64 ((day-r.ran.length).toNat:Int),.int .i64 c] rfl
  simp only [EG,eO] at hfirst ⊢
  try simp only [↓QA,QB,Nat.reduceLT,reduceIte,Nat.reduceEqDiff,Nat.reduceAdd,Nat.reduceLeDiff,Nat.reduceMul,Nat.reduceBEq,kB] at hfirst
  (repeat (first|simp only [↓QA,QB,Nat.reduceLT,reduceIte,Nat.reduceEqDiff,Nat.reduceAdd,Nat.reduceLeDiff,Nat.reduceMul,Nat.reduceBEq,kB,show ((0:Int)==0)=true from rfl]|refine rd0 rfl ?_))
  refine mU [.cells eO] rfl ?_
  (repeat (first|simp only [↓QA,QB,Nat.reduceLT,reduceIte,Nat.reduceEqDiff,Nat.reduceAdd,Nat.reduceLeDiff,Nat.reduceMul,Nat.reduceBEq,kB,eO]|refine rd0 rfl ?_))
  refine eL (rO _ 5 r (psB r []) 4 (by simp [aM])) ?_
  (repeat (first|simp only [↓QA,QB,Nat.reduceLT,reduceIte,Nat.reduceEqDiff,Nat.reduceAdd,Nat.reduceLeDiff,Nat.reduceMul,Nat.reduceBEq,kB,i1,c1,t1,hJ]|refine rd0 rfl ?_))
  refine eL (IP _ 5 r (psB r []) 4 hf (by simp [aM])) ?_
  (repeat (first|simp only [↓QA,QB,Nat.reduceLT,reduceIte,Nat.reduceEqDiff,Nat.reduceAdd,Nat.reduceLeDiff,Nat.reduceMul,Nat.reduceBEq,kB,i1,c1,t1,hJ]|refine rd0 rfl ?_))
  refine eL (rO _ 5 r (psB r []) 4 (by simp [aM])) ?_
  (repeat (first|simp only [↓QA,QB,Nat.reduceLT,reduceIte,Nat.reduceEqDiff,Nat.reduceAdd,Nat.reduceLeDiff,Nat.reduceMul,Nat.reduceBEq,kB,i1,c1,t1,hJ,hsub]|refine rd0 rfl ?_))
  refine eS hfirst ?_
  have hp:lS r day c=match g0 r (gB r r.ran.length) (fZ r) (day-r.ran.length).toNat c with|none=>([],0,9)|some x=>(x.1,x.2,0):=by rw [lS,if_pos h0];rfl
  rw [hp]
  cases hb:g0 r (gB r r.ran.length) (fZ r) (day-r.ran.length).toNat c with
  |none =>
   (repeat (first|simp only [↓QA,QB,Nat.reduceLT,reduceIte,Nat.reduceEqDiff,Nat.reduceAdd,Nat.reduceLeDiff,Nat.reduceMul,Nat.reduceBEq,kB,Option.map_none,pS,dU,encLNE,hJ,c1,t1,List.map_nil]|refine rd0 rfl ?_))
  |some x =>
   have hx:=GY hb
   (repeat (first|simp only [↓QA,QB,Nat.reduceLT,reduceIte,Nat.reduceEqDiff,Nat.reduceAdd,Nat.reduceLeDiff,Nat.reduceMul,Nat.reduceBEq,kB,Option.map_some,pS,dU,encLNE,Pl.adds,Pl.zero,hJ,c1,t1,hx,Int.zero_add]|refine rd0 rfl ?_))
 ·have h0':(nX r day c==0)=false:=by simpa using h0
  have hp:lS r day c=([],0,nX r day c):=by rw [lS,if_neg h0]
  simp only [lC,mR,he]
  rw [if_neg h0,if_neg h0,hp]
  (repeat (first|simp only [↓QA,QB,Nat.reduceLT,reduceIte,Nat.reduceEqDiff,Nat.reduceAdd,Nat.reduceLeDiff,Nat.reduceMul,Nat.reduceBEq,kB,h0',encLNE]|refine rd0 rfl ?_))
  rfl
end Go.Am.Room.Ro
set_option maxRecDepth 4000
namespace Go.Am.Room.Ro
def gO:=And.intro @gT (And.intro @dY (And.intro @eC (And.intro @dS (And.intro @dR (And.intro @Nat.mul_one (And.intro @Int.toNat_natCast (And.intro @encRoom_eq (And.intro @roomCells_eq (And.intro @encSetting_eq (And.intro @encLook_eq (And.intro @aC (And.intro @jI (And.intro @Nat.add_lt_add_iff_left (And.intro @Nat.lt_add_right_iff_pos (And.intro @bI (@List.length_append.{0}))))))))))))))))
theorem wQ (r:Rm) (M:dH) (k:Nat):aT k (.map (g8 r M))=True:=eq_true (RoomAt.memo_ok r M k)
theorem GN (r:Rm) (ps:Nat→Span) {m k:Nat} (h:m<k):aT k (.cells (rb r ps m))=True:=eq_true (I0 r ps h)
theorem iG {σ:St} {l:List Int} {a:Int} {ex:Bool} {t:Nat} (hn:l.length<100) (ht:σ[t]? = some (.tok 1 l.length ex)):cZ 1 8 σ (.lit (l.map (.int .i64)) false (some t)) (.lit [.int .i64 a] true none)=some (.lit ((l++[a]).map (.int .i64)) false (some t),σ.set t (.tok 1 (l.length+1) true)):=by
 rw [uP (ex:=ex) ⟨qB 1 _ l (fun x=>FI _ _),by simp [aU,AV.cells,AV.cell],by simp [room];omega,by simp [room];omega⟩ (by simp) (by simpa using ht)]
 simp
theorem xQ (r:Rm) (day:Int) (hf:Fits r):cN T 86 [encRoom r,.int .i64 day] (iJ (nT r day)):=by
 refine aQ (af:=a86) rfl (by simp [a86]) dd ?_
 (repeat (first|simp only [↓QA,QB,Nat.reduceLT,reduceIte,Nat.reduceEqDiff,Nat.reduceAdd,Nat.reduceLeDiff,Nat.reduceMul,Nat.reduceBEq,gO,a86]|refine rd0 rfl ?_))
 refine eS (rE _ _ _) ?_
 (repeat (first|simp only [↓QA,QB,Nat.reduceLT,reduceIte,Nat.reduceEqDiff,Nat.reduceAdd,Nat.reduceLeDiff,Nat.reduceMul,Nat.reduceBEq,gO]|refine rd0 rfl ?_))
 obtain ⟨eo,heo⟩:∃ eo,eo=iQ [day,(r.ran.length:Int),r.days]:=⟨_,rfl⟩
 refine eS (lT _ r _ eo hf ?_) ?_
 ·intro _
  have:=rY [.cells (aI r),.cells [.lit [.int .i64 day,.int .i64 r.ran.length,.int .i64 r.days] true none],.cells (aI r)] 1 [day,r.ran.length,r.days] true none (by simp) (by simp [aM]) (by simp)
  rw [roomCells_eq,←heo] at this
  try simp only [↓QA,QB,Nat.reduceLT,reduceIte,Nat.reduceEqDiff,Nat.reduceAdd,Nat.reduceLeDiff,Nat.reduceMul,Nat.reduceBEq,gO]
  exact this
 have he:jB r eo=mV r day:=by
  rw [heo]
  simp only [jB,mV,dA,iQ]
 by_cases h0:mV r day=0
 ·obtain ⟨h1,hs⟩:=dO h0
  obtain ⟨hv,hd0,hd1⟩:=eV h1
  have hdd:=hv.days
  have hdr:=hv.ranLen
  obtain ⟨b0,b1,b2,_⟩:=MG hv hs
  have i1:(0:Int)≤(r.ran.length:Int)∧(r.ran.length:Int)<((7:Nat):Int):=⟨by omega,by omega⟩
  have c1:7+r.ran.length*2+2≤22:=by omega
  have t1:=fun m=>FY r (psB r []) m r.ran.length (by omega)
  have hsub:IntKind.i64.wrap (day-(r.ran.length:Int))=(((day-r.ran.length).toNat:Nat):Int):=by rw [aX ⟨by omega,by omega⟩];omega
  rw [A5 hv hs (Nat.le_refl _)] at t1
  rw [CU _ _ _ (he.trans h0)]
  simp only [lC,he,h0,if_true]
  have hp:nT r day=((aP 1 7).filter (rJ r day),0):=by rw [nT,if_pos h0]
  rw [hp]
  obtain ⟨R,hRR⟩:∃ R,(aP 1 7).filter (rJ r day)=R:=⟨_,rfl⟩
  rw [hRR]
  simp only [EG]
  (repeat (first|simp only [↓QA,QB,Nat.reduceLT,reduceIte,Nat.reduceEqDiff,Nat.reduceAdd,Nat.reduceLeDiff,Nat.reduceMul,Nat.reduceBEq,gO,show ((0:Int)==0)=true from rfl]|refine rd0 rfl ?_))
  refine oK 4 1 [] rfl ?_
  refine bU (S:=Nat×List Int×Bool×dH) (0,[],false,[]) (fun s=>s.1≤7∧s.2.1.length≤s.1∧s.2.1++(aP (1+(s.1:Int)) (7-s.1)).filter (rJ r day)=R) (fun s=>7-s.1)
   (fun s=>[(1,.int .i64 day),(6,.ptr 5 0),(7,.func 97 [.ptr 5 0] []),(4,.lit (s.2.1.map (.int .i64)) false (some 6)),(5,.int .i64 0),(29,.int .i64 s.1)])
   (fun s=>[.cells (aI r),.cells [.lit [.int .i64 day,.int .i64 r.ran.length,.int .i64 r.days] true none],.cells (aI r),.cells (aI r),.map (g8 r s.2.2.2),.cells (rb r (psB r []) 4),.tok 1 s.2.1.length s.2.2.1]) ⟨by simp,by simp,by simpa using hRR⟩ (by simp [aI,ints]) ?_ fun s hs=>?_
  ·try simp only [aF,QE,Nat.reduceLT,reduceIte,Nat.reduceEqDiff,Nat.reduceAdd,Nat.reduceLeDiff,Nat.reduceMul,Nat.reduceBEq,gO]
   try simp
  ·obtain ⟨k,acc,ex,M⟩:=s
   obtain ⟨hk,hal,hacc⟩:=hs
   simp only at hk hal hacc
   (repeat (first|simp only [↓QA,QB,Nat.reduceLT,reduceIte,Nat.reduceEqDiff,Nat.reduceAdd,Nat.reduceLeDiff,Nat.reduceMul,Nat.reduceBEq,gO,Z4]|refine rd0 rfl ?_))
   refine aJ (fun h=>?_) fun h=>?_
   ·have hk1:k<7:=by simp at h;omega
    have hw:IntKind.i64.wrap ((k:Int)+1)=((k+1:Nat):Int):=b7 hk1 (by omega)
    rw [show 7-k=(7-(k+1))+1 by omega] at hacc
    simp only [aP,List.filter_cons] at hacc
    have hR:=(NN [.cells (aI r),.cells [.lit [.int .i64 day,.int .i64 r.ran.length,.int .i64 r.days] true none]] r (psB r [])).app [.tok 1 acc.length ex,.cells eO]
    obtain ⟨M',hfirst⟩:=B9 hR hv (gB r r.ran.length) ((k:Int)+1) (fZ r) (day-r.ran.length).toNat b0 (by omega) (by omega) (by omega) (by omega) M [.ptr 5 0] [bC (gB r r.ran.length),.int .i64 (fZ r),.int .i64 ((day-r.ran.length).toNat:Int),.int .i64 ((k:Int)+1)] rfl
    simp only [EG,eO] at hfirst
    rw [show ((k:Int)+1)=((k+1:Nat):Int) by omega] at hfirst
    try simp only [↓QA,QB,Nat.reduceLT,reduceIte,Nat.reduceEqDiff,Nat.reduceAdd,Nat.reduceLeDiff,Nat.reduceMul,Nat.reduceBEq,gO] at hfirst
    (repeat (first|simp only [↓QA,QB,Nat.reduceLT,reduceIte,Nat.reduceEqDiff,Nat.reduceAdd,Nat.reduceLeDiff,Nat.reduceMul,Nat.reduceBEq,gO]|refine rd0 rfl ?_))
    refine mU [.cells eO] rfl ?_
    (repeat (first|simp only [↓QA,QB,Nat.reduceLT,reduceIte,Nat.reduceEqDiff,Nat.reduceAdd,Nat.reduceLeDiff,Nat.reduceMul,Nat.reduceBEq,gO,eO]|refine rd0 rfl ?_))
    refine eL (rO _ 5 r (psB r []) 4 (by simp [aM])) ?_
    (repeat (first|simp only [↓QA,QB,Nat.reduceLT,reduceIte,Nat.reduceEqDiff,Nat.reduceAdd,Nat.reduceLeDiff,Nat.reduceMul,Nat.reduceBEq,gO,i1,c1,t1,hJ]|refine rd0 rfl ?_))
    refine eL (IP _ 5 r (psB r []) 4 hf (by simp [aM])) ?_
    (repeat (first|simp only [↓QA,QB,Nat.reduceLT,reduceIte,Nat.reduceEqDiff,Nat.reduceAdd,Nat.reduceLeDiff,Nat.reduceMul,Nat.reduceBEq,gO,i1,c1,t1,hJ]|refine rd0 rfl ?_))
    refine eL (rO _ 5 r (psB r []) 4 (by simp [aM])) ?_
    (repeat (first|simp only [↓QA,QB,Nat.reduceLT,reduceIte,Nat.reduceEqDiff,Nat.reduceAdd,Nat.reduceLeDiff,Nat.reduceMul,Nat.reduceBEq,gO,i1,c1,t1,hJ,hsub,hw]|refine rd0 rfl ?_))
    refine eS hfirst ?_
    have hrc:rJ r day (1+(k:Int))=(g0 r (gB r r.ran.length) (fZ r) (day-r.ran.length).toNat ((k+1:Nat):Int)).isSome:=by
     rw [rJ,show (1+(k:Int))=((k+1:Nat):Int) by omega]
    rw [hrc] at hacc
    rw [show (1+(k:Int)+1)=1+((k+1:Nat):Int) by omega] at hacc
    cases hb:g0 r (gB r r.ran.length) (fZ r) (day-r.ran.length).toNat ((k+1:Nat):Int) with
    |none =>
     rw [hb] at hacc
     (repeat (first|simp only [↓QA,QB,Nat.reduceLT,reduceIte,Nat.reduceEqDiff,Nat.reduceAdd,Nat.reduceLeDiff,Nat.reduceMul,Nat.reduceBEq,gO,Option.map_none,pS,dU,iJ,hJ,c1,t1,List.map_nil,hw]|refine rd0 rfl ?_))
     refine ⟨(k+1,acc,ex,M'),⟨by simp only;omega,by simp only;omega,by simpa using hacc⟩,by simp only;omega,?_⟩
     try simp only [aF,QE,Nat.reduceLT,reduceIte,Nat.reduceEqDiff,Nat.reduceAdd,Nat.reduceLeDiff,Nat.reduceMul,Nat.reduceBEq,gO,hw,wQ,GN,gL]
    |some x =>
     rw [hb] at hacc
     have hap:=fun (τ:St)=>iG (σ:=.cells (aI r)::.cells [.lit [.int .i64 day,.int .i64 r.ran.length,.int .i64 r.days] true none]::.cells (aI r)::.cells (aI r)::.map (g8 r M')::.cells (rb r (psB r []) 4)::.tok 1 acc.length ex::τ) (l:=acc) (a:=((k+1:Nat):Int)) (ex:=ex) (t:=6) (by omega) rfl
     rw [roomCells_eq] at hap
     (repeat (first|simp only [↓QA,QB,Nat.reduceLT,reduceIte,Nat.reduceEqDiff,Nat.reduceAdd,Nat.reduceLeDiff,Nat.reduceMul,Nat.reduceBEq,gO,Option.map_some,pS,dU,iJ,Pl.adds,Pl.zero,hJ,c1,t1,Int.zero_add,hw,hap]|refine rd0 rfl ?_))
     refine ⟨(k+1,acc++[((k+1:Nat):Int)],true,M'),⟨by simp only;omega,by simp only [List.length_append,List.length_cons,List.length_nil];omega,by
      simp only [Option.isSome_some,if_true] at hacc
      rw [←hacc,show (1+(k:Int))=((k+1:Nat):Int) by omega];simp⟩,by simp only;omega,?_⟩
     try simp only [aF,QE,Nat.reduceLT,reduceIte,Nat.reduceEqDiff,Nat.reduceAdd,Nat.reduceLeDiff,Nat.reduceMul,Nat.reduceBEq,gO,hw,wQ,GN,gL,List.map_append,List.map_cons,List.map_nil]
     try simp [aT]
   ·have hk1:k=7:=by simp at h;omega
    rw [hk1] at hacc
    simp only [Nat.sub_self,aP,List.filter_nil,List.append_nil] at hacc
    (repeat (first|simp only [↓QA,QB,Nat.reduceLT,reduceIte,Nat.reduceEqDiff,Nat.reduceAdd,Nat.reduceLeDiff,Nat.reduceMul,Nat.reduceBEq,gO,hacc,iJ]|refine rd0 rfl ?_))
 ·have h0':(mV r day==0)=false:=by simpa using h0
  have hp:nT r day=([],mV r day):=by rw [nT,if_neg h0]
  simp only [lC,mR,he]
  rw [if_neg h0,if_neg h0,hp]
  (repeat (first|simp only [↓QA,QB,Nat.reduceLT,reduceIte,Nat.reduceEqDiff,Nat.reduceAdd,Nat.reduceLeDiff,Nat.reduceMul,Nat.reduceBEq,gO,h0',iJ]|refine rd0 rfl ?_))
  rfl
end Go.Am.Room.Ro
set_option maxRecDepth 4000
namespace Go.Am.Room.Ro
def gP:=And.intro @gT (And.intro @dY (And.intro @eC (And.intro @dS (And.intro @dR (And.intro @Nat.mul_one (And.intro @Int.toNat_natCast (And.intro @encRoom_eq (And.intro @roomCells_eq (And.intro @encSetting_eq (And.intro @encLook_eq (And.intro @aC (And.intro @jI (And.intro @Nat.add_lt_add_iff_left (And.intro @Nat.lt_add_right_iff_pos (And.intro @bI (@List.length_append.{0}))))))))))))))))
theorem WP (σ:St) (r:Rm) (ps:Nat→Span):RoomAt (fun M=>σ++[.cells (aI r),.map (g8 r M),.cells (rb r ps (σ.length+1))]) r ps (σ.length+2) (σ.length+1) (σ.length+3) :=
 ⟨fun M=>by simp,fun M=>by simp [nC,JI,FU],fun M=>by rw [oI];rfl,fun M M'=>by rw [oP];rfl,by omega,by omega⟩
def rr (r:Rm):Rm:={ r with ran:=[],looks:=[] }
theorem RV (r:Rm):∀ l,sumS (rr r) l=sumS r l
 |[]=>rfl
 |n::l=>by simp only [sumS,RV r l];rfl
theorem UY (r:Rm) (s:Span) (l:List Int) (c:Int):kA (rr r) s l c=kA r s l c:=by simp only [kA,RV]
theorem FE (r:Rm) (s:Span) (b c:Int):∀ (ls:List (List Int)) i o,uF (rr r) s b c ls i o=uF r s b c ls i o
 |[],_,_=>rfl
 |l::ls,i,o=>by simp only [uF,UY,FE r s b c ls];rfl
theorem XB (r:Rm) (s:Span) (b:Int) (many:Nat) (c:Int):g0 (rr r) s b many c=g0 r s b many c:=by
 simp only [g0,show (rr r).settings=r.settings from rfl,FE]
theorem ZJ {r:Rm} (hv:Vd r):Vd (rr r) :=
 ⟨hv.days,hv.start,hv.nset,hv.gains,hv.opens,by have:=hv.days;simp [rr];omega,by simp [rr],by simp [rr],by simp [rr]⟩
theorem NU (r:Rm) (day c:Int) (hf:Fits r):cN T 87 [encRoom r,.int .i64 day,.int .i64 c] (iJ (tK r day c)):=by
 refine aQ (af:=a87) rfl (by simp [a87]) dd ?_
 have err:∀ e,pN r day c=e→e≠0→tK r day c=([],e):=fun e h1 h2=>by rw [tK,if_neg (by rw [h1];exact h2),h1]
 (repeat (first|simp only [↓QA,QB,seval,gP,a87]|refine rd0 rfl ?_))
 ((first|refine aE (jG r hf) rfl dd ?_|refine aG (jG r hf) rfl dd ?_);(repeat (first|simp only [↓QA,QB,seval,gP,enc3]|refine rd0 rfl ?_)))
 cases h0:((check r).2.2==0)
 ·have h0':(check r).2.2≠0:=by simpa using h0
  rw [err (check r).2.2 (by simp [pN,dA,kC,h0']) h0']
  (repeat (first|simp only [↓QA,QB,seval,gP,h0,iJ]|refine rd0 rfl ?_))
  rfl
 ·have h0':(check r).2.2=0:=by simpa using h0
  have hv:=vd_of_check h0'
  have hdd:=hv.days
  have hst:=hv.start
  have hfe:pN r day c=iQ [day,0,r.days,c,1,7]:=by
   simp only [pN,dA,kC,iQ,gA,h0',if_true]
   cases inR day 0 r.days
   ·simp
   ·simp;rfl
  obtain ⟨eo,heo⟩:∃ eo,eo=iQ [day,0,r.days,c,1,7]:=⟨_,rfl⟩
  have hin:=rY [.cells (aI r),.cells [.lit [.int .i64 day,.int .i64 0,.int .i64 r.days,.int .i64 c,.int .i64 1,.int .i64 7] true none]] 1 [day,0,r.days,c,1,7] true none (by simp) (by simp [aM]) (by simp)
  rw [←heo] at hin hfe
  try simp only [↓QA,QB,seval,gP] at hin
  (repeat (first|simp only [↓QA,QB,seval,gP,h0]|refine rd0 rfl ?_))
  refine gY (rE _ _ _) ?_
  (repeat (first|simp only [↓QA,QB,seval,gP]|refine rd0 rfl ?_))
  refine aV hin ?_
  cases h1:(eo==0)
  ·have h1':eo≠0:=by simpa using h1
   rw [err eo hfe h1']
   (repeat (first|simp only [↓QA,QB,seval,gP,h1,iJ]|refine rd0 rfl ?_))
   rfl
  ·have h1':eo=0:=by simpa using h1
   have h2:pN r day c=0:=hfe.trans h1'
   obtain ⟨h3,hc1,hc2⟩:=v4 h2
   obtain ⟨_,hd0,hd1⟩:=eV h3
   have hp:tK r day c=((aP 0 (day+1).toNat).filter (ER r day c),0):=by rw [tK,if_pos h2]
   rw [hp]
   obtain ⟨D,hD⟩:∃ D,(day+1).toNat=D:=⟨_,rfl⟩
   rw [hD]
   obtain ⟨R,hRR⟩:∃ R,(aP 0 D).filter (ER r day c)=R:=⟨_,rfl⟩
   rw [hRR]
   have hwD:IntKind.i64.wrap (day+1)=(D:Int):=by rw [aX ⟨by omega,by omega⟩];omega
   have hlk:=fun σ=>F5q σ (rr r) 0 [] (ZJ hv) YH (.agg [.int .i64 r.days,.int .i64 r.start.lo,.int .i64 r.start.hi,.lit (r.settings.map encSetting) false none,.int .i64 r.opens,.lit [] true none,.lit [] true none]) (.inr (by
    simp [clr,clrs,(bZ iU r.settings).2,encRoom,aI,rr,ints]))
   (repeat (first|simp only [↓QA,QB,seval,gP,h1]|refine rd0 rfl ?_))
   refine .mono (hlk _) fun o ho=>?_
   obtain ⟨ps,hov,hoσ,_⟩:=ho
   rw [hov,hoσ]
   (repeat (first|simp only [↓QA,QB,seval,gP,List.length_append,k7,hwD]|refine rd0 rfl ?_))
   refine oK 6 1 [] rfl ?_
   refine bU (S:=Nat×List Int×Bool×dH) (0,[],false,[]) (fun s=>s.1≤D∧s.2.1.length≤s.1∧s.2.1++(aP (s.1:Int) (D-s.1)).filter (ER r day c)=R) (fun s=>D-s.1)
    (fun s=>[(1,.int .i64 day),(2,.int .i64 c),(3,.ptr 0 0),(8,.ptr 4 0),(6,.lit (s.2.1.map (.int .i64)) false (some 5)),(7,.int .i64 0),(39,.int .i64 D),(40,.int .i64 s.1)])
    (fun s=>[.cells [.int .i64 r.days,.int .i64 r.start.lo,.int .i64 r.start.hi,.lit (r.settings.map encSetting) false none,.int .i64 r.opens,.lit [] true none,.lit [] true none],.cells [.lit [.int .i64 day,.int .i64 0,.int .i64 r.days,.int .i64 c,.int .i64 1,.int .i64 7] true none],.cells (aI (rr r)),.map (g8 (rr r) s.2.2.2),.cells (rb (rr r) ps 3),.tok 1 s.2.1.length s.2.2.1]) ⟨by simp,by simp,by simpa using hRR⟩ (by simp [aI,ints,g8]) ?_ fun s hs=>?_
   ·try simp only [aF,QE,seval,gP,h1']
    try simp
    try simp [h1']
   ·obtain ⟨k,acc,ex,M⟩:=s
    obtain ⟨hk,hal,hacc⟩:=hs
    simp only at hk hal hacc
    (repeat (first|simp only [↓QA,QB,seval,gP,ZA]|refine rd0 rfl ?_))
    refine aJ (fun h=>?_) fun h=>?_
    ·have hk1:k<D:=by simp at h;omega
     have hw:IntKind.i64.wrap ((k:Int)+1)=((k+1:Nat):Int):=b7 hk1 (by omega)
     have hsub:IntKind.i64.wrap (day-(k:Int))=(((day-k).toNat:Nat):Int):=by rw [aX ⟨by omega,by omega⟩];omega
     rw [show D-k=(D-(k+1))+1 by omega] at hacc
     simp only [aP,List.filter_cons] at hacc
     have hR:=(WP [.cells [.int .i64 r.days,.int .i64 r.start.lo,.int .i64 r.start.hi,.lit (r.settings.map encSetting) false none,.int .i64 r.opens,.lit [] true none,.lit [] true none],.cells [.lit [.int .i64 day,.int .i64 0,.int .i64 r.days,.int .i64 c,.int .i64 1,.int .i64 7] true none]] (rr r) ps).app [.tok 1 acc.length ex]
     obtain ⟨M',hfirst⟩:=B9 hR (ZJ hv) r.start c (-1) (day-k).toNat hst.1 (by omega) (by omega) (by omega) (by omega) M [] [.ptr 4 0,bC r.start,.int .i64 (-1),.int .i64 ((day-k).toNat:Int),.int .i64 c] rfl
     rw [XB] at hfirst
     try simp only [↓QA,QB,seval,gP] at hfirst
     (repeat (first|simp only [↓QA,QB,seval,gP,hsub]|refine rd0 rfl ?_))
     refine gY hfirst ?_
     have hrc:ER r day c (k:Int)=(g0 r r.start (-1) (day-k).toNat c).isSome:=rfl
     rw [hrc] at hacc
     cases hb:g0 r r.start (-1) (day-k).toNat c with
     |none =>
      rw [hb] at hacc
      (repeat (first|simp only [↓QA,QB,seval,gP,Option.map_none,pS,dU,List.map_nil,hw]|refine rd0 rfl ?_))
      refine ⟨(k+1,acc,ex,M'),⟨by simp only;omega,by simp only;omega,by simpa using hacc⟩,by simp only;omega,?_⟩
      try simp only [aF,QE,seval,gP,hw,wQ,GN,gL]
      try simp [aT]
     |some x =>
      rw [hb] at hacc
      have hap:=fun (b0 b1 b2 b3 b4:ABlk) (τ:St)=>iG (σ:=b0::b1::b2::b3::b4::.tok 1 acc.length ex::τ) (l:=acc) (a:=(k:Int)) (ex:=ex) (t:=5) (by omega) rfl
      (repeat (first|simp only [↓QA,QB,seval,gP,Option.map_some,pS,dU,Pl.adds,Pl.zero,Int.zero_add,hw,hap]|refine rd0 rfl ?_))
      refine ⟨(k+1,acc++[(k:Int)],true,M'),⟨by simp only;omega,by simp only [List.length_append,List.length_cons,List.length_nil];omega,by
       simp only [Option.isSome_some,if_true] at hacc
       rw [←hacc];simp⟩,by simp only;omega,?_⟩
      try simp only [aF,QE,seval,gP,hw,wQ,GN,gL,List.map_append,List.map_cons,List.map_nil]
      try simp [aT]
    ·have hk1:k=D:=by simp at h;omega
     rw [hk1] at hacc
     simp only [Nat.sub_self,aP,List.filter_nil,List.append_nil] at hacc
     (repeat (first|simp only [↓QA,QB,seval,gP,hacc,iJ]|refine rd0 rfl ?_))
end Go.Am.Room.Ro
set_option maxRecDepth 8000
namespace Go.Am.Room.Ro
def rrA (r:Rm):AV:=.agg [.int .i64 r.days,.int .i64 r.start.lo,.int .i64 r.start.hi,.lit (r.settings.map encSetting) false none,.int .i64 r.opens,.lit [] true none,.lit [] true none]
theorem aAY (r:Rm):clr (rrA r)=encRoom (rr r):=by simp [rrA,clr,clrs,(bZ iU r.settings).2,encRoom,aI,rr,ints]
theorem rr_clr1 (r:Rm) {az bs:List AV} (h:clrs az=bs):clrs (rrA r::az)=encRoom (rr r)::bs:=by simp [clrs,aAY,h]
theorem aBW (r:Rm):okV 0 (rrA r):=by
 have:=(fT iU r.settings).1
 simp only [okV] at this
 simp [rrA,okV,okVs,this]
theorem rr_ok1 (r:Rm) {az:List AV} (h:okVs 0 az):okVs 0 (rrA r::az):=⟨aBW r,h⟩
theorem rr_fits {r:Rm} (hf:Fits r):Fits (rr r):=⟨hf.settings,by simp [rr],by simp [rr],hf.names⟩
theorem aGP {r:Rm} (h:(check (rr r)).2.2=0):Tr (rr r):=⟨vd_of_check h,w5 (vd_of_check h) fun j hj=>by simp [rr] at hj,h⟩
theorem aC7 {r:Rm} (h:(check (rr r)).2.2=0):gB (rr r) 0=r.start:=by
 have hst:=(vd_of_check h).start
 simp only [rr] at hst
 have key:∀ s:Span,0≤s.lo→s.hi≤1000→gQ s ⟨0,1000⟩=s:=by
  rintro ⟨lo,hi⟩ h1 h2
  simp only [gQ,Span.mk.injEq] at *
  omega
 have hb:=key r.start hst.1 (by omega)
 have:bwd (rr r) [] 0=some r.start:=by
  show ne (gQ r.start ⟨0,1000⟩)=_
  rw [hb,ne,if_pos hst.2.1]
 have e:gB (rr r) 0=(bwd (rr r) [] 0).getD ⟨160,-1⟩:=rfl
 rw [e,this];rfl
def st (r:Rm) (s:Span):Rm:={ r with start:=s }
theorem st_check {r:Rm} {s:Span} (h:(check (rr r)).2.2=0) (h0:0≤s.lo) (h1:s.lo≤s.hi) (h2:s.hi≤69):(check (rr (st r s))).2.2=0:=by
 have e0:dV s 0 69=0:=by
  have a1:inR s.lo 0 69=true:=by simp [inR];omega
  have a2:inR s.hi 0 69=true:=by simp [inR];omega
  simp [dV,a1,a2];omega
 unfold check at h ⊢
 split at h
 ·simp at h
 ·rename_i c1
  split at h
  ·rename_i c2;exact absurd h c2
  ·rw [not_or,not_or] at c1
   have e1:(rr (st r s)).start=s:=rfl
   rw [e1,e0,if_neg (by rw [not_or,not_or];exact ⟨c1.1,by omega,c1.2.2⟩),if_neg (by simp)]
   exact h
theorem plan_law {r:Rm} {s:Span} (hc:(check (rr (st r s))).2.2=0) {D c:Int} (h1:0≤D) (h2:D≤r.days) (h3:1≤c) (h4:c≤7) :
  lS (rr (st r s)) D c=([],0,9)∨∃ l ch,lS (rr (st r s)) D c=(l,ch,0)∧(l.length:Int)=D∧(∀ x∈l,0≤x∧x<r.settings.length)∧colourOf (s.lo+(sumS r l).lo)=c∧colourOf (s.hi+(sumS r l).hi)=c:=by
 have tr:=aGP hc
 have hp:=aC7 hc
 have e:=tr.plan (day:=D) (c:=c) h1 h2 h3 h4
 have h0:(rr (st r s)).ran.length=0:=rfl
 rw [h0,hp] at e
 have e1:((D-((0:Nat):Int)).toNat)=D.toNat:=by omega
 rw [e1] at e
 rcases v9 (rr (st r s)) (st r s).start (fZ (rr (st r s))) D.toNat c with ⟨q1,_⟩|⟨j,l,q1,q2,q3,_⟩
 ·left;rw [e,q1]
 ·right
  have hm:=rS _ _ l (List.mem_of_getElem? q1)
  have hs:∀ l,sumS (rr (st r s)) l=sumS r l:=by
   intro l
   induction l with
   |nil=>rfl
   |cons n l ih=>simp only [sumS,ih];rfl
  have hg:=q3.2
  simp only [kA,hs,Bool.and_eq_true,beq_iff_eq] at hg
  exact ⟨l,_,by rw [e,q2],by omega,hm.2,hg.1,hg.2⟩
end Go.Am.Room.Ro
namespace Go.Am.Room.Fa
open Go
variable {P:Program}
structure TysR (P:Program):Prop where
 int:P.underlying 3=some (.int .i64)
 u8:P.underlying 5=some (.int .u8)
 str:P.underlying 9=some .string
 rain:P.underlying 22=some (.slice 24)
 span:j7 P 24 [3,3]
 plots:P.underlying 25=some (.slice 71)
 looks:P.underlying 26=some (.slice 175)
 farm:j7 P 28 [22,3,3,24,25,26]
 sets:P.underlying 29=some (.slice 56)
 ints:P.underlying 30=some (.slice 3)
 rlooks:P.underlying 31=some (.slice 178)
 room:j7 P 33 [3,24,29,3,30,31]
 u8s:P.underlying 34=some (.slice 5)
 rip:j7 P 36 [5,5,5,5,34]
 set:j7 P 56 [9,24]
 plot:j7 P 71 [9,24,3]
 look:j7 P 175 [3,3,3]
 rlook:j7 P 178 [3,3]
theorem W5 {n:Nat} {cs:List AV} (T:TysR P) (h:Typ P (n+3) 71 cs):∃ s:Plot,mkV P 71 cs=cL s∧s.name.size<9223372036854775808:=by
 obtain ⟨e,a,b,rfl,h1,c,d,rfl,h2,c2,d2,rfl,h3,rfl⟩:=sP T.plot h
 obtain ⟨x,rfl,hx⟩:=OF T.str h1
 obtain ⟨y,rfl⟩:=BC T.int T.span h2
 obtain ⟨z,rfl,_⟩:=fJ T.int h3
 exact ⟨⟨x,y,z⟩,e,by simp only [maxLen] at hx;simp only;omega⟩
theorem W1 {n:Nat} {cs:List AV} (T:TysR P) (h:Typ P (n+2) 24 cs):∃ s:Span,mkV P 24 cs=bC s∧True:=by
 obtain ⟨e,a,b,rfl,h1,c,d,rfl,h2,rfl⟩:=sP T.span h
 obtain ⟨x,rfl,_⟩:=fJ T.int h1
 obtain ⟨y,rfl,_⟩:=fJ T.int h2
 exact ⟨⟨x,y⟩,e,trivial⟩
theorem YE {n:Nat} {cs:List AV} (T:TysR P) (h:Typ P (n+2) 175 cs):∃ s:Look,mkV P 175 cs=encLook s∧True:=by
 obtain ⟨e,a,b,rfl,h1,c,d,rfl,h2,c2,d2,rfl,h3,rfl⟩:=sP T.look h
 obtain ⟨x,rfl,_⟩:=fJ T.int h1
 obtain ⟨y,rfl,_⟩:=fJ T.int h2
 obtain ⟨z,rfl,_⟩:=fJ T.int h3
 exact ⟨⟨x,y,z⟩,e,trivial⟩
theorem ty_farm {n:Nat} {cs:List AV} (T:TysR P) (h:Typ P (n+5) 28 cs):∃ s:Farm,mkV P 28 cs=encFarm s∧Fits s:=by
 obtain ⟨e,a1,b1,rfl,h1,a2,b2,rfl,h2,a3,b3,rfl,h3,a4,b4,rfl,h4,a5,b5,rfl,h5,a6,b6,rfl,h6,rfl⟩:=sP T.farm h
 obtain ⟨x1,rfl,⟨l1,_⟩,_⟩:=mC T.rain h1 fun y hy=>W1 T hy
 obtain ⟨x2,rfl,_⟩:=fJ T.int h2
 obtain ⟨x3,rfl,_⟩:=fJ T.int h3
 obtain ⟨x4,rfl⟩:=BC T.int T.span h4
 obtain ⟨x5,rfl,⟨l5,_⟩,q5⟩:=mC T.plots h5 fun y hy=>W5 T hy
 obtain ⟨x6,rfl,⟨l6,_⟩,_⟩:=mC T.looks h6 fun y hy=>YE T hy
 exact ⟨⟨x1,x2,x3,x4,x5,x6⟩,e,⟨l1,l5,l6,q5⟩⟩
theorem aB7 {n:Nat} {cs:List AV} (T:TysR P) (h:Typ P (n+3) 56 cs):∃ s:Ro.Setting,mkV P 56 cs=Ro.encSetting s∧s.name.size<9223372036854775808:=by
 obtain ⟨e,a,b,rfl,h1,c,d,rfl,h2,rfl⟩:=sP T.set h
 obtain ⟨x,rfl,hx⟩:=OF T.str h1
 obtain ⟨y,rfl⟩:=BC T.int T.span h2
 exact ⟨⟨x,y⟩,e,by simp only [maxLen] at hx;simp only;omega⟩
theorem RX {n:Nat} {cs:List AV} (T:TysR P) (h:Typ P (n+2) 178 cs):∃ s:Ro.Look,mkV P 178 cs=Ro.encLook s∧True:=by
 obtain ⟨e,a,b,rfl,h1,c,d,rfl,h2,rfl⟩:=sP T.rlook h
 obtain ⟨x,rfl,_⟩:=fJ T.int h1
 obtain ⟨y,rfl,_⟩:=fJ T.int h2
 exact ⟨⟨x,y⟩,e,trivial⟩
theorem ty_room {n:Nat} {cs:List AV} (T:TysR P) (h:Typ P (n+5) 33 cs):∃ r:Ro.Rm,mkV P 33 cs=Ro.encRoom r∧Ro.Fits r:=by
 obtain ⟨e,a1,b1,rfl,h1,a2,b2,rfl,h2,a3,b3,rfl,h3,a4,b4,rfl,h4,a5,b5,rfl,h5,a6,b6,rfl,h6,rfl⟩:=sP T.room h
 obtain ⟨x1,rfl,_⟩:=fJ T.int h1
 obtain ⟨x2,rfl⟩:=BC T.int T.span h2
 obtain ⟨x3,rfl,⟨l3,_⟩,q3⟩:=mC T.sets h3 fun y hy=>aB7 T hy
 obtain ⟨x4,rfl,_⟩:=fJ T.int h4
 obtain ⟨x5,_,rfl,l5⟩:=XD T.int T.ints h5
 obtain ⟨x6,rfl,⟨l6,_⟩,_⟩:=mC T.rlooks h6 fun y hy=>RX T hy
 exact ⟨⟨x1,x2,x3,x4,x5,x6⟩,e,⟨l3,l5,l6,q3⟩⟩
theorem G6 {x:Int} (h:0≤x∧x<256):∃ k:Nat,x=k∧k<256:=⟨x.toNat,by omega,by omega⟩
theorem ty_rip {n:Nat} {cs:List AV} (T:TysR P) (h:Typ P (n+3) 36 cs) :
  ∃ (p c d k:Nat) (l:List Int),mkV P 36 cs = .agg [.int .u8 p,.int .u8 c,.int .u8 d,.int .u8 k,u8s l]∧p<256∧c<256∧d<256∧k<256∧B7 l:=by
 obtain ⟨e,a1,b1,rfl,h1,a2,b2,rfl,h2,a3,b3,rfl,h3,a4,b4,rfl,h4,a5,b5,rfl,h5,rfl⟩:=sP T.rip h
 obtain ⟨x1,rfl,w1⟩:=fJ T.u8 h1
 obtain ⟨x2,rfl,w2⟩:=fJ T.u8 h2
 obtain ⟨x3,rfl,w3⟩:=fJ T.u8 h3
 obtain ⟨x4,rfl,w4⟩:=fJ T.u8 h4
 obtain ⟨x5,rfl,⟨l5,_⟩,q5⟩:=mC (f:=fun x:Int=>AV.int .u8 x) T.u8s h5 fun y hy=>aF3 T.u8 hy
 obtain ⟨p,rfl,g1⟩:=G6 (J0 w1)
 obtain ⟨c,rfl,g2⟩:=G6 (J0 w2)
 obtain ⟨d,rfl,g3⟩:=G6 (J0 w3)
 obtain ⟨k,rfl,g4⟩:=G6 (J0 w4)
 exact ⟨p,c,d,k,x5,e,g1,g2,g3,g4,q5,l5⟩
end Go.Am.Room.Fa
set_option maxRecDepth 8000
namespace Go.Am.Room.Fa
def dD:=And.intro @cC (And.intro @aK (And.intro @cE (And.intro @encLook_eq (And.intro @aC (And.intro @cS (And.intro @S_mapLook (And.intro @cT (And.intro @bI (@List.length_append.{0})))))))))
set_option maxHeartbeats 1000000 in
theorem awake_ok:cN T 12 [] (.bool true):=by
 refine aQ (af:=a12) rfl (by simp [a12]) bF ?_
 (repeat (first|simp only [↓QA,QB,seval,dD,a12]|refine rd0 rfl ?_))
 refine bJ (yS []) (by simp [clr,clrs]) (by simp [okV,okVs]) ?_
 (repeat (first|simp only [↓QA,QB,seval,dD]|refine rd0 rfl ?_))
 ((first|refine aE (u3 1 3 2) rfl dd ?_|refine aG (u3 1 3 2) rfl dd ?_);(repeat (first|simp only [↓QA,QB,seval,dD]|refine rd0 rfl ?_)))
 refine bJ (yS [⟨1,3,2⟩]) (by simp [clr,clrs,encLook]) (by simp [okV,okVs]) ?_
 (repeat (first|simp only [↓QA,QB,seval,dD]|refine rd0 rfl ?_))
 ((first|refine aE (u3 1 3 2) rfl dd ?_|refine aG (u3 1 3 2) rfl dd ?_);(repeat (first|simp only [↓QA,QB,seval,dD]|refine rd0 rfl ?_)))
 ((first|refine aE (u3 0 1 3) rfl dd ?_|refine aG (u3 0 1 3) rfl dd ?_);(repeat (first|simp only [↓QA,QB,seval,dD]|refine rd0 rfl ?_)))
 refine bJ (yS [⟨1,3,2⟩,⟨0,1,3⟩]) (by simp [clr,clrs,encLook]) (by simp [okV,okVs]) ?_
 (repeat (first|simp only [↓QA,QB,seval,dD]|refine rd0 rfl ?_))
 ((first|refine aE (n6 (exF []) 1 4 (dP _)) rfl dd ?_|refine aG (n6 (exF []) 1 4 (dP _)) rfl dd ?_);(repeat (first|simp only [↓QA,QB,seval,dD,x1,iA]|refine rd0 rfl ?_)))
 ((first|refine aE (n6 exL 1 4 (dP _)) rfl dd ?_|refine aG (n6 exL 1 4 (dP _)) rfl dd ?_);(repeat (first|simp only [↓QA,QB,seval,dD,x2,iA]|refine rd0 rfl ?_)))
 ((first|refine aE (A4 (exF []) 0 4 (dP _)) rfl dd ?_|refine aG (A4 (exF []) 0 4 (dP _)) rfl dd ?_);(repeat (first|simp only [↓QA,QB,seval,dD,x3,tF]|refine rd0 rfl ?_)))
 ((first|refine aE (A4 (exF []) 0 3 (dP _)) rfl dd ?_|refine aG (A4 (exF []) 0 3 (dP _)) rfl dd ?_);(repeat (first|simp only [↓QA,QB,seval,dD,x4,tF]|refine rd0 rfl ?_)))
 ((first|refine aE (JC (exF []) 0 (dP _)) rfl dd ?_|refine aG (JC (exF []) 0 (dP _)) rfl dd ?_);(repeat (first|simp only [↓QA,QB,seval,dD,x5,pW]|refine rd0 rfl ?_)))
 ((first|refine aE (xV (exF []) 0 (dP _)) rfl dd ?_|refine aG (xV (exF []) 0 (dP _)) rfl dd ?_);(repeat (first|simp only [↓QA,QB,seval,dD,x6,tF]|refine rd0 rfl ?_)))
 ((first|refine aE (uI (exF []) 4 50 (dP _)) rfl dd ?_|refine aG (uI (exF []) 4 50 (dP _)) rfl dd ?_);(repeat (first|simp only [↓QA,QB,seval,dD,x7,pW]|refine rd0 rfl ?_)))
 ((first|refine aE (uI (exF []) 4 80 (dP _)) rfl dd ?_|refine aG (uI (exF []) 4 80 (dP _)) rfl dd ?_);(repeat (first|simp only [↓QA,QB,seval,dD,x8,pW]|refine rd0 rfl ?_)))
 ((first|refine aE (CK exL 1 (dP _)) rfl dd ?_|refine aG (CK exL 1 (dP _)) rfl dd ?_);(repeat (first|simp only [↓QA,QB,seval,dD,x9,iA]|refine rd0 rfl ?_)))
 ((first|refine aE (xO exL 1 (dP _)) rfl dd ?_|refine aG (xO exL 1 (dP _)) rfl dd ?_);(repeat (first|simp only [↓QA,QB,seval,dD,x10,iJ]|refine rd0 rfl ?_)))
 ((first|refine aE (qX exW (dP _)) rfl dd ?_|refine aG (qX exW (dP _)) rfl dd ?_);(repeat (first|simp only [↓QA,QB,seval,dD,x11,iJ]|refine rd0 rfl ?_)))
 ((first|refine aE (xV exW 0 (dP _)) rfl dd ?_|refine aG (xV exW 0 (dP _)) rfl dd ?_);(repeat (first|simp only [↓QA,QB,seval,dD,x12,tF]|refine rd0 rfl ?_)))
 ((first|refine aE (bL 3 6) rfl dd ?_|refine aG (bL 3 6) rfl dd ?_);(repeat (first|simp only [↓QA,QB,seval,dD]|refine rd0 rfl ?_)))
 ((first|refine aE (bL 4 5) rfl dd ?_|refine aG (bL 4 5) rfl dd ?_);(repeat (first|simp only [↓QA,QB,seval,dD]|refine rd0 rfl ?_)))
 ((first|refine bJ (fR [4] [4] (by simp) (by simp)) (by simp [clr,clrs,ints]) (by simp [okV,okVs]) ?_|refine cP (fR [4] [4] (by simp) (by simp)) (by simp [clr,clrs,ints]) (by simp [okV,okVs]) ?_);(repeat (first|simp only [↓QA,QB,seval,dD,eq_self]|refine rd0 rfl ?_)))
 ((first|refine bJ (fR [4,5] [4,5] (by simp) (by simp)) (by simp [clr,clrs,ints]) (by simp [okV,okVs]) ?_|refine cP (fR [4,5] [4,5] (by simp) (by simp)) (by simp [clr,clrs,ints]) (by simp [okV,okVs]) ?_);(repeat (first|simp only [↓QA,QB,seval,dD,eq_self]|refine rd0 rfl ?_)))
 ((first|refine bJ (fR [0,1] [0,1] (by simp) (by simp)) (by simp [clr,clrs,ints]) (by simp [okV,okVs]) ?_|refine cP (fR [0,1] [0,1] (by simp) (by simp)) (by simp [clr,clrs,ints]) (by simp [okV,okVs]) ?_);(repeat (first|simp only [↓QA,QB,seval,dD,eq_self]|refine rd0 rfl ?_)))
 ((first|refine bJ (fR [1] [1] (by simp) (by simp)) (by simp [clr,clrs,ints]) (by simp [okV,okVs]) ?_|refine cP (fR [1] [1] (by simp) (by simp)) (by simp [clr,clrs,ints]) (by simp [okV,okVs]) ?_);(repeat (first|simp only [↓QA,QB,seval,dD,eq_self]|refine rd0 rfl ?_)))
 ((first|refine aE (bL 0 0) rfl dd ?_|refine aG (bL 0 0) rfl dd ?_);(repeat (first|simp only [↓QA,QB,seval,dD]|refine rd0 rfl ?_)))
 ((first|refine bJ (fR [1] [1] (by simp) (by simp)) (by simp [clr,clrs,ints]) (by simp [okV,okVs]) ?_|refine cP (fR [1] [1] (by simp) (by simp)) (by simp [clr,clrs,ints]) (by simp [okV,okVs]) ?_);(repeat (first|simp only [↓QA,QB,seval,dD,eq_self]|refine rd0 rfl ?_)))
 ((first|refine bJ (fR [1] [1] (by simp) (by simp)) (by simp [clr,clrs,ints]) (by simp [okV,okVs]) ?_|refine cP (fR [1] [1] (by simp) (by simp)) (by simp [clr,clrs,ints]) (by simp [okV,okVs]) ?_);(repeat (first|simp only [↓QA,QB,seval,dD,eq_self]|refine rd0 rfl ?_)))
end Go.Am.Room.Fa
set_option maxRecDepth 4000
namespace Go.Am.Room.Ro
def c8:=And.intro @gT (And.intro @dY (And.intro @eC (And.intro @dS (And.intro @dR (And.intro @Nat.mul_one (And.intro @Int.toNat_natCast (And.intro @encRoom_eq (And.intro @roomCells_eq (And.intro @encSetting_eq (And.intro @encLook_eq (And.intro @aC (And.intro @jI (And.intro @Nat.add_lt_add_iff_left (And.intro @Nat.lt_add_right_iff_pos (And.intro @bI (@List.length_append.{0}))))))))))))))))
theorem lE (n:Int):cN T 386 [.int .i64 n] (.bool false):=by
 refine aQ (af:=a386) rfl (by simp [a386]) dd ?_
 (repeat (first|simp only [↓QA,QB,seval,c8,a386]|refine rd0 rfl ?_))
 try simp
def pA (a b:Int):Int:=if a<b then -1 else if b<a then 1 else 0
theorem BT (a b:Int):cN T 254 [.int .i64 a,.int .i64 b] (.int .i64 (pA a b)):=by
 refine aQ (af:=a254) rfl (by simp [a254]) dd ?_
 (repeat (first|simp only [↓QA,QB,seval,c8,a254]|refine rd0 rfl ?_))
 ((first|refine aE (lE a) rfl dd ?_|refine aG (lE a) rfl dd ?_);(repeat (first|simp only [↓QA,QB,seval,c8]|refine rd0 rfl ?_)))
 ((first|refine aE (lE b) rfl dd ?_|refine aG (lE b) rfl dd ?_);(repeat (first|simp only [↓QA,QB,seval,c8]|refine rd0 rfl ?_)))
 cases h1:decide (a<b)
 ·have h1':¬a<b:=by simpa using h1
  (repeat (first|simp only [↓QA,QB,seval,c8]|refine rd0 rfl ?_))
  cases h2:decide (b<a)
  ·have h2':¬b<a:=by simpa using h2
   (repeat (first|simp only [↓QA,QB,seval,c8]|refine rd0 rfl ?_))
   simp [pA,h1',h2']
  ·have h2':b<a:=by simpa using h2
   (repeat (first|simp only [↓QA,QB,seval,c8]|refine rd0 rfl ?_))
   simp [pA,h1',h2']
 ·have h1':a<b:=by simpa using h1
  (repeat (first|simp only [↓QA,QB,seval,c8]|refine rd0 rfl ?_))
  simp [pA,h1']
def oJ:List Int→List Int→Int
 |[],[]=>0
 |[],_::_=>-1
 |_::_,[]=>1
 |a::az,b::bs=>if pA a b=0 then oJ az bs else pA a b
theorem qZ:∀ a b:List Int,decide (0<oJ a b)=less b a
 |[],[]=>rfl
 |[],b::bs=>rfl
 |a::az,[]=>rfl
 |a::az,b::bs=>by
  have ih:=qZ az bs
  simp only [oJ,less,pA]
  by_cases h1:a<b
  ·simp [h1,show ¬b=a by omega];omega
  ·by_cases h2:b<a
   ·simp [h1,h2,show ¬b=a by omega]
   ·have:b=a:=by omega
    subst this
    simp [ih]
theorem sM (a b:List Int) (ha:a.length<9223372036854775808) (hb:b.length<9223372036854775808):cN T 118 [ints a,ints b] (.int .i64 (oJ a b)):=by
 refine aQ (af:=a118) rfl (by simp [a118]) dd ?_
 (repeat (first|simp only [↓QA,QB,seval,c8,a118]|refine rd0 rfl ?_))
 refine bU (S:=Nat) 0 (fun k=>k≤a.length∧k≤b.length∧oJ (a.drop k) (b.drop k)=oJ a b) (fun k=>a.length-k) (fun k=>[(0,ints a),(1,ints b),(9,ints a),(10,.int .i64 a.length),(11,.int .i64 k)]) (fun _=>[]) ⟨by simp,by simp,by simp⟩ rfl ?_ fun k hk=>?_
 ·try simp only [aF,QE,seval,c8]
  try simp
 ·obtain ⟨hk,hkb,hq⟩:=hk
  (repeat (first|simp only [↓QA,QB,seval,c8,MT]|refine rd0 rfl ?_))
  refine aJ (fun h=>?_) fun h=>?_
  ·have hk1:k<a.length:=by simpa using h
   have hw:=b7 hk1 ha
   rw [List.drop_eq_getElem_cons hk1] at hq
   (repeat (first|simp only [↓QA,QB,seval,c8,hk1]|refine rd0 rfl ?_))
   refine aJ (fun h2=>?_) fun h2=>?_
   ·have hk2:k=b.length:=by simp at h2;omega
    have hd:b.drop k=[]:=by rw [hk2,List.drop_length]
    rw [hd] at hq
    simp only [oJ] at hq
    (repeat (first|simp only [↓QA,QB,seval,c8,hk1,←hq]|refine rd0 rfl ?_))
   ·have hk2:k<b.length:=by simp at h2;omega
    rw [List.drop_eq_getElem_cons hk2] at hq
    simp only [oJ] at hq
    (repeat (first|simp only [↓QA,QB,seval,c8,hk1,hk2]|refine rd0 rfl ?_))
    ((first|refine aE (BT a[k] b[k]) rfl dd ?_|refine aG (BT a[k] b[k]) rfl dd ?_);(repeat (first|simp only [↓QA,QB,seval,c8,hk1,hk2]|refine rd0 rfl ?_)))
    cases h3:(pA a[k] b[k]==0)
    ·have h3':pA a[k] b[k]≠0:=by simpa using h3
     rw [if_neg h3'] at hq
     (repeat (first|simp only [↓QA,QB,seval,c8,h3,hk1,hk2,hq]|refine rd0 rfl ?_))
    ·have h3':pA a[k] b[k]=0:=by simpa using h3
     rw [if_pos h3'] at hq
     (repeat (first|simp only [↓QA,QB,seval,c8,h3,hk1,hk2]|refine rd0 rfl ?_))
     refine ⟨k+1,⟨by omega,by omega,hq⟩,by omega,?_⟩
     try simp only [aF,QE,seval,c8,hw]
  ·have hk1:k=a.length:=by simp at h;omega
   rw [hk1,List.drop_length] at hq
   (repeat (first|simp only [↓QA,QB,seval,c8]|refine rd0 rfl ?_))
   refine aJ (fun h2=>?_) fun h2=>?_
   ·have hk2:a.length<b.length:=by simpa using h2
    rw [List.drop_eq_getElem_cons hk2] at hq
    (repeat (first|simp only [↓QA,QB,seval,c8,←hq,oJ]|refine rd0 rfl ?_))
   ·have hk2:a.length=b.length:=by simp at h2;omega
    rw [hk2,List.drop_length] at hq
    (repeat (first|simp only [↓QA,QB,seval,c8,←hq,oJ]|refine rd0 rfl ?_))
theorem YT (s n:Nat) (hs:s<9223372036854775808) (hn:n≤60):cN T 231 [.int .i64 s,.int .i64 n] (ints (lst n s)):=by
 refine aQ (af:=a231) rfl (by simp [a231]) dd ?_
 (repeat (first|simp only [↓QA,QB,seval,c8,a231]|refine rd0 rfl ?_))
 obtain ⟨R,hRR⟩:∃ R,lst n s=R:=⟨_,rfl⟩
 have hRR':[]++(aP ((0:Nat):Int) (n-0)).filter (fun i=>decide (s/2^i.toNat%2=1))=R:=hRR
 rw [hRR]
 refine oK 4 1 [] rfl ?_
 refine bU (S:=Nat×List Int×Bool) (0,[],false) (fun x=>x.1≤n∧x.2.1.length≤x.1∧x.2.1++(aP (x.1:Int) (n-x.1)).filter (fun i=>decide (s/2^i.toNat%2=1))=R) (fun x=>n-x.1)
  (fun x=>[(0,.int .i64 s),(4,.lit (x.2.1.map (.int .i64)) false (some 0)),(6,.int .i64 n),(7,.int .i64 x.1)]) (fun x=>[.tok 1 x.2.1.length x.2.2]) ⟨by simp,by simp,hRR'⟩ rfl ?_ fun x hx=>?_
 ·try simp only [aF,QE,seval,c8]
  try simp
 ·obtain ⟨k,acc,ex⟩:=x
  obtain ⟨hk,hal,hacc⟩:=hx
  simp only at hk hal hacc
  (repeat (first|simp only [↓QA,QB,seval,c8,R6]|refine rd0 rfl ?_))
  refine aJ (fun h=>?_) fun h=>?_
  ·have hk1:k<n:=by simpa using h
   have hw:=b7 hk1 (by omega)
   rw [show n-k=(n-(k+1))+1 by omega] at hacc
   simp only [aP,List.filter_cons,Int.toNat_natCast] at hacc
   rw [show ((k:Int)+1)=((k+1:Nat):Int) by omega] at hacc
   have vs:=JK s k (by omega)
   have va:=C2 (s/2^k) (Nat.lt_of_le_of_lt (Nat.div_le_self _ _) hs)
   have hbit:(((s/2^k%2:Nat):Int)==1)=decide (s/2^k%2=1):=by
    generalize s/2^k%2=q
    rw [Bool.eq_iff_iff,beq_iff_eq,decide_eq_true_eq];omega
   (repeat (first|simp only [↓QA,QB,seval,c8,vs,va,hbit]|refine rd0 rfl ?_))
   cases hb:decide (s/2^k%2=1)
   ·simp only [hb,Bool.false_eq_true,if_false] at hacc
    (repeat (first|simp only [↓QA,QB,seval,c8,hw]|refine rd0 rfl ?_))
    refine ⟨(k+1,acc,ex),⟨by simp only;omega,by simp only;omega,by simpa using hacc⟩,by simp only;omega,?_⟩
    try simp only [aF,QE,seval,c8,hw,gL]
    try simp [aT]
   ·simp only [hb,if_true] at hacc
    have hap:=fun (τ:St)=>iG (σ:=.tok 1 acc.length ex::τ) (l:=acc) (a:=(k:Int)) (ex:=ex) (t:=0) (by omega) rfl
    (repeat (first|simp only [↓QA,QB,seval,c8,hw,hap]|refine rd0 rfl ?_))
    refine ⟨(k+1,acc++[(k:Int)],true),⟨by simp only;omega,by simp only [List.length_append,List.length_cons,List.length_nil];omega,by
     rw [←hacc];simp⟩,by simp only;omega,?_⟩
    try simp only [aF,QE,seval,c8,hw,gL,List.map_append,List.map_cons,List.map_nil]
    try simp [aT]
  ·have hk1:k=n:=by simp at h;omega
   rw [hk1] at hacc
   simp only [Nat.sub_self,aP,List.filter_nil,List.append_nil] at hacc
   (repeat (first|simp only [↓QA,QB,seval,c8,hacc,ints]|refine rd0 rfl ?_))
end Go.Am.Room.Ro
set_option maxRecDepth 4000
namespace Go.Am.Room.Ro
def cU:=And.intro @gT (And.intro @dY (And.intro @eC (And.intro @dS (And.intro @dR (And.intro @Nat.mul_one (And.intro @Int.toNat_natCast (And.intro @encRoom_eq (And.intro @roomCells_eq (And.intro @encSetting_eq (And.intro @encLook_eq (And.intro @aC (And.intro @jI (And.intro @Nat.add_lt_add_iff_left (And.intro @Nat.lt_add_right_iff_pos (And.intro @bI (@List.length_append.{0}))))))))))))))))
theorem y9 (n:Nat) (h:n≤8):d7 .shl (.int .i64 1) (.int .i64 (n:Int))=some (.int .i64 ((2^n:Nat):Int)):=by
 have hm:Nat.min n 64=n:=Nat.min_eq_left (by omega)
 have h0:¬(n:Int)<0:=by omega
 have hp:2^n≤2^8:=Nat.pow_le_pow_right (by omega) h
 have hc:(1:Int)*2^n=((2^n:Nat):Int):=by rw [Int.one_mul,Int.natCast_pow];rfl
 simp only [d7,h0,if_false,IntKind.bits,Int.toNat_natCast,hm,Option.some.injEq,AV.int.injEq,true_and]
 rw [hc]
 generalize 2^n=q at hp
 exact aX ⟨by omega,by omega⟩
theorem XJ:∀ n:Fin 5,∀ s:Fin 16,s.val<2^n.val→∀ i:Fin 4,i.val<n.val→(((s.val/2^i.val%2:Nat):Int)==0) = !(lst n s).contains (i.val:Int):=by decide +kernel
theorem UJ:∀ n:Fin 5,∀ s:Fin 16,s.val<2^n.val→∀ i:Fin 4,n.val≤i.val→(((s.val/2^i.val%2:Nat):Int)==0) = !(lst n s).contains (i.val:Int):=by decide +kernel
theorem GO {n s:Nat} (hn:n≤4) (hs:s<2^n):ButIs s (lst n s):=by
 have hp:2^n≤2^4:=Nat.pow_le_pow_right (by omega) hn
 refine ⟨by omega,fun i hi=>?_⟩
 by_cases h:i<n
 ·exact XJ ⟨n,by omega⟩ ⟨s,by omega⟩ hs ⟨i,hi⟩ h
 ·exact UJ ⟨n,by omega⟩ ⟨s,by omega⟩ hs ⟨i,hi⟩ (by simp only;omega)
theorem qX (r:Rm) (hf:Fits r):cN T 88 [encRoom r] (iJ (lB r)):=by
 refine aQ (af:=a88) rfl (by simp [a88]) dd ?_
 (repeat (first|simp only [↓QA,QB,seval,cU,a88]|refine rd0 rfl ?_))
 ((first|refine aE (jG r hf) rfl dd ?_|refine aG (jG r hf) rfl dd ?_);(repeat (first|simp only [↓QA,QB,seval,cU,enc3]|refine rd0 rfl ?_)))
 cases h0:((check r).2.2==0)
 ·have h0':(check r).2.2≠0:=by simpa using h0
  have hwo:lB r=([],(check r).2.2):=if_neg h0'
  rw [hwo]
  (repeat (first|simp only [↓QA,QB,seval,cU,h0,iJ]|refine rd0 rfl ?_))
  try rfl
 ·have h0':(check r).2.2=0:=by simpa using h0
  have hwo:lB r=(eW r r.looks.length 0,0):=if_pos h0'
  rw [hwo]
  have hv:=vd_of_check h0'
  have hll:=hv.looksLen
  have hwe:=TV hv
  obtain ⟨N,hN⟩:∃ N,r.looks.length=N:=⟨_,rfl⟩
  rw [hN] at hwe hll ⊢
  obtain ⟨W,hW⟩:∃ W,eW r N 0=W:=⟨_,rfl⟩
  rw [hW] at hwe ⊢
  have hp:2^N≤2^4:=Nat.pow_le_pow_right (by omega) hll
  have hshl:=y9 N (by omega)
  obtain ⟨P,hP⟩:∃ P,2^N=P:=⟨_,rfl⟩
  rw [hP] at hp hshl hwe
  (repeat (first|simp only [↓QA,QB,seval,cU,h0,hN,hshl]|refine rd0 rfl ?_))
  refine bU (S:=Nat×Option (List Int)) (0,none) (fun x=>x.1≤P∧rP r N (P-x.1) x.1 x.2=some W∧(x.2.getD []).length≤N) (fun x=>P-x.1)
   (fun x=>[(1,.ptr 0 0),(2,ints (x.2.getD [])),(3,.int .i64 0),(4,.bool x.2.isSome),(21,.int .i64 P),(22,.int .i64 x.1)]) (fun _=>[.cells (aI r)]) ⟨by simp,by simpa using hwe,by simp⟩ (by simp [aI,ints]) ?_ fun x hx=>?_
  ·try simp only [aF,QE,seval,cU,ints]
   try simp [clr,clrs,h0']
  ·obtain ⟨s,o⟩:=x
   obtain ⟨hs,hq,hol⟩:=hx
   simp only at hs hq hol
   (repeat (first|simp only [↓QA,QB,seval,cU,Z7,hN]|refine rd0 rfl ?_))
   refine aJ (fun h=>?_) fun h=>?_
   ·have hs1:s<P:=by simpa using h
    have hw:=b7 hs1 (by omega)
    have hlen:=rG N s
    have hbut:=GO hll (by rw [hP];exact hs1)
    rw [show P-s=(P-(s+1))+1 by omega] at hq
    simp only [rP] at hq
    obtain ⟨L,hL⟩:∃ L,lst N s=L:=⟨_,rfl⟩
    rw [hL] at hq hlen hbut
    have hlo:=YT s N (by omega) (by omega)
    rw [hL] at hlo
    (repeat (first|simp only [↓QA,QB,seval,cU,hN,Option.getD_some]|refine rd0 rfl ?_))
    ((first|refine aE (hlo) rfl dd ?_|refine aG (hlo) rfl dd ?_);(repeat (first|simp only [↓QA,QB,seval,cU,hN]|refine rd0 rfl ?_)))
    cases o with
    |none =>
     have hst:kG r none L=if bQ r L=true then some L else none:=rfl
     (repeat (first|simp only [↓QA,QB,seval,cU,hN,Option.isSome_none,Option.getD_none]|refine rd0 rfl ?_))
     refine .mono (yB _ r s L hv hbut) fun o2 ho2=>?_
     obtain ⟨ps,hov,hoσ,_⟩:=ho2
     rw [hov,hoσ]
     cases hsm:bQ r L
     ·rw [hsm] at hst
      simp only [Bool.false_eq_true,if_false] at hst
      (repeat (first|simp only [↓QA,QB,seval,cU,k7,hw,List.length_append]|refine rd0 rfl ?_))
      refine ⟨(s+1,none),⟨by simp only;omega,by rw [hst] at hq;exact hq,by simp only;first|exact hol|simp⟩,by simp only;omega,?_⟩
      try simp only [aF,QE,seval,cU,hw,gL]
      try simp [aT,ints]
     ·rw [hsm] at hst
      simp only [if_true] at hst
      (repeat (first|simp only [↓QA,QB,seval,cU,k7,hw,List.length_append]|refine rd0 rfl ?_))
      refine ⟨(s+1,some L),⟨by simp only;omega,by rw [hst] at hq;exact hq,by simpa using hlen⟩,by simp only;omega,?_⟩
      try simp only [aF,QE,seval,cU,hw,gL]
      try simp [aT,ints]
    |some b =>
     simp only [Option.getD_some] at hol
     simp only [Option.isSome_some,yY]
     (repeat (first|simp only [↓QA,QB,seval,cU,hN,Option.isSome_some,Option.getD_some]|refine rd0 rfl ?_))
     cases h1:decide ((b.length:Int)<(L.length:Int))
     ·have h1':¬b.length<L.length:=by simpa using h1
      (repeat (first|simp only [↓QA,QB,seval,cU,hN,Option.getD_some]|refine rd0 rfl ?_))
      cases h2:((L.length:Int)==(b.length:Int))
      ·have h2':¬b.length=L.length:=by intro h;rw [h] at h2;simp at h2
       have hst:kG r (some b) L=if bQ r L=true then some L else some b:=by
        have:bD b L=false:=by simp [bD,h1',h2']
        simp only [kG,this];rfl
       (repeat (first|simp only [↓QA,QB,seval,cU,hN,Option.getD_some]|refine rd0 rfl ?_))
       refine .mono (yB _ r s L hv hbut) fun o2 ho2=>?_
       obtain ⟨ps,hov,hoσ,_⟩:=ho2
       rw [hov,hoσ]
       cases hsm:bQ r L
       ·rw [hsm] at hst
        simp only [Bool.false_eq_true,if_false] at hst
        (repeat (first|simp only [↓QA,QB,seval,cU,k7,hw,List.length_append]|refine rd0 rfl ?_))
        refine ⟨(s+1,some b),⟨by simp only;omega,by rw [hst] at hq;exact hq,by simp only;first|exact hol|simp⟩,by simp only;omega,?_⟩
        try simp only [aF,QE,seval,cU,hw,gL]
        try simp [aT,ints]
       ·rw [hsm] at hst
        simp only [if_true] at hst
        (repeat (first|simp only [↓QA,QB,seval,cU,k7,hw,List.length_append]|refine rd0 rfl ?_))
        refine ⟨(s+1,some L),⟨by simp only;omega,by rw [hst] at hq;exact hq,by simpa using hlen⟩,by simp only;omega,?_⟩
        try simp only [aF,QE,seval,cU,hw,gL]
        try simp [aT,ints]
      ·have h2':b.length=L.length:=by simp at h2;omega
       (repeat (first|simp only [↓QA,QB,seval,cU,hN,Option.getD_some]|refine rd0 rfl ?_))
       ((first|refine aE (sM L b (by omega) (by omega)) rfl dd ?_|refine aG (sM L b (by omega) (by omega)) rfl dd ?_);(repeat (first|simp only [↓QA,QB,seval,cU,qZ,hN,Option.getD_some]|refine rd0 rfl ?_)))
       cases h3:less b L
       ·have hst:kG r (some b) L=if bQ r L=true then some L else some b:=by
         have:bD b L=false:=by simp [bD,h2',h3]
         simp only [kG,this];rfl
        (repeat (first|simp only [↓QA,QB,seval,cU,hN,Option.getD_some]|refine rd0 rfl ?_))
        refine .mono (yB _ r s L hv hbut) fun o2 ho2=>?_
        obtain ⟨ps,hov,hoσ,_⟩:=ho2
        rw [hov,hoσ]
        cases hsm:bQ r L
        ·rw [hsm] at hst
         simp only [Bool.false_eq_true,if_false] at hst
         (repeat (first|simp only [↓QA,QB,seval,cU,k7,hw,List.length_append]|refine rd0 rfl ?_))
         refine ⟨(s+1,some b),⟨by simp only;omega,by rw [hst] at hq;exact hq,by simp only;first|exact hol|simp⟩,by simp only;omega,?_⟩
         try simp only [aF,QE,seval,cU,hw,gL]
         try simp [aT,ints]
        ·rw [hsm] at hst
         simp only [if_true] at hst
         (repeat (first|simp only [↓QA,QB,seval,cU,k7,hw,List.length_append]|refine rd0 rfl ?_))
         refine ⟨(s+1,some L),⟨by simp only;omega,by rw [hst] at hq;exact hq,by simpa using hlen⟩,by simp only;omega,?_⟩
         try simp only [aF,QE,seval,cU,hw,gL]
         try simp [aT,ints]
       ·have hst:kG r (some b) L=some b:=by
         have:bD b L=true:=by simp [bD,h2',h3]
         simp only [kG,this,if_true]
        (repeat (first|simp only [↓QA,QB,seval,cU,hN,hw,Option.getD_some]|refine rd0 rfl ?_))
        refine ⟨(s+1,some b),⟨by simp only;omega,by rw [hst] at hq;exact hq,hol⟩,by simp only;omega,?_⟩
        try simp only [aF,QE,seval,cU,hw,gL]
        try simp [aT,ints]
     ·have h1':b.length<L.length:=by simpa using h1
      have hst:kG r (some b) L=some b:=by
       have:bD b L=true:=by simp [bD,h1',show ¬b.length=L.length by omega]
       simp only [kG,this,if_true]
      (repeat (first|simp only [↓QA,QB,seval,cU,hN,hw,Option.getD_some]|refine rd0 rfl ?_))
      refine ⟨(s+1,some b),⟨by simp only;omega,by rw [hst] at hq;exact hq,hol⟩,by simp only;omega,?_⟩
      try simp only [aF,QE,seval,cU,hw,gL]
      try simp [aT,ints]
   ·have hs1:s=P:=by simp at h;omega
    rw [hs1,Nat.sub_self] at hq
    simp only [rP] at hq
    subst hq
    (repeat (first|simp only [↓QA,QB,seval,cU,iJ,Option.getD_some]|refine rd0 rfl ?_))
def RS (r:Rm) (but:List Int):Bool:=(fwd r but r.ran.length).isSome
def pQ (r:Rm) (e:Int):Int:=if e=0 then (if RS r []=true then 0 else 8) else e
theorem yI {r:Rm} {e:Int} (h:e=0→Vd r):aZ r e=pQ r e:=by
 simp only [aZ,pQ]
 split
 ·rename_i h0;rw [k9 (h h0)];rfl
 ·rfl
def xJ (r:Rm) (day:Int):Span×Int:=if pQ r (dA r day 0 r.ran.length)=0 then (gB r day.toNat,0) else (⟨0,0⟩,pQ r (dA r day 0 r.ran.length))
theorem lY (r:Rm) (day:Int):cQ r day=xJ r day:=by
 have hk:=yI (r:=r) (e:=dA r day 0 r.ran.length) fun h=>(eV h).1
 simp only [cQ,xJ,←hk]
 split
 ·rename_i h0
  obtain ⟨h1,hs⟩:=dO h0
  rw [BE (eV h1).1]
 ·rfl
def IH (r:Rm) (day:Int):Span×Int:=if (xJ r day).2=0 then (colours (xJ r day).1,0) else (⟨0,0⟩,(xJ r day).2)
theorem DI (r:Rm) (day:Int):j2 r day=IH r day:=by simp only [j2,IH,lY]
def NT (r:Rm) (l:List Int):Span×Int:=if pQ r (kD r l)=0 then (colours (plus (gB r r.ran.length) (sumS r l)),0) else (⟨0,0⟩,pQ r (kD r l))
theorem EK (r:Rm) (l:List Int):oD r l=NT r l:=by
 simp only [oD,NT,yI (r:=r) (e:=kD r l) fun h=>(BR h).1]
def SQ (r:Rm) (day c:Int):List Int×Int×Int :=
 if pQ r (kC (dA r day r.ran.length r.days) c)=0 then (match g0 r (gB r r.ran.length) (fZ r) (day-r.ran.length).toNat c with|none=>([],0,9)|some x=>(x.1,x.2,0)) else ([],0,pQ r (kC (dA r day r.ran.length r.days) c))
theorem NM (r:Rm) (day c:Int):lS r day c=SQ r day c:=by
 simp only [lS,SQ,nX,yI (r:=r) (e:=kC (dA r day r.ran.length r.days) c) fun h=>(eV (v4 h).1).1]
 rfl
def Q8 (r:Rm) (day:Int):List Int×Int:=if pQ r (dA r day r.ran.length r.days)=0 then ((aP 1 7).filter (rJ r day),0) else ([],pQ r (dA r day r.ran.length r.days))
theorem H6 (r:Rm) (day:Int):nT r day=Q8 r day:=by
 simp only [nT,Q8,mV,yI (r:=r) (e:=dA r day r.ran.length r.days) fun h=>(eV h).1]
def rZ (r:Rm):Nat→Nat→List Int
 |0,_=>((bE r.looks.length r.looks.length)[0]?).getD []
 |k+1,m=>match (bE r.looks.length m).find? (RS r) with
  |some l=>l
  |none=>rZ r k (m+1)
theorem yC {r:Rm} (hv:Vd r):∀ k m,eW r k m=rZ r k m
 |0,m=>rfl
 |k+1,m=>by
  have e:bQ r=RS r:=by funext but;exact k9 hv but
  rw [eW,rZ,e,yC hv k (m+1)]
  rfl
def RU (r:Rm):List Int×Int:=if (check r).2.2=0 then (rZ r r.looks.length 0,0) else ([],(check r).2.2)
theorem QY (r:Rm):lB r=RU r:=by
 simp only [lB,RU]
 split
 ·rename_i h;rw [yC (vd_of_check h)]
 ·rfl
def exR (l:List Look):Rm:=⟨5,⟨3,8⟩,[⟨⟨#[99,111,111,108]⟩,⟨1,2⟩⟩,⟨⟨#[119,97,114,109]⟩,⟨5,7⟩⟩,⟨⟨#[103,97,115]⟩,⟨9,10⟩⟩],2,[1,1],l⟩
def exL:Rm:=exR [⟨1,1⟩]
def exW:Rm:=exR [⟨1,1⟩,⟨2,3⟩]
def exO:Rm:={ exL with opens:=1 }
theorem e1:cQ (exR []) 2=(⟨13,22⟩,0):=by rw [lY];decide +kernel
theorem e2:cQ exL 2=(⟨13,16⟩,0):=by rw [lY];decide +kernel
theorem e3:j2 (exR []) 2=(⟨2,3⟩,0):=by rw [DI];decide +kernel
theorem e4:cQ exL 0=(⟨3,4⟩,0):=by rw [lY];decide +kernel
theorem e5:oD exL [2]=(⟨3,3⟩,0):=by rw [EK];decide +kernel
theorem e6:lS exL 4 3=([0,2],2,0):=by rw [NM];decide +kernel
theorem e7:lS exO 4 3=([],0,9):=by rw [NM];decide +kernel
theorem e8:nT exL 3=([2,3],0):=by rw [H6];decide +kernel
theorem e9:tK (exR []) 5 4=([2],0):=by decide +kernel
theorem e10:lB exW=([0],0):=by rw [QY];decide +kernel
theorem e11:nT exW 2=([],8):=by rw [H6];decide +kernel
theorem k1:cQ (exR []) 1=(⟨8,15⟩,0):=by rw [lY];decide +kernel
theorem k2:cQ exL 1=(⟨8,9⟩,0):=by rw [lY];decide +kernel
theorem k3:j2 exL 2=(⟨2,2⟩,0):=by rw [DI];decide +kernel
theorem k4:cQ (exR []) 0=(⟨3,8⟩,0):=by rw [lY];decide +kernel
theorem k5:oD exL [1]=(⟨2,3⟩,0):=by rw [EK];decide +kernel
end Go.Am.Room.Ro
set_option maxRecDepth 8000
namespace Go.Am.Room.Ro
def pB:=And.intro @encRoom_eq (And.intro @roomCells_eq (And.intro @encSetting_eq (And.intro @encLook_eq (And.intro @aC (And.intro @bI (@List.length_append.{0}))))))
theorem bL (a b:Int):cN T 89 [.int .i64 a,.int .i64 b] (bC ⟨a,b⟩):=by
 refine aQ (af:=a89) rfl (by simp [a89]) dd ?_
 (repeat (first|simp only [↓QA,QB,seval,pB,a89]|refine rd0 rfl ?_))
theorem qH (a b:Int):cN T 81 [.int .i64 a,.int .i64 b] (encLook ⟨a,b⟩):=by
 refine aQ (af:=a81) rfl (by simp [a81]) dd ?_
 (repeat (first|simp only [↓QA,QB,seval,pB,a81]|refine rd0 rfl ?_))
theorem DJ (l:List Look):j4 (.lit (l.map encLook) false none):=fT i8 l
instance (l:List Look):Dat (.lit (l.map encLook) false none):=⟨DJ l⟩
theorem y3 (l:List Look):cN T 80 [.lit (l.map encLook) false none] (encRoom (exR l)):=by
 refine aQ (af:=a80) rfl (by simp [a80]) (a9 (DJ l) bF) ?_
 (repeat (first|simp only [↓QA,QB,seval,pB,a80]|refine rd0 rfl ?_))
 ((first|refine aE (bL 3 8) rfl dd ?_|refine aG (bL 3 8) rfl dd ?_);(repeat (first|simp only [↓QA,QB,seval,pB]|refine rd0 rfl ?_)))
 ((first|refine aE (bL 1 2) rfl dd ?_|refine aG (bL 1 2) rfl dd ?_);(repeat (first|simp only [↓QA,QB,seval,pB]|refine rd0 rfl ?_)))
 ((first|refine aE (bL 5 7) rfl dd ?_|refine aG (bL 5 7) rfl dd ?_);(repeat (first|simp only [↓QA,QB,seval,pB]|refine rd0 rfl ?_)))
 ((first|refine aE (bL 9 10) rfl dd ?_|refine aG (bL 9 10) rfl dd ?_);(repeat (first|simp only [↓QA,QB,seval,pB]|refine rd0 rfl ?_)))
 (repeat (first|simp only [↓QA,QB,seval,pB,S_mapLook,exR,List.map_cons,List.map_nil]|refine rd0 rfl ?_))
theorem dP (l:List Look) (h:l.length≤100):Fits (exR l):=⟨by simp [exR],by simp [exR],by simp [exR];omega,by simp [exR];decide⟩
def FL (r:Rm):Bool:=decide ((check r).2.2=0)&&bQ r []
def iD (l:List Int) (n:Nat):Int:=if l.length=0 then 0 else (l[n%l.length]?).getD 0
def u8s (l:List Int):AV:=.lit (l.map (.int .u8)) false none
theorem xB (l:List Int):j4 (u8s l):=fT (bT .u8) l
instance (l:List Int):Dat (u8s l):=⟨xB l⟩
theorem aAC (σ:St) (m d:Nat) (l:List Int):cB σ m d (l.map (.int .u8))=some (l.map (.int .u8)):=jD (bZ (bT .u8) l) σ m d
def B7 (l:List Int):Prop:=(∀ x∈l,0≤x∧x<256)∧l.length<9223372036854775808
theorem oB {l:List Int} (h:B7 l) (n:Nat):0≤iD l n∧iD l n<256:=by
 unfold iD
 split
 ·omega
 ·rename_i h0
  have hlt:n%l.length<l.length:=Nat.mod_lt _ (by omega)
  rw [List.getElem?_eq_getElem hlt,Option.getD_some]
  exact h.1 _ (List.getElem_mem hlt)
end Go.Am.Room.Ro
set_option maxRecDepth 8000
namespace Go.Am.Room.Ro
def dJ:=And.intro @encRoom_eq (And.intro @roomCells_eq (And.intro @encSetting_eq (And.intro @encLook_eq (And.intro @aC (And.intro @bI (@List.length_append.{0}))))))
theorem fx (l:List Look) (h:l.length≤100:=by decide):Fits (exR l):=dP l h
theorem fO:Fits exO:=⟨by simp [exO,exL,exR],by simp [exO,exL,exR],by simp [exO,exL,exR],by simp [exO,exL,exR];decide⟩
set_option maxHeartbeats 1000000 in
theorem awake_ok:cN T 13 [] (.bool true):=by
 refine aQ (af:=a13) rfl (by simp [a13]) bF ?_
 (repeat (first|simp only [↓QA,QB,seval,dJ,a13]|refine rd0 rfl ?_))
 refine bJ (y3 []) (by simp [clr,clrs]) (by simp [okV,okVs]) ?_
 (repeat (first|simp only [↓QA,QB,seval,dJ]|refine rd0 rfl ?_))
 ((first|refine aE (qH 1 1) rfl dd ?_|refine aG (qH 1 1) rfl dd ?_);(repeat (first|simp only [↓QA,QB,seval,dJ]|refine rd0 rfl ?_)))
 refine bJ (y3 [⟨1,1⟩]) (by simp [clr,clrs,encLook]) (by simp [okV,okVs]) ?_
 (repeat (first|simp only [↓QA,QB,seval,dJ]|refine rd0 rfl ?_))
 ((first|refine aE (qH 1 1) rfl dd ?_|refine aG (qH 1 1) rfl dd ?_);(repeat (first|simp only [↓QA,QB,seval,dJ]|refine rd0 rfl ?_)))
 ((first|refine aE (qH 2 3) rfl dd ?_|refine aG (qH 2 3) rfl dd ?_);(repeat (first|simp only [↓QA,QB,seval,dJ]|refine rd0 rfl ?_)))
 refine bJ (y3 [⟨1,1⟩,⟨2,3⟩]) (by simp [clr,clrs,encLook]) (by simp [okV,okVs]) ?_
 (repeat (first|simp only [↓QA,QB,seval,dJ]|refine rd0 rfl ?_))
 ((first|refine aE (iE (exR []) 2 (fx _)) rfl dd ?_|refine aG (iE (exR []) 2 (fx _)) rfl dd ?_);(repeat (first|simp only [↓QA,QB,seval,dJ,e1,iA]|refine rd0 rfl ?_)))
 ((first|refine aE (iE exL 2 (fx _)) rfl dd ?_|refine aG (iE exL 2 (fx _)) rfl dd ?_);(repeat (first|simp only [↓QA,QB,seval,dJ,e2,iA]|refine rd0 rfl ?_)))
 ((first|refine aE (BM (exR []) 2 (fx _)) rfl dd ?_|refine aG (BM (exR []) 2 (fx _)) rfl dd ?_);(repeat (first|simp only [↓QA,QB,seval,dJ,e3,iA]|refine rd0 rfl ?_)))
 ((first|refine aE (IG exL (fx _)) rfl dd ?_|refine aG (IG exL (fx _)) rfl dd ?_);(repeat (first|simp only [↓QA,QB,seval,dJ,e4,iA]|refine rd0 rfl ?_)))
 refine bJ (O1 exL [2] (fx _) (by simp)) (by simp [clr,clrs,ints,exL,exR,encRoom,aI,encSetting,encLook]) (by simp [okV,okVs,exR,encSetting,encLook]) ?_
 (repeat (first|simp only [↓QA,QB,seval,dJ,e5,iA]|refine rd0 rfl ?_))
 ((first|refine aE (plan_ok exL 4 3 (fx _)) rfl dd ?_|refine aG (plan_ok exL 4 3 (fx _)) rfl dd ?_);(repeat (first|simp only [↓QA,QB,seval,dJ,e6,encLNE]|refine rd0 rfl ?_)))
 ((first|refine aE (plan_ok exO 4 3 fO) rfl dd ?_|refine aG (plan_ok exO 4 3 fO) rfl dd ?_);(repeat (first|simp only [↓QA,QB,seval,dJ,e7,encLNE]|refine rd0 rfl ?_)))
 ((first|refine aE (xQ exL 3 (fx _)) rfl dd ?_|refine aG (xQ exL 3 (fx _)) rfl dd ?_);(repeat (first|simp only [↓QA,QB,seval,dJ,e8,iJ]|refine rd0 rfl ?_)))
 ((first|refine aE (NU (exR []) 5 4 (fx _)) rfl dd ?_|refine aG (NU (exR []) 5 4 (fx _)) rfl dd ?_);(repeat (first|simp only [↓QA,QB,seval,dJ,e9,iJ]|refine rd0 rfl ?_)))
 ((first|refine aE (qX exW (fx _)) rfl dd ?_|refine aG (qX exW (fx _)) rfl dd ?_);(repeat (first|simp only [↓QA,QB,seval,dJ,e10,iJ]|refine rd0 rfl ?_)))
 ((first|refine aE (xQ exW 2 (fx _)) rfl dd ?_|refine aG (xQ exW 2 (fx _)) rfl dd ?_);(repeat (first|simp only [↓QA,QB,seval,dJ,e11,iJ]|refine rd0 rfl ?_)))
 ((first|refine aE (bL 13 22) rfl dd ?_|refine aG (bL 13 22) rfl dd ?_);(repeat (first|simp only [↓QA,QB,seval,dJ]|refine rd0 rfl ?_)))
 ((first|refine aE (bL 13 16) rfl dd ?_|refine aG (bL 13 16) rfl dd ?_);(repeat (first|simp only [↓QA,QB,seval,dJ]|refine rd0 rfl ?_)))
 ((first|refine aE (bL 2 3) rfl dd ?_|refine aG (bL 2 3) rfl dd ?_);(repeat (first|simp only [↓QA,QB,seval,dJ]|refine rd0 rfl ?_)))
 ((first|refine aE (bL 3 4) rfl dd ?_|refine aG (bL 3 4) rfl dd ?_);(repeat (first|simp only [↓QA,QB,seval,dJ]|refine rd0 rfl ?_)))
 ((first|refine aE (bL 3 3) rfl dd ?_|refine aG (bL 3 3) rfl dd ?_);(repeat (first|simp only [↓QA,QB,seval,dJ]|refine rd0 rfl ?_)))
 ((first|refine bJ (fR [0,2] [0,2] (by simp) (by simp)) (by simp [clr,clrs,ints]) (by simp [okV,okVs]) ?_|refine cP (fR [0,2] [0,2] (by simp) (by simp)) (by simp [clr,clrs,ints]) (by simp [okV,okVs]) ?_);(repeat (first|simp only [↓QA,QB,seval,dJ,eq_self]|refine rd0 rfl ?_)))
 ((first|refine bJ (fR [2,3] [2,3] (by simp) (by simp)) (by simp [clr,clrs,ints]) (by simp [okV,okVs]) ?_|refine cP (fR [2,3] [2,3] (by simp) (by simp)) (by simp [clr,clrs,ints]) (by simp [okV,okVs]) ?_);(repeat (first|simp only [↓QA,QB,seval,dJ,eq_self]|refine rd0 rfl ?_)))
 ((first|refine bJ (fR [2] [2] (by simp) (by simp)) (by simp [clr,clrs,ints]) (by simp [okV,okVs]) ?_|refine cP (fR [2] [2] (by simp) (by simp)) (by simp [clr,clrs,ints]) (by simp [okV,okVs]) ?_);(repeat (first|simp only [↓QA,QB,seval,dJ,eq_self]|refine rd0 rfl ?_)))
 ((first|refine bJ (fR [0] [0] (by simp) (by simp)) (by simp [clr,clrs,ints]) (by simp [okV,okVs]) ?_|refine cP (fR [0] [0] (by simp) (by simp)) (by simp [clr,clrs,ints]) (by simp [okV,okVs]) ?_);(repeat (first|simp only [↓QA,QB,seval,dJ,eq_self]|refine rd0 rfl ?_)))
end Go.Am.Room.Ro
set_option maxRecDepth 8000
namespace Go.Am.Room.Fa
def cH:=And.intro @cC (And.intro @aK (And.intro @cE (And.intro @encLook_eq (And.intro @Ro.encRoom_eq (And.intro @Ro.roomCells_eq (And.intro @Ro.encSetting_eq (And.intro @Ro.encLook_eq (And.intro @sZ (And.intro @JB (And.intro @aC (And.intro @cS (And.intro @S_mapLook (And.intro @cT (And.intro @R9 (And.intro @Ro.S_mapSet (And.intro @Ro.S_mapLook (And.intro @bI (And.intro @List.length_append.{0} (And.intro @Int.toNat_natCast (@aAC))))))))))))))))))))
def iN (r:Ro.Rm) (x:List Int) (l:List Int):Nat→Int
 |0=>0
 |k+1=>iN r x l k+oT (Ro.gainN r ((l[k]?).getD 0)) (iD x (3+k))
theorem ET {r:Ro.Rm} (hv:∀ s∈r.settings,0≤s.gain.lo∧s.gain.lo≤s.gain.hi∧s.gain.hi≤15) {x:List Int} (hx:B7 x) {l:List Int} (hl:∀ n∈l,0≤n∧n<r.settings.length) :
  ∀ k,k≤l.length→0≤iN r x l k∧iN r x l k≤15*k∧(Ro.sumS r (l.take k)).lo≤iN r x l k∧iN r x l k≤(Ro.sumS r (l.take k)).hi
 |0,_=>by simp [iN,Ro.sumS]
 |k+1,h=>by
  have ih:=ET hv hx hl k (by omega)
  have hk:k<l.length:=by omega
  have hb:=hl _ (List.getElem_mem hk)
  have hlt:l[k].toNat<r.settings.length:=by omega
  have hg:=hv _ (List.getElem_mem hlt)
  have ht:=oB hx (3+k)
  have e:(l[k]?).getD 0=l[k]:=by rw [List.getElem?_eq_getElem hk,Option.getD_some]
  have hs:Ro.sumS r (l.take (k+1))=Ro.plus (Ro.sumS r (l.take k)) (Ro.gainN r l[k]):=by
   rw [List.take_succ_eq_append_getElem hk]
   have app:∀ a b:List Int,Ro.sumS r (a++b)=Ro.plus (Ro.sumS r a) (Ro.sumS r b):=by
    intro a b
    induction a with
    |nil=>simp [Ro.sumS,Ro.plus]
    |cons n a ih=>simp only [List.cons_append,Ro.sumS,ih,Ro.plus,Span.mk.injEq];omega
   rw [app]
   simp only [Ro.sumS,Ro.plus,Span.mk.injEq];omega
  have hf:=GB (s:=Ro.gainN r l[k]) (n:=iD x (3+k)) (by rw [Ro.gainN_eq hlt];exact hg.2.1) ht.1
  rw [Ro.gainN_eq hlt] at hf hs
  rw [iN,e,Ro.gainN_eq hlt,hs]
  simp only [Ro.plus]
  omega
theorem UG {r:Ro.Rm} (hr:Ro.Fits r) (s:Span):Ro.Fits (Ro.rr (Ro.st r s)):=Ro.rr_fits ⟨hr.settings,hr.ran,hr.looks,hr.names⟩
set_option maxHeartbeats 4000000 in
theorem topripening_ok (v:Farm) (r:Ro.Rm) (p c q kk:Nat) (x:List Int) (hf:Fits v) (hr:Ro.Fits r) (hp:p<256) (hcc:c<256) (hq:q<256) (hkk:kk<256) (hx:B7 x) :
  cN T 3 [encFarm v,Ro.encRoom r,.agg [.int .u8 p,.int .u8 c,.int .u8 q,.int .u8 kk,u8s x]] (.bool true):=by
 refine aQ (af:=a3) rfl (by simp [a3]) dd ?_
 have hxl:=hx.2
 have hpl:=hf.plots
 have hr0:=Ro.rr_fits hr
 (repeat (first|simp only [↓QA,QB,seval,cH,a3,u8s]|refine rd0 rfl ?_))
 ((first|refine aE (refcheck_ok v hf) rfl dd ?_|refine aG (refcheck_ok v hf) rfl dd ?_);(repeat (first|simp only [↓QA,QB,seval,cH,enc3]|refine rd0 rfl ?_)))
 refine bJ (Ro.refcheck_ok (Ro.rr r) hr0) (Ro.rr_clr1 r (by simp [clrs])) (Ro.rr_ok1 r (by simp [okVs])) ?_
 (repeat (first|simp only [↓QA,QB,seval,cH,Ro.enc3]|refine rd0 rfl ?_))
 by_cases hc:(check v).2.2=0
 ·have g1:((check v).2.2==0)=true:=by rw [hc];rfl
  by_cases hg:(Ro.check (Ro.rr r)).2.2=0
  ·have g2:((Ro.check (Ro.rr r)).2.2==0)=true:=by rw [hg];rfl
   by_cases hn:v.plots.length=0
   ·have g3:((v.plots.length:Int)==0)=true:=by rw [hn];rfl
    (repeat (first|simp only [↓QA,QB,seval,cH,g1,g2,g3]|refine rd0 rfl ?_))
    refine aE awake_ok rfl bF ?_
    (repeat (first|simp only [↓QA,QB,seval,cH]|refine rd0 rfl ?_))
    refine aE Ro.awake_ok rfl bF ?_
    (repeat (first|simp only [↓QA,QB,seval,cH]|refine rd0 rfl ?_))
   ·have g3:((v.plots.length:Int)==0)=false:=beq_eq_false_iff_ne.2 (by omega)
    have hv:=vd_of_check hc
    have htr:=ML v hv [] (by simp)
    have hll:=B5 hv []
    (repeat (first|simp only [↓QA,QB,seval,cH,g1,g2,g3]|refine rd0 rfl ?_))
    refine bJ htr (VI v) (I7 v) ?_
    (repeat (first|simp only [↓QA,QB,seval,cH]|refine rd0 rfl ?_))
    by_cases hne:aR v []=[]
    ·have g4:(((aR v []).length:Int)==0)=true:=by rw [hne];rfl
     (repeat (first|simp only [↓QA,QB,seval,cH,g4]|refine rd0 rfl ?_))
     refine aE awake_ok rfl bF ?_
     (repeat (first|simp only [↓QA,QB,seval,cH]|refine rd0 rfl ?_))
     refine aE Ro.awake_ok rfl bF ?_
     (repeat (first|simp only [↓QA,QB,seval,cH]|refine rd0 rfl ?_))
    ·have g4:(((aR v []).length:Int)==0)=false:=beq_eq_false_iff_ne.2 (by have:=List.length_pos_iff.2 hne;omega)
     have hs:FL v=true:=J5.2 ⟨hc,hne⟩
     have hnr:=hv.nra
     have hnp:=hv.npl
     have hwy:=hv.way
     have hrv:=Ro.vd_of_check hg
     have hrs:=hrv.nset
     have hrd:=hrv.days
     have hrg:=hrv.gains
     simp only [Ro.rr] at hrs hrd hrg
     have hwp:IntKind.i64.wrap (p:Int)=p:=aX ⟨by omega,by omega⟩
     have hwc:IntKind.i64.wrap (c:Int)=c:=aX ⟨by omega,by omega⟩
     have hwr:IntKind.i64.wrap ((v.rain.length:Int)+1)=((v.rain.length+1:Nat):Int):=b7 (show v.rain.length<v.rain.length+1 by omega) (by omega)
     have hrz:((v.rain.length+1:Nat):Int)≠0:=by omega
     have hpz:((v.plots.length:Nat):Int)≠0:=by omega
     obtain ⟨P,hPj,hPl⟩:=A2 (a:=(p:Int)) (by omega) (show 0<v.plots.length by omega)
     obtain ⟨C,hCj,hCl⟩:=A2 (a:=(c:Int)) (by omega) (show 0<v.rain.length+1 by omega)
     have hCr:C≤v.rain.length:=by omega
     have e1:=T6 hs hPl hCr
     have hts:∀ t∈aR v [],TOk v t:=fun t ht=>y4 hv ht
     have hbd:=w9 hv hts hne hPl hCr
     have hfs:=lV (n9 hts hne hPl C)
     obtain ⟨s,hse⟩:∃ s,fE (aR v []) P C=s:=⟨_,rfl⟩
     have hse':qN (cG (aR v []) P C)=s:=hse
     rw [hse'] at hfs
     rw [hse] at e1 hbd
     have okz:((0:Int)==0)=true:=rfl
     have w1:IntKind.i64.wrap (s.lo+v.way.lo)=s.lo+v.way.lo:=aX ⟨by omega,by omega⟩
     have w2:IntKind.i64.wrap (s.hi+v.way.hi)=s.hi+v.way.hi:=aX ⟨by omega,by omega⟩
     (repeat (first|simp only [↓QA,QB,seval,cH,g4]|refine rd0 rfl ?_))
     (repeat (first|simp only [↓QA,QB,seval,cH,hwp,hwc,hwr,AE _ _ _ hrz,AE _ _ _ hpz,hPj,hCj]|refine rd0 rfl ?_))
     ((first|refine aE (n6 v P C hf) rfl dd ?_|refine aG (n6 v P C hf) rfl dd ?_);(repeat (first|simp only [↓QA,QB,seval,cH,e1,iA]|refine rd0 rfl ?_)))
     (repeat (first|simp only [↓QA,QB,seval,cH,w1,w2,okz]|refine rd0 rfl ?_))
     have hS:=Ro.st_check (s:=⟨s.lo+v.way.lo,s.hi+v.way.hi⟩) hg (by simp only;omega) (by simp only;omega) (by simp only;omega)
     have hSf:Ro.Fits (Ro.rr (Ro.st r ⟨s.lo+v.way.lo,s.hi+v.way.hi⟩)):=UG hr _
     have g5:((Ro.check (Ro.rr (Ro.st r ⟨s.lo+v.way.lo,s.hi+v.way.hi⟩))).2.2==0)=true:=by rw [hS];rfl
     refine bJ (Ro.refcheck_ok (Ro.rr (Ro.st r ⟨s.lo+v.way.lo,s.hi+v.way.hi⟩)) hSf) (Ro.rr_clr1 (Ro.st r ⟨s.lo+v.way.lo,s.hi+v.way.hi⟩) (by simp [clrs])) (Ro.rr_ok1 (Ro.st r ⟨s.lo+v.way.lo,s.hi+v.way.hi⟩) (by simp [okVs])) ?_
     have hwq:IntKind.i64.wrap (q:Int)=q:=aX ⟨by omega,by omega⟩
     have hwk:IntKind.i64.wrap (kk:Int)=kk:=aX ⟨by omega,by omega⟩
     have hwd:IntKind.i64.wrap (r.days+1)=r.days+1:=aX ⟨by omega,by omega⟩
     have hdz:(r.days+1:Int)≠0:=by omega
     have hD0:=Int.tmod_nonneg (r.days+1) (show (0:Int)≤q by omega)
     have hD1:=Int.tmod_lt_of_pos (q:Int) (show 0<r.days+1 by omega)
     have hK0:=Int.tmod_nonneg 7 (show (0:Int)≤kk by omega)
     have hK1:=Int.tmod_lt_of_pos (kk:Int) (show (0:Int)<7 by omega)
     have hv7:=AE .i64 (kk:Int) 7 (by omega)
     obtain ⟨D,hD⟩:∃ D,(q:Int).tmod (r.days+1)=D:=⟨_,rfl⟩
     obtain ⟨K,hK⟩:∃ K,(kk:Int).tmod 7=K:=⟨_,rfl⟩
     rw [hD] at hD0 hD1
     rw [hK] at hK0 hK1
     have hwK:IntKind.i64.wrap (1+K)=1+K:=aX ⟨by omega,by omega⟩
     (repeat (first|simp only [↓QA,QB,seval,cH,Ro.enc3,g5,okz]|refine rd0 rfl ?_))
     (repeat (first|simp only [↓QA,QB,seval,cH,hwq,hwk,hwd,AE _ _ _ hdz,hv7,hD,hK,hwK]|refine rd0 rfl ?_))
     refine bJ (Ro.plan_ok (Ro.rr (Ro.st r ⟨s.lo+v.way.lo,s.hi+v.way.hi⟩)) D (1+K) hSf) (Ro.rr_clr1 (Ro.st r ⟨s.lo+v.way.lo,s.hi+v.way.hi⟩) (by simp [clrs,clr])) (Ro.rr_ok1 (Ro.st r ⟨s.lo+v.way.lo,s.hi+v.way.hi⟩) (by simp [okVs,okV])) ?_
     have hzz:(((0:Nat):Int)==0)=true:=rfl
     rcases Ro.plan_law (r:=r) (s:=⟨s.lo+v.way.lo,s.hi+v.way.hi⟩) hS (D:=D) (c:=1+K) hD0 (by omega) (by omega) (by omega) with e2|⟨l,ch,e2,hlD,hlm,hc1,hc2⟩
     ·(repeat (first|simp only [↓QA,QB,seval,cH,Ro.encLNE,e2,show ((9:Int)==0)=false from rfl,show ((9:Int)==9)=true from rfl,List.map_nil,List.length_nil,hzz]|refine rd0 rfl ?_))
      refine aE awake_ok rfl bF ?_
      (repeat (first|simp only [↓QA,QB,seval,cH]|refine rd0 rfl ?_))
      refine aE Ro.awake_ok rfl bF ?_
      (repeat (first|simp only [↓QA,QB,seval,cH]|refine rd0 rfl ?_))
     ·have b0:=oB hx 0
      have b1:=oB hx 1
      have b2:=oB hx 2
      obtain ⟨ts,htse⟩:∃ ts,aR v []=ts:=⟨_,rfl⟩
      rw [htse] at hne hts hfs hll
      obtain ⟨j,hj,hjl⟩:=A2 (a:=iD x 0) b0.1 (List.length_pos_iff.2 hne)
      have htz:((ts.length:Nat):Int)≠0:=by have:=List.length_pos_iff.2 hne;omega
      have htm:=List.getElem_mem hjl
      have htk:=hts _ htm
      have hin:=fun (h:Int) (hh:h∈hO ts[j] P)=>hfs.2.2 _ (tD.2 ⟨ts[j],htm,h,hh,rfl⟩)
      have hrb:=nY hv htk.rain
      have hrl:=htk.rain.1
      have hFl:=htk.len
      have hfl:=htk.fl P hPl
      obtain ⟨t,hte⟩:∃ t,ts[j]=t:=⟨_,rfl⟩
      rw [hte] at hin hrb hrl hFl hfl
      obtain ⟨R,F⟩:=t
      simp only at hrb hrl hFl
      have hPF:P<F.length:=by omega
      rw [VA (t:=⟨R,F⟩) hPF] at hin hfl
      obtain ⟨S,hSS⟩:∃ S,F[P]=S:=⟨_,rfl⟩
      simp only [hSS] at hin hfl
      obtain ⟨i,hi,hil⟩:=A2 (a:=iD x 1) b1.1 (List.length_pos_iff.2 hfl.1)
      have hfz:((S.length:Nat):Int)≠0:=by have:=List.length_pos_iff.2 hfl.1;omega
      have him:=List.getElem_mem hil
      have hab:=hfl.2.2 _ him
      have hin1:=hin _ him
      obtain ⟨H,hH⟩:∃ H:Nat,S[i]=(H:Int):=⟨S[i].toNat,by omega⟩
      rw [hH] at hab hin1
      have hpo:=iE R H C hrb (by omega) (by omega)
      simp only [nG,yJ,Int.toNat_natCast] at hin1
      obtain ⟨n,hn1⟩:∃ n,pts (rl R) H C=n:=⟨_,rfl⟩
      rw [hn1] at hin1 hpo
      have hfi:=GB (s:=v.way) (n:=iD x 2) hwy.2.1 b2.1
      have hfo:=NP v.way (iD x 2) hwy.1 hwy.2.1 (by omega) b2.1 (by omega)
      obtain ⟨y,hy⟩:∃ y,oT v.way (iD x 2)=y:=⟨_,rfl⟩
      rw [hy] at hfi hfo
      have wny:IntKind.i64.wrap (n+y)=n+y:=aX ⟨by omega,by omega⟩
      have hlD':((l.length:Int)==D)=true:=by rw [hlD];exact beq_self_eq_true _
      have hll6:l.length≤6:=by omega
      have hgi:=ET hrg hx hlm
      (repeat (first|simp only [↓QA,QB,seval,cH,Ro.encLNE,e2,okz,htse]|refine rd0 rfl ?_))
      ((first|refine aE (kK x 0 hx (by omega)) rfl dd ?_|refine aG (kK x 0 hx (by omega)) rfl dd ?_);(repeat (first|simp only [↓QA,QB,seval,cH,u8s,htse,AE _ _ _ htz,hj,hjl,hte,hPF,hSS,hil]|refine rd0 rfl ?_)))
      ((first|refine aE (kK x 1 hx (by omega)) rfl dd ?_|refine aG (kK x 1 hx (by omega)) rfl dd ?_);(repeat (first|simp only [↓QA,QB,seval,cH,u8s,AE _ _ _ hfz,hi,hil,hPF,hSS,hH]|refine rd0 rfl ?_)))
      ((first|refine aE (hpo) rfl dd ?_|refine aG (hpo) rfl dd ?_);(repeat (first|simp only [↓QA,QB,seval,cH,u8s]|refine rd0 rfl ?_)))
      ((first|refine aE (kK x 2 hx (by omega)) rfl dd ?_|refine aG (kK x 2 hx (by omega)) rfl dd ?_);(repeat (first|simp only [↓QA,QB,seval,cH,u8s]|refine rd0 rfl ?_)))
      ((first|refine aE (hfo) rfl dd ?_|refine aG (hfo) rfl dd ?_);(repeat (first|simp only [↓QA,QB,seval,cH,wny,hlD']|refine rd0 rfl ?_)))
      refine bU (S:=Nat) 0 (fun k=>k≤l.length) (fun k=>l.length-k)
       (fun k=>[(4,.ptr 1 0),(5,.ptr 2 0),(6,.bool false),(19,.int .i64 (1+K)),(20,ints l),(25,.int .i64 (n+y+iN r x l k)),(26,.int .i64 k)])
       (fun _=>[.cells (aB v),.cells [.int .i64 r.days,.int .i64 (s.lo+v.way.lo),.int .i64 (s.hi+v.way.hi),.lit (List.map Ro.encSetting r.settings) false none,.int .i64 r.opens,.lit [] true none,.lit [] true none],
        .cells [.int .u8 p,.int .u8 c,.int .u8 q,.int .u8 kk,.lit (x.map (.int .u8)) false none],.cells [.int .i64 s.lo,.int .i64 s.hi],.cells [ints R,.lit (F.map ints) false none]]) (by simp) (by simp [aB,ints]) ?_ fun k hk=>?_
      ·try simp only [aF,QE,seval,cH]
       try simp [iN]
      ·have hgk:=hgi k hk
       (repeat (first|simp only [↓QA,QB,seval,cH,aEQ]|refine rd0 rfl ?_))
       refine aJ (fun h=>?_) fun h=>?_
       ·have hk1:k<l.length:=by simpa using h
        have hw:=b7 hk1 (by omega)
        have hlb:=hlm _ (List.getElem_mem hk1)
        have hgk1:=hgi (k+1) (by omega)
        have e3:iN r x l (k+1)=iN r x l k+oT (Ro.gainN r l[k]) (iD x (3+k)):=by
         rw [iN,List.getElem?_eq_getElem hk1,Option.getD_some]
        obtain ⟨A,hA⟩:∃ A:Nat,l[k]=(A:Int):=⟨l[k].toNat,by omega⟩
        rw [hA] at hlb e3
        have hAl:A<r.settings.length:=by omega
        have hgA:=hrg _ (List.getElem_mem hAl)
        rw [Ro.gainN_eq (show ((A:Int)).toNat<r.settings.length by omega)] at e3
        simp only [Int.toNat_natCast] at e3
        have b3:=oB hx (3+k)
        have hfo2:=NP r.settings[A].gain (iD x (3+k)) hgA.1 hgA.2.1 (by omega) b3.1 (by omega)
        obtain ⟨z,hz⟩:∃ z,oT r.settings[A].gain (iD x (3+k))=z:=⟨_,rfl⟩
        rw [hz] at e3 hfo2
        have hwl:IntKind.i64.wrap ((r.settings.length:Int)-1)=(r.settings.length:Int)-1:=aX ⟨by omega,by omega⟩
        have hin3:inR (A:Int) 0 ((r.settings.length:Int)-1)=true:=by simp [inR];omega
        have hw3:IntKind.i64.wrap (3+(k:Int))=((3+k:Nat):Int):=by rw [aX ⟨by omega,by omega⟩];omega
        have hwz:IntKind.i64.wrap (n+y+iN r x l k+z)=n+y+iN r x l (k+1):=by rw [e3,aX ⟨by omega,by omega⟩];omega
        (repeat (first|simp only [↓QA,QB,seval,cH,hk1,hA,hwl]|refine rd0 rfl ?_))
        ((first|refine aE (eG (A:Int) 0 ((r.settings.length:Int)-1)) rfl dd ?_|refine aG (eG (A:Int) 0 ((r.settings.length:Int)-1)) rfl dd ?_);(repeat (first|simp only [↓QA,QB,seval,cH,hin3,hk1,hA,hAl,hw3]|refine rd0 rfl ?_)))
        ((first|refine aE (kK x (3+k) hx (by omega)) rfl dd ?_|refine aG (kK x (3+k) hx (by omega)) rfl dd ?_);(repeat (first|simp only [↓QA,QB,seval,cH,u8s,hk1,hA,hAl,hw3]|refine rd0 rfl ?_)))
        ((first|refine aE (hfo2) rfl dd ?_|refine aG (hfo2) rfl dd ?_);(repeat (first|simp only [↓QA,QB,seval,cH,hwz,hw,hk1,hA,hAl,hw3]|refine rd0 rfl ?_)))
        refine ⟨k+1,by omega,by omega,?_⟩
        try simp only [aF,QE,seval,cH,hw]
        try simp [aT]
       ·have hk1:k=l.length:=by simp at h;omega
        subst hk1
        rw [List.take_length] at hgk
        have hq1:=Ro.colour_mono (show s.lo+v.way.lo+(Ro.sumS r l).lo≤n+y+iN r x l l.length by omega)
        have hq2:=Ro.colour_mono (show n+y+iN r x l l.length≤s.hi+v.way.hi+(Ro.sumS r l).hi by omega)
        simp only at hc1 hc2
        have hq3:Ro.colourOf (n+y+iN r x l l.length)=1+K:=by omega
        (repeat (first|simp only [↓QA,QB,seval,cH]|refine rd0 rfl ?_))
        ((first|refine aE (Ro.colour_ok (n+y+iN r x l l.length) (by omega) (by omega)) rfl dd ?_|refine aG (Ro.colour_ok (n+y+iN r x l l.length) (by omega) (by omega)) rfl dd ?_);(repeat (first|simp only [↓QA,QB,seval,cH,hq3,eq_self,beq_self_eq_true]|refine rd0 rfl ?_)))
        refine aE awake_ok rfl bF ?_
        (repeat (first|simp only [↓QA,QB,seval,cH]|refine rd0 rfl ?_))
        refine aE Ro.awake_ok rfl bF ?_
        (repeat (first|simp only [↓QA,QB,seval,cH]|refine rd0 rfl ?_))
  ·have g2:((Ro.check (Ro.rr r)).2.2==0)=false:=by simpa using hg
   (repeat (first|simp only [↓QA,QB,seval,cH,g1,g2]|refine rd0 rfl ?_))
   refine aE awake_ok rfl bF ?_
   (repeat (first|simp only [↓QA,QB,seval,cH]|refine rd0 rfl ?_))
   refine aE Ro.awake_ok rfl bF ?_
   (repeat (first|simp only [↓QA,QB,seval,cH]|refine rd0 rfl ?_))
 ·have g1:((check v).2.2==0)=false:=by simpa using hc
  (repeat (first|simp only [↓QA,QB,seval,cH,g1]|refine rd0 rfl ?_))
  refine aE awake_ok rfl bF ?_
  (repeat (first|simp only [↓QA,QB,seval,cH]|refine rd0 rfl ?_))
  refine aE Ro.awake_ok rfl bF ?_
  (repeat (first|simp only [↓QA,QB,seval,cH]|refine rd0 rfl ?_))
end Go.Am.Room.Fa
