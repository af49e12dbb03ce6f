/- A part of the proof of TramWays: an abstract machine, or what functions come to on it. -/
import Derived.Test.YtnjlkiflililkaaTramWaysQ4
set_option linter.unusedVariables false
set_option linter.unusedSimpArgs false
set_option linter.defProp false
set_option maxRecDepth 8000
namespace Go.Am.Room
def gR:=And.intro @bD (And.intro @aK (And.intro @aU (And.intro @aV (And.intro @aT (And.intro @aR (And.intro @a9 (And.intro @aY (And.intro @aW (And.intro @dV (And.intro @dR (And.intro @Nat.not_lt_zero (And.intro @List.length_append.{0} (And.intro @Nat.zero_add (And.intro @Nat.mul_one (And.intro @Int.toNat_natCast (And.intro @dO (And.intro @eO (And.intro @eN (And.intro @jF (And.intro @eT (And.intro @gC (And.intro @gA (And.intro @gE (And.intro @gB (And.intro @f9 (And.intro @gD (And.intro @Nat.add_lt_add_iff_left (@Nat.lt_add_right_iff_pos))))))))))))))))))))))))))))
theorem B2 (v:Net) (b m p:Nat) (σ:St) (hσ:aH σ p=some (db v b m)) (t:Nat) (ht:t<v.trams.length) (c:Int):iC T (.func 111 [] []) [.ptr p 0,.int .i64 t,.int .i64 c] σ (.bool (jI v t c)):=by
 refine dY (af:=a111) rfl (by simp [a111]) ?_
 have hit:=A4 (v:=v) (t:=t) (z:=v.trams[t]) (by simp [ht]) c
 obtain ⟨z,hz⟩:∃ z,v.trams[t]=z:=⟨_,rfl⟩
 rw [hz] at hit
 have e:decide (c = -1)=(c==-1):=by rw [Bool.eq_iff_iff];simp
 rw [e] at hit
 rw [hit]
 cases h:(c==-1)
 ·(repeat (first|simp only [↓QA,QB,Nat.reduceLT,reduceIte,Nat.reduceEqDiff,Nat.reduceAdd,Nat.reduceLeDiff,Nat.reduceMul,Nat.reduceBEq,gR,a111,h,hσ,ht,hz]|refine rd0 rfl ?_))
  refine eI [] (by first|rfl|simp) ?_
  try simp only [QS,QC,Nat.reduceLT,reduceIte,Nat.reduceEqDiff,Nat.reduceAdd,Nat.reduceLeDiff,Nat.reduceMul,Nat.reduceBEq,gR]
 ·(repeat (first|simp only [↓QA,QB,Nat.reduceLT,reduceIte,Nat.reduceEqDiff,Nat.reduceAdd,Nat.reduceLeDiff,Nat.reduceMul,Nat.reduceBEq,gR,a111,h]|refine rd0 rfl ?_))
  refine eI [] (by first|rfl|simp) ?_
  try simp only [QS,QC,Nat.reduceLT,reduceIte,Nat.reduceEqDiff,Nat.reduceAdd,Nat.reduceLeDiff,Nat.reduceMul,Nat.reduceBEq,gR,Bool.false_and]
theorem D4 (a b:List Int) (ha:a.length<9223372036854775808) (hb:b.length<9223372036854775808):d6 T 88 [ints a,ints b] (.bool (decide (a=b))):=by
 refine aZ (af:=a88) rfl (by simp [a88]) dd ?_
 by_cases h:a.length=b.length
 ·have g:((a.length:Int)==(b.length:Int))=true:=by simp;omega
  (repeat (first|simp only [↓QA,QB,Nat.reduceLT,reduceIte,Nat.reduceEqDiff,Nat.reduceAdd,Nat.reduceLeDiff,Nat.reduceMul,Nat.reduceBEq,gR,a88,g]|refine rd0 rfl ?_))
  refine dF (S:=Nat) 0 (fun k=>k≤a.length∧a.take k=b.take k) (fun k=>a.length-k) (fun k=>[(0,ints a),(1,ints b),(12,.int .i64 a.length),(13,.int .i64 k)]) (fun _=>[]) ⟨Nat.zero_le _,by simp⟩ rfl ?_ fun k hk=>?_
  ·try simp only [aD,QE,Nat.reduceLT,reduceIte,Nat.reduceEqDiff,Nat.reduceAdd,Nat.reduceLeDiff,Nat.reduceMul,Nat.reduceBEq,gR,ints]
   try simp
  ·obtain ⟨hk,hq⟩:=hk
   (repeat (first|simp only [↓QA,QB,Nat.reduceLT,reduceIte,Nat.reduceEqDiff,Nat.reduceAdd,Nat.reduceLeDiff,Nat.reduceMul,Nat.reduceBEq,gR,VD]|refine rd0 rfl ?_))
   refine aI (fun hd=>?_) fun hd=>?_
   ·have hk1:k<a.length:=by simpa using hd
    have hk2:k<b.length:=by omega
    have hw:=cR hk1 ha
    obtain ⟨x,hx⟩:∃ x,a[k]=x:=⟨_,rfl⟩
    obtain ⟨y,hy⟩:∃ y,b[k]=y:=⟨_,rfl⟩
    cases q:(x==y)
    ·have q':x≠y:=by simpa using q
     have hne:decide (a=b)=false:=by
      simp only [decide_eq_false_iff_not]
      rintro rfl
      exact q' (hx.symm.trans hy)
     rw [hne]
     (repeat (first|simp only [↓QA,QB,Nat.reduceLT,reduceIte,Nat.reduceEqDiff,Nat.reduceAdd,Nat.reduceLeDiff,Nat.reduceMul,Nat.reduceBEq,gR,hk1,hk2,hx,hy,q]|refine rd0 rfl ?_))
    ·have q':x=y:=by simpa using q
     (repeat (first|simp only [↓QA,QB,Nat.reduceLT,reduceIte,Nat.reduceEqDiff,Nat.reduceAdd,Nat.reduceLeDiff,Nat.reduceMul,Nat.reduceBEq,gR,hk1,hk2,hx,hy,q]|refine rd0 rfl ?_))
     refine ⟨k+1,⟨by omega,by rw [List.take_succ_eq_append_getElem hk1,List.take_succ_eq_append_getElem hk2,hq,hx,hy,q']⟩,by omega,?_⟩
     try simp only [aD,QE,Nat.reduceLT,reduceIte,Nat.reduceEqDiff,Nat.reduceAdd,Nat.reduceLeDiff,Nat.reduceMul,Nat.reduceBEq,gR,hw,ints]
     try simp [aN]
   ·have hk1:k=a.length:=by
     have:¬k<a.length:=by simpa using hd
     omega
    rw [hk1,List.take_length,h,List.take_length] at hq
    have he:decide (a=b)=true:=by simpa using hq
    rw [he]
    (repeat (first|simp only [↓QA,QB,Nat.reduceLT,reduceIte,Nat.reduceEqDiff,Nat.reduceAdd,Nat.reduceLeDiff,Nat.reduceMul,Nat.reduceBEq,gR]|refine rd0 rfl ?_))
 ·have g:((a.length:Int)==(b.length:Int))=false:=by simp;omega
  have hne:decide (a=b)=false:=by
   simp only [decide_eq_false_iff_not]
   rintro rfl
   exact h rfl
  rw [hne]
  (repeat (first|simp only [↓QA,QB,Nat.reduceLT,reduceIte,Nat.reduceEqDiff,Nat.reduceAdd,Nat.reduceLeDiff,Nat.reduceMul,Nat.reduceBEq,gR,a88,g]|refine rd0 rfl ?_))
def jH:Option (List Int)→AV
 |none=>.lit [] true none
 |some l=>ints l
theorem xW (P:List (List Int)):(P.map some).map jH=P.map ints:=by simp [jH]
theorem KW (ps:List (List Int)) (pl n k:Nat) (hn:n=ps.length) (σ:St) (h1:aH σ k=some [.ref pl 0 n 1]) (h2:aH σ pl=some (ps.map ints)) (i:Nat) (hi:i<ps.length):iC T (.func 112 [] [.ptr k 0]) [.int .i64 i] σ (ints (eH ps i)):=by
 refine dY (af:=a112) rfl (by simp [a112]) ?_
 rw [JK hi]
 obtain ⟨w,hw⟩:∃ w,ps[i]=w:=⟨_,rfl⟩
 have i1:(0:Int)≤(i:Int)∧(i:Int)<(n:Int)∧1=1:=⟨by omega,by omega,rfl⟩
 rw [hw]
 (repeat (first|simp only [↓QA,QB,Nat.reduceLT,reduceIte,Nat.reduceEqDiff,Nat.reduceAdd,Nat.reduceLeDiff,Nat.reduceMul,Nat.reduceBEq,gR,a112,h1,h2,i1,hi,hw]|refine rd0 rfl ?_))
 refine eI [] (by first|rfl|simp) ?_
 try simp only [QS,QC,Nat.reduceLT,reduceIte,Nat.reduceEqDiff,Nat.reduceAdd,Nat.reduceLeDiff,Nat.reduceMul,Nat.reduceBEq,gR]
end Go.Am.Room
set_option maxRecDepth 8000
namespace Go.Am.Room
def eZ:=And.intro @bD (And.intro @aK (And.intro @aU (And.intro @aV (And.intro @aT (And.intro @aR (And.intro @a9 (And.intro @aY (And.intro @aW (And.intro @dV (And.intro @dR (And.intro @Nat.not_lt_zero (And.intro @List.length_append.{0} (And.intro @Nat.zero_add (And.intro @Nat.mul_one (And.intro @Int.toNat_natCast (And.intro @dO (And.intro @eO (And.intro @eN (And.intro @jF (And.intro @eT (And.intro @gC (And.intro @gA (And.intro @gE (And.intro @gB (And.intro @f9 (And.intro @gD (And.intro @Nat.add_lt_add_iff_left (And.intro @Nat.lt_add_right_iff_pos (And.intro @mY (@m5))))))))))))))))))))))))))))))
def CH (v:Net) (ps:List (List Int)) (c:List Int) (x:Unit):Unit×Bool:=(x,DZ v ps c)
theorem ER (v:Net) (ps:List (List Int)):∀ l:List (List Int),(bL (CH v ps) l ()).2=l.all (DZ v ps)
 |[]=>rfl
 |c::l=>by
  have ih:=ER v ps l
  rw [List.all_cons]
  by_cases h:DZ v ps c=true
  ·have:bL (CH v ps) (c::l) ()=bL (CH v ps) l ():=by simp only [bL,CH];exact if_pos h
   rw [this,h,Bool.true_and,ih]
  ·have:bL (CH v ps) (c::l) ()=((),false):=by simp only [bL,CH];exact if_neg h
   rw [this]
   rw [Bool.not_eq_true] at h
   rw [h];rfl
def xD (v:Net) (ps:List (List Int)) (A:List K5):List K5:=(eR v [] (CH v ps) () A).1.2
def doU (p pl n:Nat) (_:Unit):St:=[.cells [.ptr p 0],.cells [.ref pl 0 n 1],.cells [.bool false]]
theorem KX {S:List K5→St} {v:Net} {b p m N:Nat} (hR:MemAt S (db v b m) (tEs v) p m N) (hv:Vd v) (ps:List (List Int)) (hps:RunOk v ps) (pl:Nat) (hpl:∀ A,aH (S A) pl=some (ps.map ints)) (hplN:pl<N) (c:List Int) (hcl:c.length=v.rails.length) (hcm:C7 v (rlI c)) (B:List K5) (lp:ABlk) (τ:St) (e:Env)
  (e2:Env.get e 2 = .ptr N 0) (e3:Env.get e 3 = .ptr (N+1) 0) (e4:Env.get e 4 = .ptr (N+2) 0) (e5:Env.get e 5 = .ptr (N+(τ.length+1+1+1+1+1)) 0) :
  wp T PH e (S B++(doU p pl v.trams.length ()++(.cells [.ptr p 0]::lp::(τ++[.cells (bF 5 (rl c))])))) (fun j e'' σ''=>(nH v (iJ v ps (rlI c)) v.trams.length=true∧j=none∧∃ τ',σ''=S B++(doU p pl v.trams.length ()++(.cells [.ptr p 0]::lp::(τ++τ')))) ∨
   (nH v (iJ v ps (rlI c)) v.trams.length=false∧j=some .ret∧∃ τ',σ''=S B++(doU p pl v.trams.length ()++(.cells [.ptr p 0]::lp::(τ++τ'))))):=by
 have hnt:=hv.ntr
 have hpN:=hR.pl
 have hlen:=hps.len
 have hta:∀ (b0 b1 b2 b3 b4:ABlk) (cs:List AV) (τ2:St),aH (S B++(b0::b1::b2::b3::b4::(τ++(.cells cs::τ2)))) (N+(τ.length+1+1+1+1+1))=some cs:=fun b0 b1 b2 b3 b4 cs τ2=>by
  rw [hR.base]
  simp only [o0]
  rw [iB];rfl
 have htb:∀ (b0 b1 b2 b3 b4 b5:ABlk) (cs:List AV) (τ2:St),aH (S B++(b0::b1::b2::b3::b4::(τ++(b5::.cells cs::τ2)))) (N+(τ.length+1+1+1+1+1+1))=some cs:=fun b0 b1 b2 b3 b4 b5 cs τ2=>by
  rw [hR.base]
  simp only [o0]
  have:τ++(b5::.cells cs::τ2)=(τ++[b5])++(.cells cs::τ2):=by simp
  rw [this,show τ.length+1=(τ++[b5]).length by simp,iB];rfl
 have hrun:∀ (σ:St) (k:Nat),aH σ p=some (db v b m)→aH σ pl=some (ps.map ints)→aH σ k=some [.ref pl 0 v.trams.length 1]→iC T (.func 109 [] []) [.ptr p 0,.agg (bF 5 (rl c)),.func 112 [] [.ptr k 0]] σ (.agg (bF 3 (bS (iJ v ps (rlI c))))):=fun σ k h1 h2 h3=>by
  have hkl:=nM h3
  exact EQ v hv b m p σ h1 (nM h1) _ (fun τ n hn=>by
   try simp only [QS,QC,Nat.reduceLT,reduceIte,Nat.reduceEqDiff,Nat.reduceAdd,Nat.reduceLeDiff,Nat.reduceMul,Nat.reduceBEq,eZ,hR.len,hR.base,hR.base0,hR.bset,hR.bset0,hR.at1,hR.at0,CN]
   simp [show k<n by omega]) ps hps (fun i hi τ=>KW ps pl v.trams.length k hlen.symm _ (iT h3 τ) (iT h2 τ) i (by omega)) (rl c) (rlI c) (P0 c) hcm
 have hcc:(iJ v ps (rlI c)).length=v.trams.length:=wR _ _ _ _
 obtain ⟨CS,hCS⟩:∃ CS,iJ v ps (rlI c)=CS:=⟨_,rfl⟩
 simp only [hCS] at hrun
 rw [hCS] at hcc
 rw [hCS]
 have hplS:∀ τ,aH (S B++τ) pl=some (ps.map ints):=fun τ=>iT (hpl B) τ
 have hk3:∀ (b0 b2 b3 b4:ABlk) (cs:List AV) (τ2:St),aH (S B++(b0::.cells cs::b2::τ2)) (N+1)=some cs:=fun b0 b2 b3 b4 cs τ2=>by rw [hR.base];rfl
 simp only [doU]
 (repeat (first|simp only [↓QA,QB,Nat.reduceLT,reduceIte,Nat.reduceEqDiff,Nat.reduceAdd,Nat.reduceLeDiff,Nat.reduceMul,Nat.reduceBEq,eZ,hR.len,hR.base,hR.base0,hR.bset,hR.bset0,hR.at1,hR.at0,PH,hta,e2,e3,e4,e5]|refine rd0 rfl ?_))
 refine bM (hrun _ (N+1) (hR.at1 _ _) (hplS _) (by rw [hR.base];rfl)) ?_
 (repeat (first|simp only [↓QA,QB,Nat.reduceLT,reduceIte,Nat.reduceEqDiff,Nat.reduceAdd,Nat.reduceLeDiff,Nat.reduceMul,Nat.reduceBEq,eZ,hR.len,hR.base,hR.base0,hR.bset,hR.bset0,hR.at1,hR.at0,hta,htb,e2,e3,e4,e5]|refine rd0 rfl ?_))
 refine dF (S:=Nat) 0 (fun k=>k≤v.trams.length∧nH v CS k=true) (fun k=>v.trams.length-k)
  (fun k=>[(2,.ptr N 0),(4,.ptr (N+2) 0),(6,.ptr (N+(τ.length+1+1+1+1+1+1)) 0),(21,.int .i64 v.trams.length),(22,.int .i64 k)])
  (fun k=>S B++(.cells [.ptr p 0]::.cells [.ref pl 0 v.trams.length 1]::.cells [.bool false]::.cells [.ptr p 0]::lp::(τ++[.cells (bF 5 (rl c)),.cells (bF 3 (bS CS))]))) ⟨Nat.zero_le _,rfl⟩ rfl ?_ fun k hk=>?_
 ·try simp only [aD,QE,Nat.reduceLT,reduceIte,Nat.reduceEqDiff,Nat.reduceAdd,Nat.reduceLeDiff,Nat.reduceMul,Nat.reduceBEq,eZ,hR.len,hR.base,hR.base0,hR.bset,hR.bset0,hR.at1,hR.at0,e2,e4]
  try simp
 ·obtain ⟨hk,hf⟩:=hk
  (repeat (first|simp only [↓QA,QB,Nat.reduceLT,reduceIte,Nat.reduceEqDiff,Nat.reduceAdd,Nat.reduceLeDiff,Nat.reduceMul,Nat.reduceBEq,eZ,hR.len,hR.base,hR.base0,hR.bset,hR.bset0,hR.at1,hR.at0,VQ]|refine rd0 rfl ?_))
  refine aI (fun hd=>?_) fun hd=>?_
  ·have hk1:k<v.trams.length:=by simpa using hd
   have hw:=cR hk1 (by omega)
   have hsu:=DM v CS k
   rw [hf,Bool.true_and] at hsu
   have i3:(0:Int)≤(k:Int)∧(k:Int)<((3:Nat):Int):=⟨by omega,by omega⟩
   have hg:=iE 3 (bS CS) (i:=k) (by omega)
   have hin:=fun σ (hσ:aH σ p=some (db v b m))=>B2 v b m p σ hσ k hk1 (bS CS k)
   have hfe:jI v k (bS CS k)=jI v k (fI CS (k:Int)):=rfl
   (repeat (first|simp only [↓QA,QB,Nat.reduceLT,reduceIte,Nat.reduceEqDiff,Nat.reduceAdd,Nat.reduceLeDiff,Nat.reduceMul,Nat.reduceBEq,eZ,hR.len,hR.base,hR.base0,hR.bset,hR.bset0,hR.at1,hR.at0,htb,i3,hg]|refine rd0 rfl ?_))
   refine y9 (hin _ (hR.at1 _ _)) ?_
   rw [hfe]
   cases hq:jI v k (fI CS (k:Int))
   ·rw [hq] at hsu
    have hff:=KU hsu (show k+1≤v.trams.length by omega)
    rw [hff]
    (repeat (first|simp only [↓QA,QB,Nat.reduceLT,reduceIte,Nat.reduceEqDiff,Nat.reduceAdd,Nat.reduceLeDiff,Nat.reduceMul,Nat.reduceBEq,eZ,hR.len,hR.base,hR.base0,hR.bset,hR.bset0,hR.at1,hR.at0,htb,i3,hg]|refine rd0 rfl ?_))
    exact .inr ⟨[.cells (bF 5 (rl c)),.cells (bF 3 (bS CS))],by simp⟩
   ·rw [hq] at hsu
    (repeat (first|simp only [↓QA,QB,Nat.reduceLT,reduceIte,Nat.reduceEqDiff,Nat.reduceAdd,Nat.reduceLeDiff,Nat.reduceMul,Nat.reduceBEq,eZ,hR.len,hR.base,hR.base0,hR.bset,hR.bset0,hR.at1,hR.at0,htb,i3,hg]|refine rd0 rfl ?_))
    refine ⟨k+1,⟨by omega,hsu⟩,by omega,?_⟩
    try simp only [aD,QE,Nat.reduceLT,reduceIte,Nat.reduceEqDiff,Nat.reduceAdd,Nat.reduceLeDiff,Nat.reduceMul,Nat.reduceBEq,eZ,hR.len,hR.base,hR.base0,hR.bset,hR.bset0,hR.at1,hR.at0,hw,hR.eqS]
    try simp [aN,okVs,okV]
    try omega
  ·have hk1:k=v.trams.length:=by
    have:¬k<v.trams.length:=by simpa using hd
    omega
   rw [hk1] at hf
   rw [hf]
   (repeat (first|simp only [↓QA,QB,Nat.reduceLT,reduceIte,Nat.reduceEqDiff,Nat.reduceAdd,Nat.reduceLeDiff,Nat.reduceMul,Nat.reduceBEq,eZ,hR.len,hR.base,hR.base0,hR.bset,hR.bset0,hR.at1,hR.at0]|refine rd0 rfl ?_))
   exact .inl ⟨[.cells (bF 5 (rl c)),.cells (bF 3 (bS CS))],by simp⟩
theorem J0 {S:List K5→St} {v:Net} {b p m N:Nat} (hR:MemAt S (db v b m) (tEs v) p m N) (hv:Vd v) (hb:ButIs b []) (ps:List (List Int)) (hps:RunOk v ps) (pl:Nat) (hpl:∀ A,aH (S A) pl=some (ps.map ints)) (hplN:pl<N) (A:List K5) :
  yV T (.func 87 [] []) [.ptr p 0,.ref pl 0 v.trams.length 1] (S A) (.bool (mE v ps)) (S (xD v ps A)):=by
 have hnt:=hv.ntr
 have hpN:=hR.pl
 have hlen:=hps.len
 have hit:=ER v ps (TL v [])
 have hok:∀ (x:Unit) (y:ABlk),y∈doU p pl v.trams.length x→∀ k,N≤k→aN k y:=by
  intro x y hy k hk
  simp only [doU,List.mem_cons,List.not_mem_nil,or_false] at hy
  rcases hy with rfl|rfl|rfl<;>simp [aN,okVs,okV]<;>omega
 refine uU hR (af:=a87) rfl (by simp [a87]) ?_
 have hrg:=lI hR hv hb (doU p pl v.trams.length) (doU p pl v.trams.length) 3 (fun _=>rfl) (fun _=>rfl) hok hok .ret (f:=CH v ps)
 (repeat (first|simp only [↓QA,QB,Nat.reduceLT,reduceIte,Nat.reduceEqDiff,Nat.reduceAdd,Nat.reduceLeDiff,Nat.reduceMul,Nat.reduceBEq,eZ,hR.len,hR.base,hR.base0,hR.bset,hR.bset0,hR.at1,hR.at0,a87]|refine rd0 rfl ?_))
 refine qW rfl (by simp [a80]) ?_
 (repeat (first|simp only [↓QA,QB,Nat.reduceLT,reduceIte,Nat.reduceEqDiff,Nat.reduceAdd,Nat.reduceLeDiff,Nat.reduceMul,Nat.reduceBEq,eZ,hR.len,hR.base,hR.base0,hR.bset,hR.bset0,hR.at1,hR.at0,a80]|refine rd0 rfl ?_))
 refine hrg _ 9 [10,11] _ _ ?_ ?_ () A _ ?_ ?_
 ·try simp only [aD,QE,Nat.reduceLT,reduceIte,Nat.reduceEqDiff,Nat.reduceAdd,Nat.reduceLeDiff,Nat.reduceMul,Nat.reduceBEq,eZ,hR.len,hR.base,hR.base0,hR.bset,hR.bset0,hR.at1,hR.at0]
 ·refine mS (S:=fun _=>S) (fun _=>hR) (doU p pl v.trams.length) (doU p pl v.trams.length) 3 (fun _=>rfl) (fun _=>rfl) .ret _ _ (nQ v) (fun _ _ _=>rfl) _ _ ?_
  intro c hc fl tk x B τ
  obtain ⟨hcl,hcm⟩:=hc.1
  simp only [jN,nQ,doU]
  have hfin:CH v ps c x=((),nH v (iJ v ps (rlI c)) v.trams.length):=rfl
  rw [hfin]
  have db:=fun lp e=>KX hR hv ps hps pl hpl hplN c hcl hcm B lp τ e
  simp only [doU] at db
  (repeat (first|simp only [↓QA,QB,Nat.reduceLT,reduceIte,Nat.reduceEqDiff,Nat.reduceAdd,Nat.reduceLeDiff,Nat.reduceMul,Nat.reduceBEq,eZ,hR.len,hR.base,hR.base0,hR.bset,hR.bset0,hR.at1,hR.at0]|refine rd0 rfl ?_))
  refine ⟨[.cells (bF 5 (rl c))],by simp,?_⟩
  refine db _ _ ?_ ?_ ?_ ?_
  all_goals try simp only [aD,QE,Nat.reduceLT,reduceIte,Nat.reduceEqDiff,Nat.reduceAdd,Nat.reduceLeDiff,Nat.reduceMul,Nat.reduceBEq,eZ,hR.len,hR.base,hR.base0,hR.bset,hR.bset0,hR.at1,hR.at0]
 ·intro τ h2
  rw [hit] at h2
  have h3:mE v ps=true:=h2
  rw [h3]
  simp only [doU]
  (repeat (first|simp only [↓QA,QB,Nat.reduceLT,reduceIte,Nat.reduceEqDiff,Nat.reduceAdd,Nat.reduceLeDiff,Nat.reduceMul,Nat.reduceBEq,eZ,hR.len,hR.base,hR.base0,hR.bset,hR.bset0,hR.at1,hR.at0]|refine rd0 rfl ?_))
  refine ⟨_,_,rfl,rfl,?_⟩
  try simp only [QS,QC,Nat.reduceLT,reduceIte,Nat.reduceEqDiff,Nat.reduceAdd,Nat.reduceLeDiff,Nat.reduceMul,Nat.reduceBEq,eZ,hR.len,hR.base,hR.base0,hR.bset,hR.bset0,hR.at1,hR.at0]
 ·intro τ h2
  rw [hit] at h2
  have h3:mE v ps=false:=h2
  rw [h3]
  simp only [doU]
  (repeat (first|simp only [↓QA,QB,Nat.reduceLT,reduceIte,Nat.reduceEqDiff,Nat.reduceAdd,Nat.reduceLeDiff,Nat.reduceMul,Nat.reduceBEq,eZ,hR.len,hR.base,hR.base0,hR.bset,hR.bset0,hR.at1,hR.at0]|refine rd0 rfl ?_))
  refine ⟨_,_,rfl,rfl,?_⟩
  try simp only [QS,QC,Nat.reduceLT,reduceIte,Nat.reduceEqDiff,Nat.reduceAdd,Nat.reduceLeDiff,Nat.reduceMul,Nat.reduceBEq,eZ,hR.len,hR.base,hR.base0,hR.bset,hR.bset0,hR.at1,hR.at0]
abbrev PS:=List (Option (List Int))×List K5
def IW (l:List (Option (List Int))):List (List Int):=l.map fun o=>o.getD []
theorem AZ (P:List (List Int)):IW (P.map some)=P:=by
 rw [IW,List.map_map]
 exact List.map_id P
def wK (v:Net) (rec:Nat→PS→Bool×PS) (t left:Nat):List (List Int)→PS→Bool×PS
 |[],y=>(false,y)
 |w::ws,y =>
  if fU v t w≤left then (if (rec (left-fU v t w) (y.1.set t (some w),y.2)).1=true then rec (left-fU v t w) (y.1.set t (some w),y.2) else wK v rec t left ws (rec (left-fU v t w) (y.1.set t (some w),y.2)).2)
  else wK v rec t left ws (y.1.set t (some w),y.2)
def fnd (v:Net):Nat→Nat→Nat→PS→Bool×PS
 |0,_,left,y=>if left=0 then (mE v (IW y.1),(y.1,xD v (IW y.1) y.2)) else (false,y)
 |k+1,t,left,y=>wK v (fun left y=>fnd v k (t+1) left y) t left (cF v (fH v t) []) y
structure Fnd (v:Net) (p:List (List Int)) (t k:Nat) (y:PS):Prop where
 len:y.1.length=t+k
 pre:y.1.take t=p.map some
theorem pJ {y:List (Option (List Int))} {t:Nat} {p:List (List Int)} {w:List Int} (h1:y.take t=p.map some) (h2:t<y.length):(y.set t (some w)).take (t+1)=(p++[w]).map some:=by
 have hl:(y.set t (some w)).length=y.length:=by simp
 rw [List.take_succ_eq_append_getElem (by rw [hl];exact h2)]
 simp [List.take_set_of_le,h1]
theorem w7 (v:Net):∀ (k t left:Nat) (y:PS) (p:List (List Int)),p.length=t→Fnd v p t k y →
  ((fnd v k t left y).1=(dfs v (mE v) k p left).isSome)∧(∀ P,dfs v (mE v) k p left=some P→(fnd v k t left y).2.1=P.map some)∧Fnd v p t k (fnd v k t left y).2
 |0,t,left,y,p,hp,hy=>by
  have hl:y.1=p.map some:=by
   rw [←hy.pre,List.take_of_length_le (by rw [hy.len];omega)]
  simp only [fnd,dfs]
  by_cases h0:left=0
  ·rw [if_pos h0,hl,AZ]
   subst h0
   simp only [decide_true,Bool.true_and]
   cases hd:mE v p
   ·exact ⟨rfl,fun P h=>(by cases h),⟨by rw [←hl];exact hy.len,by simp only;rw [←hl];exact hy.pre.trans hl.symm⟩⟩
   ·refine ⟨rfl,fun P h=>?_,⟨by rw [←hl];exact hy.len,by simp only;rw [←hl];exact hy.pre.trans hl.symm⟩⟩
    simp only [if_true,Option.some.injEq] at h
    rw [h]
  ·rw [if_neg h0]
   simp only [h0,decide_false,Bool.false_and,Bool.false_eq_true,if_false]
   exact ⟨rfl,fun P h=>(by cases h),hy⟩
 |k+1,t,left,y,p,hp,hy=>by
  simp only [fnd,dfs,hp]
  have key:∀ (ws:List (List Int)) (y:PS),Fnd v p t (k+1) y →
    ((wK v (fun left y=>fnd v k (t+1) left y) t left ws y).1=(ws.findSome? fun w=>if fU v t w≤left then dfs v (mE v) k (p++[w]) (left-fU v t w) else none).isSome) ∧
    (∀ P,(ws.findSome? fun w=>if fU v t w≤left then dfs v (mE v) k (p++[w]) (left-fU v t w) else none)=some P→(wK v (fun left y=>fnd v k (t+1) left y) t left ws y).2.1=P.map some)∧Fnd v p t (k+1) (wK v (fun left y=>fnd v k (t+1) left y) t left ws y).2:=by
   intro ws
   induction ws with
   |nil=>intro y hy;exact ⟨rfl,fun P h=>(by cases h),hy⟩
   |cons w ws ih =>
    intro y hy
    have hlt:t<y.1.length:=by have:=hy.len;omega
    have hset:Fnd v (p++[w]) (t+1) k (y.1.set t (some w),y.2):=⟨by have:=hy.len;simp;omega,pJ hy.pre hlt⟩
    have hset2:Fnd v p t (k+1) (y.1.set t (some w),y.2):=⟨by have:=hy.len;simp;omega,by
     rw [←hy.pre];simp [List.take_set_of_le]⟩
    simp only [wK,List.findSome?_cons]
    by_cases ho:fU v t w≤left
    ·rw [if_pos ho,if_pos ho]
     obtain ⟨a,b,c⟩:=w7 v k (t+1) (left-fU v t w) (y.1.set t (some w),y.2) (p++[w]) (by simp [hp]) hset
     obtain ⟨R,hR⟩:∃ R,fnd v k (t+1) (left-fU v t w) (y.1.set t (some w),y.2)=R:=⟨_,rfl⟩
     rw [hR] at a b c ⊢
     have c':Fnd v p t (k+1) R.2:=⟨by have:=c.len;omega,by
      have h1:=congrArg (List.take t) c.pre
      rw [List.take_take,show min t (t+1)=t by omega] at h1
      rw [h1,List.map_append]
      exact List.take_left' (by simp [hp])⟩
     cases hd:dfs v (mE v) k (p++[w]) (left-fU v t w) with
     |some P =>
      rw [hd] at a b
      rw [a]
      simp only [Option.isSome_some,if_true]
      exact ⟨a,fun Q h=>by rw [←(Option.some.inj h)];exact b P rfl,c'⟩
     |none =>
      rw [hd] at a
      rw [a]
      simp only [Option.isSome_none,Bool.false_eq_true,if_false]
      exact ih R.2 c'
    ·rw [if_neg ho,if_neg ho]
     exact ih _ hset2
  exact key _ y hy
end Go.Am.Room
set_option maxRecDepth 4000
namespace Go.Am.Room
structure Vary {Y:Type} (S:Y→St) (N:Nat):Prop where
 len:∀ y,(S y).length=N
 keep:∀ y z i,i<N→eB (S y) (S z) N i
 eqS:∀ k,N≤k→∀ y z a b c,EqS k (S y++a) (S z++b) (S z++c)=EqS k a b c
theorem BC {Y:Type} {S:Y→St} {N:Nat} (hV:Vary S N) {f:FuncId} {first cap args:List AV} {af:AFunc} {v:AV} {y z:Y} (hf:T f=some af) (hn:(first++args++cap).length≤af.ntmps)
  (h:wp T af.body (eX 0 (first++args++cap)) (S y) (fun j e σ1=>(j=none∨j=some .ret)∧∃ v0 τ,fY af.results e σ1=some v0∧σ1=S z++τ∧bT σ1 N 20 v0=some v)):yV T (.func f first cap) args (S y) v (S z):=by
 refine .callf (.call hf hn (fR h fun o ho=>ho) fun o ho=>?_)
 obtain ⟨hj,v0,τ,hres,hσ,h4⟩:=ho
 refine ⟨hj,v0,hres,?_⟩
 unfold bT at h4
 cases hs:snap o.σ N 20 v0 with
 |none=>rw [hs] at h4;cases h4
 |some v1 =>
  rw [hs] at h4
  simp at h4
  refine .inr ⟨20,v1,v,by rw [hV.len];exact hs,.inr h4.symm,fun i hi=>?_,?_,rfl,?_⟩
  ·rw [hσ]
   rw [hV.len] at hi ⊢
   have:=hV.keep y z i hi
   have e2:(S z++τ)[i]? = (S z)[i]?:=List.getElem?_append_left (by rw [hV.len];exact hi)
   simp only [eB,e2] at this ⊢
   exact this
  ·rw [hσ,List.length_append,hV.len,hV.len];omega
  ·rw [hσ,hV.len,←hV.len z,List.take_left]
end Go.Am.Room
set_option maxRecDepth 8000
namespace Go.Am.Room
def c9:=And.intro @bD (And.intro @aK (And.intro @aU (And.intro @aV (And.intro @aT (And.intro @aR (And.intro @a9 (And.intro @aY (And.intro @aW (And.intro @dV (And.intro @dR (And.intro @Nat.not_lt_zero (And.intro @List.length_append.{0} (And.intro @Nat.zero_add (And.intro @Nat.mul_one (And.intro @Int.toNat_natCast (And.intro @Nat.add_lt_add_iff_left (@Nat.lt_add_right_iff_pos)))))))))))))))))
def nL (v:Net) (n:Nat):List AV:=(List.range n).map fun t=>cL (cF v (fH v t) [])
theorem OY (v:Net) {n t:Nat} (h:t<n):(nL v n)[t]? = some (cL (cF v (fH v t) [])):=by simp [nL,h]
theorem tP (l:List (Option (List Int))) (m:Nat):okVs m (l.map jH):=by
 induction l with
 |nil=>trivial
 |cons o l ih =>
  refine ⟨?_,ih⟩
  cases o with
  |none=>simp [jH,okV,okVs]
  |some w=>exact w6 (jZ w) m
theorem LG (l:List (Option (List Int))) {t:Nat} (h:t<l.length) (w:List Int):(l.map jH).take t++[AV.lit (w.map (.int .i64)) false none]++(l.map jH).drop (t+1)=(l.set t (some w)).map jH:=by
 rw [List.map_set,List.set_eq_take_append_cons_drop,if_pos (by simpa using h)]
 simp [jH,ints]
def QL:AV:=.func 86 [] [.ptr 10 0,.ptr 5 0,.ptr 7 0,.ptr 0 0,.ptr 11 0]
theorem gP:QL = .func 86 [] [.ptr 10 0,.ptr 5 0,.ptr 7 0,.ptr 0 0,.ptr 11 0]:=by simp only [QL]
def mvS (v:Net) (y:PS):St:=[.cells (aB v),.cells (aB v),.cells (aB v),.map (tEs v y.2),.cells (db v 0 3),.cells [.ptr 4 0],.cells (nL v v.trams.length),.cells [.ref 6 0 v.trams.length 1],.tok 1 0 false,.cells (y.1.map jH),.cells [.ref 9 0 v.trams.length 1],.cells [QL]]
theorem ZJ (v:Net) (l:List (Option (List Int))):MemAt (fun A=>mvS v (l,A)) (db v 0 3) (tEs v) 4 3 12 :=
 ⟨fun M=>rfl,fun M=>rfl,fun M=>rfl,fun M M'=>rfl,fun A k=>pT v A k,by omega,by omega⟩
theorem ED (v:Net):Vary (mvS v) 12 where
 len:=fun y=>rfl
 keep:=fun y z i hi=>by
  match i,hi with
  |0,_=>exact .inl rfl
  |1,_=>exact .inl rfl
  |2,_=>exact .inl rfl
  |3,_=>exact .inr (.inl ⟨_,rfl,pT v z.2 _⟩)
  |4,_=>exact .inl rfl
  |5,_=>exact .inl rfl
  |6,_=>exact .inl rfl
  |7,_=>exact .inl rfl
  |8,_=>exact .inl rfl
  |9,_=>exact .inr (.inl ⟨_,rfl,tP z.1 _⟩)
  |10,_=>exact .inl rfl
  |11,_=>exact .inl rfl
 eqS:=fun k hk y z a b c=>by
  have h1:=pT v z.2 k
  have h2:aN k (.cells (z.1.map jH)):=tP z.1 k
  simp only [mvS,List.cons_append,List.nil_append,EqS,h1,h2,or_true,true_or,true_and,and_self]
theorem uZ (v:Net) (hv:Vd v):∀ (k t left:Nat) (y:PS) (p:List (List Int)),t+k=v.trams.length→left≤10→p.length=t→Fnd v p t k y→(∀ w∈p,w.length≤4∧∀ r∈w,0≤r∧r<v.rails.length) →
  yV T QL [.int .i64 t,.int .i64 left] (mvS v y) (.bool (fnd v k t left y).1) (mvS v (fnd v k t left y).2)
 |0,t,left,y,p,hn,hleft,hp,hF,hpin=>by
  have hnt:=hv.ntr
  have hl:y.1=p.map some:=by rw [←hF.pre,List.take_of_length_le (by rw [hF.len];omega)]
  have hro:RunOk v p:=⟨by omega,fun w hw=>(hpin w hw).1,fun w hw=>(hpin w hw).2⟩
  have hE:((t:Int)==(v.trams.length:Int))=true:=by simp;omega
  obtain ⟨l,A⟩:=y
  simp only at hl
  subst hl
  have hdo:=J0 (ZJ v (p.map some)) hv KR p hro 9 (fun A=>by show some _=_;rw [xW]) (by omega) A
  have hr:fnd v 0 t left (p.map some,A)=if left=0 then (mE v p,(p.map some,xD v p A)) else (false,(p.map some,A)):=by simp only [fnd,AZ]
  refine BC (ED v) (af:=a86) rfl (by simp [a86]) ?_
  rw [hr]
  cases h0:((left:Int)==0)
  ·have h0':¬left=0:=by simp at h0;omega
   rw [if_neg h0']
   simp only [mvS,gP]
   (repeat (first|simp only [↓QA,QB,Nat.reduceLT,reduceIte,Nat.reduceEqDiff,Nat.reduceAdd,Nat.reduceLeDiff,Nat.reduceMul,Nat.reduceBEq,c9,a86,hE,h0]|refine rd0 rfl ?_))
   exact ⟨_,[],rfl,by simp,by try simp only [QS,QC,Nat.reduceLT,reduceIte,Nat.reduceEqDiff,Nat.reduceAdd,Nat.reduceLeDiff,Nat.reduceMul,Nat.reduceBEq,c9]⟩
  ·have h0':left=0:=by simp at h0;omega
   rw [if_pos h0']
   simp only [mvS,gP] at hdo ⊢
   try simp only [↓QA,QB,Nat.reduceLT,reduceIte,Nat.reduceEqDiff,Nat.reduceAdd,Nat.reduceLeDiff,Nat.reduceMul,Nat.reduceBEq,c9] at hdo
   (repeat (first|simp only [↓QA,QB,Nat.reduceLT,reduceIte,Nat.reduceEqDiff,Nat.reduceAdd,Nat.reduceLeDiff,Nat.reduceMul,Nat.reduceBEq,c9,a86,hE,h0]|refine rd0 rfl ?_))
   refine cT hdo ?_
   (repeat (first|simp only [↓QA,QB,Nat.reduceLT,reduceIte,Nat.reduceEqDiff,Nat.reduceAdd,Nat.reduceLeDiff,Nat.reduceMul,Nat.reduceBEq,c9]|refine rd0 rfl ?_))
   exact ⟨_,[],rfl,by simp,by try simp only [QS,QC,Nat.reduceLT,reduceIte,Nat.reduceEqDiff,Nat.reduceAdd,Nat.reduceLeDiff,Nat.reduceMul,Nat.reduceBEq,c9]⟩
 |k+1,t,left,y,p,hn,hleft,hp,hF,hpin0=>by
  have hnt:=hv.ntr
  have hok1:∀ A,aN 12 (.map (tEs v A)):=fun A=>pT v A 12
  have hok2:∀ l:List (Option (List Int)),aN 12 (.cells (l.map jH)):=fun l=>tP l 12
  have htt:t<v.trams.length:=by omega
  have hE:((t:Int)==(v.trams.length:Int))=false:=by simp;omega
  obtain ⟨z,hz⟩:∃ z,v.trams[t]=z:=⟨_,rfl⟩
  have hpth:eH (lR v) t=z.path:=by rw [GC htt,hz]
  have hzl:=(xC hv htt).len
  rw [hz] at hzl
  have hfr:=C4 htt
  rw [hz] at hfr
  have hwg:=OY v (n:=v.trams.length) htt
  have hwi:∀ w∈cF v (fH v t) [],w.length≤4∧∀ r∈w,0≤r∧r<v.rails.length:=fun w hw=>C0 hw
  have hwc:=xJ (v:=v) (by have:=hv.nra;omega) (fH v t) []
  have hr:fnd v (k+1) t left y=wK v (fun left y=>fnd v k (t+1) left y) t left (cF v (fH v t) []) y:=rfl
  obtain ⟨W,hW⟩:∃ W,cF v (fH v t) []=W:=⟨_,rfl⟩
  rw [hW] at hwg hwc hr
  simp only [hW] at hwi
  obtain ⟨R,hR⟩:∃ R,fnd v (k+1) t left y=R:=⟨_,rfl⟩
  rw [hR] at hr
  have hr':wK v (fun left y=>fnd v k (t+1) left y) t left (W.drop 0) y=R:=hr.symm
  have iA:(0:Int)≤(t:Int)∧(t:Int)<(v.trams.length:Int)∧1=1:=⟨by omega,by omega,rfl⟩
  have hwt:IntKind.i64.wrap ((t:Int)+1)=((t+1:Nat):Int):=cR htt (by omega)
  refine BC (ED v) (af:=a86) rfl (by simp [a86]) ?_
  rw [hR]
  simp only [mvS,gP]
  (repeat (first|simp only [↓QA,QB,Nat.reduceLT,reduceIte,Nat.reduceEqDiff,Nat.reduceAdd,Nat.reduceLeDiff,Nat.reduceMul,Nat.reduceBEq,c9,a86,hE,iA,hwg,bE]|refine rd0 rfl ?_))
  refine dF (S:=Nat×PS) (0,y) (fun a=>a.1≤W.length∧Fnd v p t (k+1) a.2∧wK v (fun left y=>fnd v k (t+1) left y) t left (W.drop a.1) a.2=R) (fun a=>W.length-a.1)
   (fun a=>[(0,.int .i64 t),(1,.int .i64 left),(2,.ptr 10 0),(5,.ptr 0 0),(6,.ptr 11 0),(27,cL W),(28,.int .i64 W.length),(29,.int .i64 a.1)])
   (fun a=>mvS v a.2) ⟨Nat.zero_le _,hF,hr'⟩ (by simp [mvS,gP,aB,ints]) ?_ fun a ha=>?_
  ·try simp only [aD,QE,Nat.reduceLT,reduceIte,Nat.reduceEqDiff,Nat.reduceAdd,Nat.reduceLeDiff,Nat.reduceMul,Nat.reduceBEq,c9,bE]
   try simp
  ·obtain ⟨j,y⟩:=a
   obtain ⟨hj,hF,hR⟩:=ha
   simp only at hj hF hR
   have hlt:t<y.1.length:=by have:=hF.len;omega
   simp only [mvS,gP]
   (repeat (first|simp only [↓QA,QB,Nat.reduceLT,reduceIte,Nat.reduceEqDiff,Nat.reduceAdd,Nat.reduceLeDiff,Nat.reduceMul,Nat.reduceBEq,c9,U7,bE]|refine rd0 rfl ?_))
   refine aI (fun hd=>?_) fun hd=>?_
   ·have hj1:j<W.length:=by simpa using hd
    have hwj:=cR hj1 (by omega)
    rw [List.drop_eq_getElem_cons hj1,wK] at hR
    have hwl:=hwi _ (List.getElem_mem hj1)
    obtain ⟨w,hw⟩:∃ w,W[j]=w:=⟨_,rfl⟩
    rw [hw] at hR hwl
    have hpin:∀ u∈p++[w],u.length≤4∧∀ r∈u,0≤r∧r<v.rails.length:=fun u hu=>by
     rcases List.mem_append.1 hu with hu|hu
     ·exact hpin0 u hu
     ·simp only [List.mem_singleton] at hu;subst hu;exact hwl
    have hss:=LG y.1 hlt w
    have i8:(0:Int)≤(t:Int)∧(t:Int)<(v.trams.length:Int)∧1=1:=iA
    have c8:t+1≤y.1.length:=hlt
    have hot:fU v t w=if w=z.path then 0 else 1:=by rw [fU,hpth]
    have heq:=D4 w z.path (by omega) (by omega)
    simp only [nP] at heq
    (repeat (first|simp only [↓QA,QB,Nat.reduceLT,reduceIte,Nat.reduceEqDiff,Nat.reduceAdd,Nat.reduceLeDiff,Nat.reduceMul,Nat.reduceBEq,c9,hj1,hw,htt,hz,bE]|refine rd0 rfl ?_))
    ((first|refine aF (heq) rfl dd ?_|refine aG (heq) rfl dd ?_);(repeat (first|simp only [↓QA,QB,Nat.reduceLT,reduceIte,Nat.reduceEqDiff,Nat.reduceAdd,Nat.reduceLeDiff,Nat.reduceMul,Nat.reduceBEq,c9,hj1,hw,htt,hz,bE]|refine rd0 rfl ?_)))
    cases q:decide (w=z.path)
    ·have q':¬w=z.path:=by simpa using q
     rw [if_neg q'] at hot
     rw [hot] at hR
     simp only [Bool.not_false,qX]
     by_cases hl1:1≤left
     ·have hlo:IntKind.i64.wrap ((left:Int)-1)=((left-1:Nat):Int):=(dU ⟨by omega,by omega⟩).trans (by omega)
      have hle:decide ((1:Int)≤(left:Int))=true:=decide_eq_true (by omega)
      have hrec:=uZ v hv k (t+1) (left-1) (y.1.set t (some w),y.2) (p++[w]) (by omega) (by omega) (by simp [hp]) ⟨by have:=hF.len;simp;omega,pJ hF.pre hlt⟩ hpin
      rw [if_pos (show 1≤left by omega)] at hR
      obtain ⟨Q,hQ⟩:∃ Q,fnd v k (t+1) (left-1) (y.1.set t (some w),y.2)=Q:=⟨_,rfl⟩
      rw [hQ] at hrec hR
      have hFQ:Fnd v p t (k+1) Q.2:=by
       have:=(w7 v k (t+1) (left-1) (y.1.set t (some w),y.2) (p++[w]) (by simp [hp]) ⟨by have:=hF.len;simp;omega,pJ hF.pre hlt⟩).2.2
       rw [hQ] at this
       refine ⟨by have:=this.len;omega,?_⟩
       have h1:=congrArg (List.take t) this.pre
       rw [List.take_take,show min t (t+1)=t by omega] at h1
       rw [h1,List.map_append]
       exact List.take_left' (by simp [hp])
      obtain ⟨Qb,Qy⟩:=Q
      simp only [mvS,gP] at hrec
      simp only at hR hFQ hrec
      try simp only [↓QA,QB,Nat.reduceLT,reduceIte,Nat.reduceEqDiff,Nat.reduceAdd,Nat.reduceLeDiff,Nat.reduceMul,Nat.reduceBEq,c9] at hrec
      (repeat (first|simp only [↓QA,QB,Nat.reduceLT,reduceIte,Nat.reduceEqDiff,Nat.reduceAdd,Nat.reduceLeDiff,Nat.reduceMul,Nat.reduceBEq,c9,q,i8,c8,hss,hle,hwt,hlo,hj1,hw,htt,hz,bE]|refine rd0 rfl ?_))
      refine cT hrec ?_
      cases Qb
      ·simp only [Bool.false_eq_true,if_false] at hR
       (repeat (first|simp only [↓QA,QB,Nat.reduceLT,reduceIte,Nat.reduceEqDiff,Nat.reduceAdd,Nat.reduceLeDiff,Nat.reduceMul,Nat.reduceBEq,c9,hwj]|refine rd0 rfl ?_))
       refine ⟨(j+1,Qy),⟨by simp only;omega,hFQ,hR⟩,by simp only;omega,?_⟩
       try simp only [aD,QE,Nat.reduceLT,reduceIte,Nat.reduceEqDiff,Nat.reduceAdd,Nat.reduceLeDiff,Nat.reduceMul,Nat.reduceBEq,c9,hwj,bE]
       try simp only [hok1,hok2,or_true,true_or,and_self,true_and]
      ·simp only [if_true] at hR
       subst hR
       (repeat (first|simp only [↓QA,QB,Nat.reduceLT,reduceIte,Nat.reduceEqDiff,Nat.reduceAdd,Nat.reduceLeDiff,Nat.reduceMul,Nat.reduceBEq,c9]|refine rd0 rfl ?_))
       exact ⟨_,[],rfl,by simp [mvS,gP],by try simp only [QS,QC,Nat.reduceLT,reduceIte,Nat.reduceEqDiff,Nat.reduceAdd,Nat.reduceLeDiff,Nat.reduceMul,Nat.reduceBEq,c9]⟩
     ·have hle:decide ((1:Int)≤(left:Int))=false:=by simp;omega
      rw [if_neg hl1] at hR
      (repeat (first|simp only [↓QA,QB,Nat.reduceLT,reduceIte,Nat.reduceEqDiff,Nat.reduceAdd,Nat.reduceLeDiff,Nat.reduceMul,Nat.reduceBEq,c9,q,i8,c8,hss,hle,hwj]|refine rd0 rfl ?_))
      refine ⟨(j+1,(y.1.set t (some w),y.2)),⟨by simp only;omega,⟨by have:=hF.len;simp;omega,by rw [←hF.pre];simp [List.take_set_of_le]⟩,hR⟩,by simp only;omega,?_⟩
      try simp only [aD,QE,Nat.reduceLT,reduceIte,Nat.reduceEqDiff,Nat.reduceAdd,Nat.reduceLeDiff,Nat.reduceMul,Nat.reduceBEq,c9,hwj,bE]
      try simp only [hok1,hok2,or_true,true_or,and_self,true_and]
    ·have q':w=z.path:=by simpa using q
     rw [if_pos q'] at hot
     rw [hot] at hR
     simp only [Bool.not_true,oJ]
     have hlo:IntKind.i64.wrap ((left:Int)-0)=((left-0:Nat):Int):=(dU ⟨by omega,by omega⟩).trans (by omega)
     have hle:decide ((0:Int)≤(left:Int))=true:=decide_eq_true (by omega)
     have hrec:=uZ v hv k (t+1) (left-0) (y.1.set t (some w),y.2) (p++[w]) (by omega) (by omega) (by simp [hp]) ⟨by have:=hF.len;simp;omega,pJ hF.pre hlt⟩ hpin
     rw [if_pos (show 0≤left by omega)] at hR
     obtain ⟨Q,hQ⟩:∃ Q,fnd v k (t+1) (left-0) (y.1.set t (some w),y.2)=Q:=⟨_,rfl⟩
     rw [hQ] at hrec hR
     have hFQ:Fnd v p t (k+1) Q.2:=by
      have:=(w7 v k (t+1) (left-0) (y.1.set t (some w),y.2) (p++[w]) (by simp [hp]) ⟨by have:=hF.len;simp;omega,pJ hF.pre hlt⟩).2.2
      rw [hQ] at this
      refine ⟨by have:=this.len;omega,?_⟩
      have h1:=congrArg (List.take t) this.pre
      rw [List.take_take,show min t (t+1)=t by omega] at h1
      rw [h1,List.map_append]
      exact List.take_left' (by simp [hp])
     obtain ⟨Qb,Qy⟩:=Q
     simp only [mvS,gP] at hrec
     simp only at hR hFQ hrec
     try simp only [↓QA,QB,Nat.reduceLT,reduceIte,Nat.reduceEqDiff,Nat.reduceAdd,Nat.reduceLeDiff,Nat.reduceMul,Nat.reduceBEq,c9] at hrec
     (repeat (first|simp only [↓QA,QB,Nat.reduceLT,reduceIte,Nat.reduceEqDiff,Nat.reduceAdd,Nat.reduceLeDiff,Nat.reduceMul,Nat.reduceBEq,c9,q,i8,c8,hss,hle,hwt,hlo,hj1,hw,htt,hz,bE]|refine rd0 rfl ?_))
     refine cT hrec ?_
     cases Qb
     ·simp only [Bool.false_eq_true,if_false] at hR
      (repeat (first|simp only [↓QA,QB,Nat.reduceLT,reduceIte,Nat.reduceEqDiff,Nat.reduceAdd,Nat.reduceLeDiff,Nat.reduceMul,Nat.reduceBEq,c9,hwj]|refine rd0 rfl ?_))
      refine ⟨(j+1,Qy),⟨by simp only;omega,hFQ,hR⟩,by simp only;omega,?_⟩
      try simp only [aD,QE,Nat.reduceLT,reduceIte,Nat.reduceEqDiff,Nat.reduceAdd,Nat.reduceLeDiff,Nat.reduceMul,Nat.reduceBEq,c9,hwj,bE]
      try simp only [hok1,hok2,or_true,true_or,and_self,true_and]
     ·simp only [if_true] at hR
      subst hR
      (repeat (first|simp only [↓QA,QB,Nat.reduceLT,reduceIte,Nat.reduceEqDiff,Nat.reduceAdd,Nat.reduceLeDiff,Nat.reduceMul,Nat.reduceBEq,c9]|refine rd0 rfl ?_))
      exact ⟨_,[],rfl,by simp [mvS,gP],by try simp only [QS,QC,Nat.reduceLT,reduceIte,Nat.reduceEqDiff,Nat.reduceAdd,Nat.reduceLeDiff,Nat.reduceMul,Nat.reduceBEq,c9]⟩
   ·have hj1:j=W.length:=by
     have:¬j<W.length:=by simpa using hd
     omega
    rw [hj1,List.drop_length,wK] at hR
    subst hR
    (repeat (first|simp only [↓QA,QB,Nat.reduceLT,reduceIte,Nat.reduceEqDiff,Nat.reduceAdd,Nat.reduceLeDiff,Nat.reduceMul,Nat.reduceBEq,c9]|refine rd0 rfl ?_))
    exact ⟨_,[],rfl,by simp [mvS,gP],by try simp only [QS,QC,Nat.reduceLT,reduceIte,Nat.reduceEqDiff,Nat.reduceAdd,Nat.reduceLeDiff,Nat.reduceMul,Nat.reduceBEq,c9]⟩
end Go.Am.Room
set_option maxRecDepth 8000
namespace Go.Am.Room
def cY:=And.intro @bD (And.intro @aK (And.intro @aU (And.intro @aV (And.intro @aT (And.intro @aR (And.intro @a9 (And.intro @aY (And.intro @aW (And.intro @dV (And.intro @dR (And.intro @Nat.not_lt_zero (And.intro @List.length_append.{0} (And.intro @List.length_replicate.{0} (And.intro @Nat.zero_add (And.intro @Nat.mul_one (And.intro @Int.toNat_natCast (And.intro @Nat.add_lt_add_iff_left (@Nat.lt_add_right_iff_pos))))))))))))))))))
theorem qP (x:AV) (n:Nat):(List.replicate n [x]).flatten=List.replicate n x:=by
 induction n with
 |zero=>rfl
 |succ n ih=>simp [List.replicate_succ,ih]
theorem BN:∀ l:List (List Int),sL 1 l.length (l.map ints)=l.map ints
 |[]=>rfl
 |x::l=>by simp [sL,BN l,AV.cell,ints]
theorem WU {σ:St} {m id n:Nat} {l:List (List Int)} (hm:¬id<m) (hn:n=l.length) (hl:aH σ id=some (l.map ints)):bT σ m 20 (.ref id 0 n 1)=some (.lit (l.map ints) false none):=by
 subst hn
 have hv:jV σ (.ref id 0 l.length 1)=some (l.map ints):=by simp [jV,hl,BN]
 rw [I4,if_neg hm,hv]
 simp [m8,NR]
def k8 (v:Net) (n k:Nat):List AV:=(List.range n).map fun t=>if t<k then cL (cF v (fH v t) []) else .lit [] true none
theorem ZC (v:Net) (n:Nat):k8 v n 0=List.replicate n (.lit [] true none):=by simp [k8,List.map_const']
theorem QH (v:Net) (n:Nat):k8 v n n=nL v n:=List.map_congr_left fun t ht=>by
 rw [if_pos (by simpa using ht)]
theorem pW (v:Net) (n k:Nat):(k8 v n k).length=n:=by simp [k8]
theorem RY (v:Net) (n k m:Nat):okVs m (k8 v n k):=by
 have key:∀ l:List Nat,okVs m (l.map fun t=>if t<k then cL (cF v (fH v t) []) else AV.lit [] true none):=by
  intro l
  induction l with
  |nil=>trivial
  |cons t l ih =>
   refine ⟨?_,ih⟩
   simp only
   split
   ·exact w6 (oT _) m
   ·simp [okV,okVs]
 exact key _
theorem M6 (v:Net) {n k:Nat} (h:k<n):(k8 v n k).take k++[cL (cF v (fH v k) [])]++(k8 v n k).drop (k+1)=k8 v n (k+1):=by
 have h1:(k8 v n k).take k++[cL (cF v (fH v k) [])]++(k8 v n k).drop (k+1)=(k8 v n k).set k (cL (cF v (fH v k) [])):=by
  rw [List.set_eq_take_append_cons_drop,if_pos (by rw [pW];exact h)];simp
 rw [h1]
 refine List.ext_getElem? fun j=>?_
 by_cases hj:j<n
 ·rw [List.getElem?_set]
  by_cases e:k=j
  ·subst e;simp [pW,hj,k8]
  ·rw [if_neg e]
   simp only [k8,List.getElem?_map,List.getElem?_range hj,Option.map_some]
   by_cases h2:j<k
   ·simp [h2,show j<k+1 by omega]
   ·simp [h2,show ¬j<k+1 by omega]
 ·rw [List.getElem?_eq_none (by rw [List.length_set,pW];omega),List.getElem?_eq_none (by rw [pW];omega)]
theorem DC (v:Net) (hf:Fits v):d6 T 30 [dK v] (uC (oH v)):=by
 refine aZ (af:=a30) rfl (by simp [a30]) dd ?_
 (repeat (first|simp only [↓QA,QB,Nat.reduceLT,reduceIte,Nat.reduceEqDiff,Nat.reduceAdd,Nat.reduceLeDiff,Nat.reduceMul,Nat.reduceBEq,cY,a30]|refine rd0 rfl ?_))
 by_cases h0:fE v=0
 ·obtain ⟨hv,hne⟩:=rH h0
  have hnt:=hv.ntr
  have her:=vD [.cells (aB v)] v [] (.inl rfl) hf (by rw [kN];exact h0)
  have hsome:∀ p,pQ v (bY v [])=some p→oH v=(p,lA v p,0):=fun p hp=>by rw [oH,if_pos h0,hp]
  have hnone:pQ v (bY v [])=none→oH v=([],[],9):=fun hp=>by rw [oH,if_pos h0,hp]
  have hbp:=UA hv
  obtain ⟨MO,hMO⟩:∃ MO,oH v=MO:=⟨_,rfl⟩
  rw [hMO] at hnone
  simp only [hMO] at hsome
  rw [hMO]
  obtain ⟨W,hW⟩:∃ W,pQ v (bY v [])=W:=⟨_,rfl⟩
  rw [hW] at hbp hnone
  simp only [hW] at hsome
  simp only [jR,List.map_nil] at her
  simp only [aK] at her
  try simp only [↓QA,QB,Nat.reduceLT,reduceIte,Nat.reduceEqDiff,Nat.reduceAdd,Nat.reduceLeDiff,Nat.reduceMul,Nat.reduceBEq,cY] at her
  have hwi:∀ (n:Nat),n=v.trams.length→True:=fun _ _=>trivial
  have hmk:n5 24 (.int .i64 v.trams.length) (.int .i64 v.trams.length)=some v.trams.length:=by simp [n5,room];omega
  have hok1:∀ A k,aN k (.map (tEs v A)):=fun A k=>pT v A k
  have hok2:∀ (l:List (Option (List Int))) k,aN k (.cells (l.map jH)):=fun l k=>tP l k
  have hok3:∀ k m,aN m (.cells (k8 v v.trams.length k)):=fun k m=>RY v _ k m
  refine cT her ?_
  (repeat (first|simp only [↓QA,QB,Nat.reduceLT,reduceIte,Nat.reduceEqDiff,Nat.reduceAdd,Nat.reduceLeDiff,Nat.reduceMul,Nat.reduceBEq,cY,show ((0:Int)==0)=true from rfl,hmk,qP,←ZC v]|refine rd0 rfl ?_))
  refine pU 3 1 [] rfl ?_
  refine dF (S:=Nat) 0 (fun k=>k≤v.trams.length) (fun k=>v.trams.length-k)
   (fun k=>[(1,.ptr 0 0),(3,.lit [] false (some 8)),(5,.ptr 5 0),(6,.ptr 7 0),(27,.lit (v.trams.map cE) false none),(28,.int .i64 v.trams.length),(29,.int .i64 k)])
   (fun k=>[.cells (aB v),.cells (aB v),.cells (aB v),.map (tEs v (nZ v)),.cells (db v 0 3),.cells [.ptr 4 0],.cells (k8 v v.trams.length k),.cells [.ref 6 0 v.trams.length 1],.tok 1 0 false]) (Nat.zero_le _) (by simp [aB,ints]) ?_ fun k hk=>?_
  ·try simp only [aD,QE,Nat.reduceLT,reduceIte,Nat.reduceEqDiff,Nat.reduceAdd,Nat.reduceLeDiff,Nat.reduceMul,Nat.reduceBEq,cY]
   try simp
  ·(repeat (first|simp only [↓QA,QB,Nat.reduceLT,reduceIte,Nat.reduceEqDiff,Nat.reduceAdd,Nat.reduceLeDiff,Nat.reduceMul,Nat.reduceBEq,cY,WC]|refine rd0 rfl ?_))
   refine aI (fun hd=>?_) fun hd=>?_
   ·have hk1:k<v.trams.length:=by simpa using hd
    have hw:=cR hk1 (by omega)
    have hfr:=C4 hk1
    have hto:=(xC hv hk1).frm
    obtain ⟨z,hz⟩:∃ z,v.trams[k]=z:=⟨_,rfl⟩
    rw [hz] at hfr hto
    obtain ⟨S,hS⟩:∃ S:Nat,z.frm=(S:Int):=⟨z.frm.toNat,by omega⟩
    have hst:=hv.st
    have hpw:=xR v hv S (by omega) (-1)
    have hb1:nO (-1)=[]:=rfl
    have hfs:=M6 v hk1
    rw [hb1,←hS,←hfr] at hpw
    rw [hfr,hS] at hpw
    rw [hfr,hS] at hfs
    obtain ⟨Y,hY⟩:∃ Y,cF v (S:Int) []=Y:=⟨_,rfl⟩
    rw [hY] at hpw hfs
    have iA:(0:Int)≤(k:Int)∧(k:Int)<(v.trams.length:Int)∧1=1:=⟨by omega,by omega,rfl⟩
    have hfl:=pW v v.trams.length k
    have c8:k+1≤v.trams.length:=hk1
    simp only [bE] at hpw hfs
    (repeat (first|simp only [↓QA,QB,Nat.reduceLT,reduceIte,Nat.reduceEqDiff,Nat.reduceAdd,Nat.reduceLeDiff,Nat.reduceMul,Nat.reduceBEq,cY,hk1,hz,hS]|refine rd0 rfl ?_))
    ((first|refine aF (hpw) rfl dd ?_|refine aG (hpw) rfl dd ?_);(repeat (first|simp only [↓QA,QB,Nat.reduceLT,reduceIte,Nat.reduceEqDiff,Nat.reduceAdd,Nat.reduceLeDiff,Nat.reduceMul,Nat.reduceBEq,cY,hk1,hz,hS,iA,hfl,c8,hfs,hw]|refine rd0 rfl ?_)))
    refine ⟨k+1,by omega,by omega,?_⟩
    try simp only [aD,QE,Nat.reduceLT,reduceIte,Nat.reduceEqDiff,Nat.reduceAdd,Nat.reduceLeDiff,Nat.reduceMul,Nat.reduceBEq,cY,hw]
    try simp only [hok3,or_true,true_or,and_self,true_and]
   ·have hk1:k=v.trams.length:=by
     have:¬k<v.trams.length:=by simpa using hd
     omega
    rw [hk1,QH]
    have hwn:IntKind.i64.wrap ((v.trams.length:Int)+1)=((v.trams.length+1:Nat):Int):=by rw [dU ⟨by omega,by omega⟩];omega
    have hrep:List.replicate v.trams.length (AV.lit [] true none)=(List.replicate v.trams.length none).map jH:=by simp [jH]
    have hF0:Fnd v [] 0 v.trams.length (List.replicate v.trams.length none,nZ v):=⟨by simp,by simp⟩
    (repeat (first|simp only [↓QA,QB,Nat.reduceLT,reduceIte,Nat.reduceEqDiff,Nat.reduceAdd,Nat.reduceLeDiff,Nat.reduceMul,Nat.reduceBEq,cY,hmk,qP,hrep,hwn]|refine rd0 rfl ?_))
    refine dF (S:=Nat×PS) (0,(List.replicate v.trams.length none,nZ v)) (fun a=>a.1≤v.trams.length+1∧Fnd v [] 0 v.trams.length a.2∧sM v (mE v) (v.trams.length+1-a.1) a.1=W) (fun a=>v.trams.length+1-a.1)
     (fun a=>[(1,.ptr 0 0),(3,.lit [] false (some 8)),(9,.ptr 10 0),(10,.ptr 11 0),(49,.int .i64 ((v.trams.length+1:Nat):Int)),(50,.int .i64 a.1)])
     (fun a=>mvS v a.2) ⟨Nat.zero_le _,hF0,hbp.symm⟩ (by simp [mvS,gP,aB,ints]) ?_ fun a ha=>?_
    ·try simp only [aD,QE,Nat.reduceLT,reduceIte,Nat.reduceEqDiff,Nat.reduceAdd,Nat.reduceLeDiff,Nat.reduceMul,Nat.reduceBEq,cY]
     try simp [clr,clrs]
    ·obtain ⟨m,y⟩:=a
     obtain ⟨hm,hF,hq⟩:=ha
     simp only at hm hF hq
     cases hml:decide ((m:Int)<((v.trams.length+1:Nat):Int))
     ·have hm1:m=v.trams.length+1:=by
       have:¬(m:Int)<((v.trams.length+1:Nat):Int):=by simpa using hml
       omega
      rw [hm1,Nat.sub_self,sM] at hq
      have hres:=hnone hq.symm
      subst hres
      simp only [mvS,gP]
      (repeat (first|simp only [↓QA,QB,Nat.reduceLT,reduceIte,Nat.reduceEqDiff,Nat.reduceAdd,Nat.reduceLeDiff,Nat.reduceMul,Nat.reduceBEq,cY,M7,hml,uC,bE,List.map_nil]|refine rd0 rfl ?_))
      try try simp only [QS,QC,Nat.reduceLT,reduceIte,Nat.reduceEqDiff,Nat.reduceAdd,Nat.reduceLeDiff,Nat.reduceMul,Nat.reduceBEq,cY]
     ·have hm1:m<v.trams.length+1:=by
       have:(m:Int)<((v.trams.length+1:Nat):Int):=by simpa using hml
       omega
      have hwm:=cR hm1 (by omega)
      rw [show v.trams.length+1-m=(v.trams.length+1-(m+1))+1 by omega,sM] at hq
      have hfd:=uZ v hv v.trams.length 0 m y [] (by omega) (by omega) rfl hF (fun w hw=>by cases hw)
      obtain ⟨l1,l2,l3⟩:=w7 v v.trams.length 0 m y [] rfl hF
      obtain ⟨⟨Rb,Ry⟩,hRe⟩:∃ R,fnd v v.trams.length 0 m y=R:=⟨_,rfl⟩
      rw [hRe] at l1 l2 l3 hfd
      simp only at l1 l2 l3 hfd
      simp only [mvS,gP] at hfd ⊢
      try simp only [↓QA,QB,Nat.reduceLT,reduceIte,Nat.reduceEqDiff,Nat.reduceAdd,Nat.reduceLeDiff,Nat.reduceMul,Nat.reduceBEq,cY] at hfd
      have h00:((0:Nat):Int)=0:=rfl
      rw [h00] at hfd
      (repeat (first|simp only [↓QA,QB,Nat.reduceLT,reduceIte,Nat.reduceEqDiff,Nat.reduceAdd,Nat.reduceLeDiff,Nat.reduceMul,Nat.reduceBEq,cY,M7,hml]|refine rd0 rfl ?_))
      refine cT hfd ?_
      cases hdf:dfs v (mE v) v.trams.length [] m with
      |none =>
       rw [hdf] at l1 hq
       simp only [Option.isSome_none] at l1 hq
       subst l1
       (repeat (first|simp only [↓QA,QB,Nat.reduceLT,reduceIte,Nat.reduceEqDiff,Nat.reduceAdd,Nat.reduceLeDiff,Nat.reduceMul,Nat.reduceBEq,cY,hwm]|refine rd0 rfl ?_))
       refine ⟨(m+1,Ry),⟨by simp only;omega,l3,hq⟩,by simp only;omega,?_⟩
       try simp only [aD,QE,Nat.reduceLT,reduceIte,Nat.reduceEqDiff,Nat.reduceAdd,Nat.reduceLeDiff,Nat.reduceMul,Nat.reduceBEq,cY,hwm]
       try simp only [hok1,hok2,or_true,true_or,and_self,true_and]
      |some P =>
       rw [hdf] at l1 hq
       have l2:=l2 P hdf
       simp only [Option.isSome_some] at l1 hq
       subst l1
       have hres:=hsome P hq.symm
       subst hres
       obtain ⟨Rl,RA⟩:=Ry
       simp only at l2 l3
       subst l2
       have hPl:P.length=v.trams.length:=by have:=l3.len;simpa using this
       have hPin:∀ w∈P,w.length≤4:=fun w hw=>by
        have h1:=hdf
        rw [y5,←vK] at h1
        exact (UM (List.mem_of_find?_eq_some h1)).few w hw
       obtain ⟨A,hA⟩:∃ A,lA v P=A:=⟨_,rfl⟩
       have hA':[]++(aO ((0:Nat):Int) ((v.trams.length:Int)-((0:Nat):Int)).toNat).filter (US v P)=A:=by rw [←hA,lA,hPl];simp;rfl
       rw [hA,xW]
       (repeat (first|simp only [↓QA,QB,Nat.reduceLT,reduceIte,Nat.reduceEqDiff,Nat.reduceAdd,Nat.reduceLeDiff,Nat.reduceMul,Nat.reduceBEq,cY,hPl]|refine rd0 rfl ?_))
       refine dF (S:=Nat×List Int×Bool) (0,[],false) (fun a=>a.1≤v.trams.length∧a.2.1++(aO (a.1:Int) ((v.trams.length:Int)-a.1).toNat).filter (US v P)=A∧a.2.1.length≤a.1) (fun a=>v.trams.length-a.1)
        (fun a=>[(1,.ptr 0 0),(3,.lit (a.2.1.map (.int .i64)) false (some 8)),(9,.ptr 10 0),(57,.ref 9 0 v.trams.length 1),(58,.int .i64 v.trams.length),(59,.int .i64 a.1)])
        (fun a=>[.cells (aB v),.cells (aB v),.cells (aB v),.map (tEs v RA),.cells (db v 0 3),.cells [.ptr 4 0],.cells (nL v v.trams.length),.cells [.ref 6 0 v.trams.length 1],.tok 1 a.2.1.length a.2.2,.cells (P.map ints),.cells [.ref 9 0 v.trams.length 1],.cells [QL]]) ⟨Nat.zero_le _,hA',by simp⟩ (by simp [aB,ints,gP]) ?_ fun a ha=>?_
       ·try simp only [aD,QE,Nat.reduceLT,reduceIte,Nat.reduceEqDiff,Nat.reduceAdd,Nat.reduceLeDiff,Nat.reduceMul,Nat.reduceBEq,cY,G4 (show 9<12 by omega)]
        try simp
       ·obtain ⟨t,acc,ex⟩:=a
        obtain ⟨ht,hacc,hal⟩:=ha
        simp only at ht hacc hal
        (repeat (first|simp only [↓QA,QB,Nat.reduceLT,reduceIte,Nat.reduceEqDiff,Nat.reduceAdd,Nat.reduceLeDiff,Nat.reduceMul,Nat.reduceBEq,cY,U3]|refine rd0 rfl ?_))
        refine aI (fun hd=>?_) fun hd=>?_
        ·have ht1:t<v.trams.length:=by simpa using hd
         have hw:=cR ht1 (by omega)
         have htp:t<P.length:=by omega
         rw [F5 ht1] at hacc
         have hmv:US v P (t:Int) = !decide (P[t]=v.trams[t].path):=by rw [US,Int.toNat_natCast,JK htp,GC ht1]
         have hpl:=hPin _ (List.getElem_mem htp)
         have htl:=(xC hv ht1).len
         obtain ⟨z,hz⟩:∃ z,v.trams[t]=z:=⟨_,rfl⟩
         obtain ⟨p,hpe⟩:∃ p,P[t]=p:=⟨_,rfl⟩
         rw [hz,hpe] at hmv
         rw [hz] at htl
         rw [hpe] at hpl
         have iA:(0:Int)≤(t:Int)∧(t:Int)<(v.trams.length:Int)∧1=1:=⟨by omega,by omega,rfl⟩
         have heq:=D4 p z.path (by omega) (by omega)
         simp only [nP] at heq
         have hap:=fun (b0 b1 b2 b3 b4 b5 b6 b7:ABlk) (τ:St)=>pM (σ:=b0::b1::b2::b3::b4::b5::b6::b7::.tok 1 acc.length ex::τ) (l:=acc) (a:=(t:Int)) (ex:=ex) (t:=8) (by omega) rfl
         (repeat (first|simp only [↓QA,QB,Nat.reduceLT,reduceIte,Nat.reduceEqDiff,Nat.reduceAdd,Nat.reduceLeDiff,Nat.reduceMul,Nat.reduceBEq,cY,iA,htp,hpe,ht1,hz,nP]|refine rd0 rfl ?_))
         ((first|refine aF (heq) rfl dd ?_|refine aG (heq) rfl dd ?_);(repeat (first|simp only [↓QA,QB,Nat.reduceLT,reduceIte,Nat.reduceEqDiff,Nat.reduceAdd,Nat.reduceLeDiff,Nat.reduceMul,Nat.reduceBEq,cY,iA,htp,hpe,ht1,hz,nP]|refine rd0 rfl ?_)))
         cases q:decide (p=z.path)
         ·rw [hmv,q] at hacc
          simp only [Bool.not_false,qX]
          (repeat (first|simp only [↓QA,QB,Nat.reduceLT,reduceIte,Nat.reduceEqDiff,Nat.reduceAdd,Nat.reduceLeDiff,Nat.reduceMul,Nat.reduceBEq,cY,hap,hw]|refine rd0 rfl ?_))
          refine ⟨(t+1,acc++[(t:Int)],true),⟨by simp only;omega,by simpa using hacc,by simp;omega⟩,by simp only;omega,?_⟩
          try simp only [aD,QE,Nat.reduceLT,reduceIte,Nat.reduceEqDiff,Nat.reduceAdd,Nat.reduceLeDiff,Nat.reduceMul,Nat.reduceBEq,cY,hw,nE,G4 (show 9<12 by omega),List.map_append,List.map_cons,List.map_nil]
          try simp [aN]
         ·rw [hmv,q] at hacc
          simp only [Bool.not_true,oJ]
          (repeat (first|simp only [↓QA,QB,Nat.reduceLT,reduceIte,Nat.reduceEqDiff,Nat.reduceAdd,Nat.reduceLeDiff,Nat.reduceMul,Nat.reduceBEq,cY,hw]|refine rd0 rfl ?_))
          refine ⟨(t+1,acc,ex),⟨by simp only;omega,by simpa using hacc,by simp only;omega⟩,by simp only;omega,?_⟩
          try simp only [aD,QE,Nat.reduceLT,reduceIte,Nat.reduceEqDiff,Nat.reduceAdd,Nat.reduceLeDiff,Nat.reduceMul,Nat.reduceBEq,cY,hw,nE,G4 (show 9<12 by omega)]
          try simp [aN]
        ·have ht1:t=v.trams.length:=by
          have:¬t<v.trams.length:=by simpa using hd
          omega
         rw [OA ht1,List.append_nil] at hacc
         subst hacc
         have hsr:=fun (b0 b1 b2 b3 b4 b5 b6 b7 b8:ABlk) (τ:St)=>WU (σ:=b0::b1::b2::b3::b4::b5::b6::b7::b8::.cells (P.map ints)::τ) (m:=0) (id:=9) (n:=v.trams.length) (l:=P) (by omega) hPl.symm rfl
         (repeat (first|simp only [↓QA,QB,Nat.reduceLT,reduceIte,Nat.reduceEqDiff,Nat.reduceAdd,Nat.reduceLeDiff,Nat.reduceMul,Nat.reduceBEq,cY,uC,bE,nP]|refine rd0 rfl ?_))
         try try simp only [QS,QC,Nat.reduceLT,reduceIte,Nat.reduceEqDiff,Nat.reduceAdd,Nat.reduceLeDiff,Nat.reduceMul,Nat.reduceBEq,cY,hsr]
 ·have h0':(fE v==0)=false:=by simpa using h0
  have her:=yP [.cells (aB v)] v [] (.inl rfl) hf (by rw [kN];exact h0)
  rw [kN] at her
  have hm:oH v=([],[],fE v):=by rw [oH,if_neg h0]
  rw [hm]
  simp only [List.map_nil] at her
  simp only [aK] at her
  refine cT her ?_
  (repeat (first|simp only [↓QA,QB,Nat.reduceLT,reduceIte,Nat.reduceEqDiff,Nat.reduceAdd,Nat.reduceLeDiff,Nat.reduceMul,Nat.reduceBEq,cY,h0',uC,bE,List.map_nil]|refine rd0 rfl ?_))
  try rfl
end Go.Am.Room
set_option maxRecDepth 8000
namespace Go.Am.Room
def mO:=And.intro @bD (And.intro @aK (And.intro @aU (And.intro @aV (And.intro @aT (And.intro @aR (And.intro @a9 (And.intro @aY (And.intro @aW (And.intro @dV (And.intro @dR (And.intro @Nat.not_lt_zero (And.intro @List.length_append.{0} (And.intro @Nat.zero_add (And.intro @Nat.mul_one (And.intro @Int.toNat_natCast (And.intro @dO (And.intro @eO (And.intro @eN (And.intro @jF (And.intro @eT (And.intro @Nat.add_lt_add_iff_left (And.intro @Nat.lt_add_right_iff_pos (And.intro @mY (@m5))))))))))))))))))))))))
def qA (x:B64):St:=[.cells [.int .i64 (x.1.1:Nat)],.cells [.int .i64 (x.1.2:Nat)]]
theorem LD {v:Net} (hv:Vd v) (c:List Int) (x:B64) (B:List K5) (lp:ABlk) (τ:St) (e:Env) (G:Option AJump→St→Prop)
  (e1:Env.get e 1 = .ptr 0 0) (e6:Env.get e 6 = .ptr 5 0) (e7:Env.get e 7 = .ptr 6 0) (e8:Env.get e 8 = .ptr (τ.length+9) 0) (R:B64×Bool) (hRr:mU gU v.rails.length c x=R) :
  wp T P8 e (jR [.cells (aB v)] v B++(qA x++(.cells [.ptr 4 0]::lp::(τ++[.cells (bF 5 (rl c))])))) (fun j e'' σ''=>(R.2=true∧j=none∧∃ τ',σ''=jR [.cells (aB v)] v B++(qA R.1++(.cells [.ptr 4 0]::lp::(τ++τ'))))∨G j σ''):=by
 have hnt:=hv.nra
 have hR1:R.1.1=dH (gU c) v.rails.length x.1:=by rw [←hRr,uW gU (by omega)]
 have hR2:R.2=true:=by rw [←hRr];exact xQ _ _ _ _
 have hlt:=fun k hk=>nT (gU c) (n:=6) x.2 k hk
 have hta:∀ (b0 b1 b2 b3 b4 b5 b6 b7 b8:ABlk),aH (b0::b1::b2::b3::b4::b5::b6::b7::b8::(τ++[.cells (bF 5 (rl c))])) (τ.length+9)=some (bF 5 (rl c)):=fun b0 b1 b2 b3 b4 b5 b6 b7 b8=>by
  simp only [o0]
  rw [iB];rfl
 simp only [qA,hR1,jR,aK]
 (repeat (first|simp only [↓QA,QB,Nat.reduceLT,reduceIte,Nat.reduceEqDiff,Nat.reduceAdd,Nat.reduceLeDiff,Nat.reduceMul,Nat.reduceBEq,mO,P8,e1]|refine rd0 rfl ?_))
 refine dF (S:=Nat) 0 (fun k=>k≤v.rails.length) (fun k=>v.rails.length-k)
  (fun k=>[(1,.ptr 0 0),(6,.ptr 5 0),(7,.ptr 6 0),(8,.ptr (τ.length+9) 0),(29,.int .i64 v.rails.length),(30,.int .i64 k)])
  (fun k=>jR [.cells (aB v)] v B++(.cells [.int .i64 ((dH (gU c) k x.1).1:Nat)]::.cells [.int .i64 ((dH (gU c) k x.1).2:Nat)]::.cells [.ptr 4 0]::lp::(τ++[.cells (bF 5 (rl c))]))) (Nat.zero_le _) (by simp [jR,aB,dH]) ?_ fun k hk=>?_
 ·try simp only [aD,QE,Nat.reduceLT,reduceIte,Nat.reduceEqDiff,Nat.reduceAdd,Nat.reduceLeDiff,Nat.reduceMul,Nat.reduceBEq,mO,e1,e6,e7,e8]
  try simp
 ·(repeat (first|simp only [↓QA,QB,Nat.reduceLT,reduceIte,Nat.reduceEqDiff,Nat.reduceAdd,Nat.reduceLeDiff,Nat.reduceMul,Nat.reduceBEq,mO,VS,jR]|refine rd0 rfl ?_))
  refine aI (fun hd=>?_) fun hd=>?_
  ·have hk1:k<v.rails.length:=by simpa using hd
   have hw:=cR hk1 (by omega)
   have hst:dH (gU c) (k+1) x.1=if gU c k=true then (zP (dH (gU c) k x.1).1 (2^k),(dH (gU c) k x.1).2) else ((dH (gU c) k x.1).1,(dH (gU c) k x.1).2|||2^k):=rfl
   obtain ⟨l1,l2⟩:=hlt k (by omega)
   obtain ⟨⟨Y1,Y2⟩,hY⟩:∃ Y,dH (gU c) k x.1=Y:=⟨_,rfl⟩
   rw [hY] at hst l1 l2
   simp only at hst l1 l2
   have hp2:=iW (show k≤60 by omega)
   have hsh:=sI k (by omega)
   have hor:=ZU Y2 (2^k) (by omega) (by omega)
   have han:=FU Y1 (2^k) (by omega) (by omega)
   have i3:(0:Int)≤(k:Int)∧(k:Int)<((5:Nat):Int):=⟨by omega,by omega⟩
   have hg:=iE 5 (rl c) (i:=k) (by omega)
   have hop:gU c k = !(rl c k==0):=rfl
   rw [hY]
   cases hf:(rl c k==0)
   ·rw [hop,hf] at hst
    simp only [Bool.not_false,if_true] at hst
    (repeat (first|simp only [↓QA,QB,Nat.reduceLT,reduceIte,Nat.reduceEqDiff,Nat.reduceAdd,Nat.reduceLeDiff,Nat.reduceMul,Nat.reduceBEq,mO,hta,i3,hg,hsh,han,hf]|refine rd0 rfl ?_))
    refine ⟨k+1,by omega,by omega,?_⟩
    rw [hst]
    try simp only [aD,QE,Nat.reduceLT,reduceIte,Nat.reduceEqDiff,Nat.reduceAdd,Nat.reduceLeDiff,Nat.reduceMul,Nat.reduceBEq,mO,hw]
    try simp [aN,okVs,okV]
    try omega
   ·rw [hop,hf] at hst
    simp only [Bool.not_true,Bool.false_eq_true,if_false] at hst
    (repeat (first|simp only [↓QA,QB,Nat.reduceLT,reduceIte,Nat.reduceEqDiff,Nat.reduceAdd,Nat.reduceLeDiff,Nat.reduceMul,Nat.reduceBEq,mO,hta,i3,hg,hsh,hor,hf]|refine rd0 rfl ?_))
    refine ⟨k+1,by omega,by omega,?_⟩
    rw [hst]
    try simp only [aD,QE,Nat.reduceLT,reduceIte,Nat.reduceEqDiff,Nat.reduceAdd,Nat.reduceLeDiff,Nat.reduceMul,Nat.reduceBEq,mO,hw]
    try simp [aN,okVs,okV]
    try omega
  ·have hk1:k=v.rails.length:=by
    have:¬k<v.rails.length:=by simpa using hd
    omega
   rw [hk1]
   (repeat (first|simp only [↓QA,QB,Nat.reduceLT,reduceIte,Nat.reduceEqDiff,Nat.reduceAdd,Nat.reduceLeDiff,Nat.reduceMul,Nat.reduceBEq,mO]|refine rd0 rfl ?_))
   exact .inl ⟨hR2,[.cells (bF 5 (rl c))],rfl⟩
end Go.Am.Room
set_option maxRecDepth 8000
namespace Go.Am.Room
def kC:=And.intro @bD (And.intro @aK (And.intro @aU (And.intro @aV (And.intro @aT (And.intro @aR (And.intro @a9 (And.intro @aY (And.intro @aW (And.intro @dV (And.intro @dR (And.intro @Nat.not_lt_zero (And.intro @List.length_append.{0} (And.intro @Nat.zero_add (And.intro @Nat.mul_one (And.intro @Int.toNat_natCast (And.intro @dO (And.intro @eO (And.intro @eN (And.intro @jF (And.intro @eT (And.intro @Nat.add_lt_add_iff_left (And.intro @Nat.lt_add_right_iff_pos (And.intro @mY (@m5))))))))))))))))))))))))
theorem D9 (v:Net) (hf:Fits v):d6 T 32 [dK v] (pK (uT v)):=by
 refine aZ (af:=a32) rfl (by simp [a32]) dd ?_
 (repeat (first|simp only [↓QA,QB,Nat.reduceLT,reduceIte,Nat.reduceEqDiff,Nat.reduceAdd,Nat.reduceLeDiff,Nat.reduceMul,Nat.reduceBEq,kC,a32]|refine rd0 rfl ?_))
 by_cases h0:fE v=0
 ·obtain ⟨hv,hne⟩:=rH h0
  have hnt:=hv.nra
  have h6:v.rails.length≤6:=by omega
  obtain ⟨hl1,hl2⟩:=QJ hv h6
  have hit:=AB gU v.rails.length (TL v []) (jS _ h6)
  obtain ⟨⟨⟨P,Q⟩,hPQ⟩,hY⟩:∃ Y,kZ gU v.rails.length (TL v []) (jS _ h6)=Y:=⟨_,rfl⟩
  rw [hY] at hl1 hl2 hit
  simp only at hl1 hl2 hPQ
  have hm:uT v=(lst v.rails.length P,lst v.rails.length Q,0):=by rw [uT,if_pos h0,hl1,hl2]
  have hlo1:=rS P v.rails.length (by omega) (by omega)
  have hlo2:=rS Q v.rails.length (by omega) (by omega)
  have hsh:=sI v.rails.length (by omega)
  have hp2:=iW (show v.rails.length≤60 by omega)
  have hw:IntKind.i64.wrap (((2^v.rails.length:Nat):Int)-1)=((2^v.rails.length-1:Nat):Int):=by
   have:=Nat.two_pow_pos v.rails.length
   rw [dU ⟨by omega,by omega⟩];omega
  have hok:∀ (x:B64) (y:ABlk),y∈qA x→∀ k,5≤k→aN k y:=by
   intro x y hy k hk
   simp only [qA,List.mem_cons,List.not_mem_nil,or_false] at hy
   rcases hy with rfl|rfl<;>simp [aN,okVs,okV]
  have hR:=xK [.cells (aB v)] v
  have hrng:=lI hR hv KR qA qA 2 (fun _=>rfl) (fun _=>rfl) hok hok .ret (f:=mU gU v.rails.length)
  have her:=fun σ=>vD σ v [] (.inl rfl) hf (by rw [kN];exact h0)
  simp only [List.map_nil] at her
  rw [hm]
  simp only [jR] at hrng her
  simp only [aK] at hrng her
  refine cT (her _) ?_
  (repeat (first|simp only [↓QA,QB,Nat.reduceLT,reduceIte,Nat.reduceEqDiff,Nat.reduceAdd,Nat.reduceLeDiff,Nat.reduceMul,Nat.reduceBEq,kC,show ((0:Int)==0)=true from rfl,hsh,hw]|refine rd0 rfl ?_))
  refine qW rfl (by simp [a80]) ?_
  (repeat (first|simp only [↓QA,QB,Nat.reduceLT,reduceIte,Nat.reduceEqDiff,Nat.reduceAdd,Nat.reduceLeDiff,Nat.reduceMul,Nat.reduceBEq,kC,a80]|refine rd0 rfl ?_))
  refine hrng _ 24 [25,26] _ _ ?_ ?_ (jS _ h6) (nZ v) _ ?_ ?_
  ·try simp only [aD,QE,Nat.reduceLT,reduceIte,Nat.reduceEqDiff,Nat.reduceAdd,Nat.reduceLeDiff,Nat.reduceMul,Nat.reduceBEq,kC]
  ·refine mS (S:=fun _=>jR [.cells (aB v)] v) (fun _=>hR) qA qA 2 (fun _=>rfl) (fun _=>rfl) .ret _ _ (nQ v) (fun _ _ _=>rfl) _ _ ?_
   intro c _ fl tk x B τ
   simp only [jN,nQ]
   obtain ⟨R,hRr⟩:∃ R,mU gU v.rails.length c x=R:=⟨_,rfl⟩
   rw [hRr]
   have lb:=fun lp e G=>LD hv c x B lp τ e G
   simp only [qA,jR,aK] at lb ⊢
   (repeat (first|simp only [↓QA,QB,Nat.reduceLT,reduceIte,Nat.reduceEqDiff,Nat.reduceAdd,Nat.reduceLeDiff,Nat.reduceMul,Nat.reduceBEq,kC]|refine rd0 rfl ?_))
   refine ⟨[.cells (bF 5 (rl c))],by simp,?_⟩
   refine lb _ _ _ ?_ ?_ ?_ ?_ R hRr
   all_goals try simp only [aD,QE,Nat.reduceLT,reduceIte,Nat.reduceEqDiff,Nat.reduceAdd,Nat.reduceLeDiff,Nat.reduceMul,Nat.reduceBEq,kC]
  ·intro τ h2
   rw [hit]
   simp only [qA]
   (repeat (first|simp only [↓QA,QB,Nat.reduceLT,reduceIte,Nat.reduceEqDiff,Nat.reduceAdd,Nat.reduceLeDiff,Nat.reduceMul,Nat.reduceBEq,kC]|refine rd0 rfl ?_))
   ((first|refine aF (hlo1) rfl dd ?_|refine aG (hlo1) rfl dd ?_);(repeat (first|simp only [↓QA,QB,Nat.reduceLT,reduceIte,Nat.reduceEqDiff,Nat.reduceAdd,Nat.reduceLeDiff,Nat.reduceMul,Nat.reduceBEq,kC]|refine rd0 rfl ?_)))
   ((first|refine aF (hlo2) rfl dd ?_|refine aG (hlo2) rfl dd ?_);(repeat (first|simp only [↓QA,QB,Nat.reduceLT,reduceIte,Nat.reduceEqDiff,Nat.reduceAdd,Nat.reduceLeDiff,Nat.reduceMul,Nat.reduceBEq,kC,pK]|refine rd0 rfl ?_)))
  ·intro τ h2
   rw [hit] at h2
   cases h2
 ·have her:=fun σ=>yP σ v [] (.inl rfl) hf (by rw [kN];exact h0)
  simp only [List.map_nil,kN] at her
  have h0':(fE v==0)=false:=by simpa using h0
  have hm:uT v=([],[],fE v):=by rw [uT,if_neg h0]
  rw [hm]
  refine cT (her _) ?_
  (repeat (first|simp only [↓QA,QB,Nat.reduceLT,reduceIte,Nat.reduceEqDiff,Nat.reduceAdd,Nat.reduceLeDiff,Nat.reduceMul,Nat.reduceBEq,kC,h0',pK]|refine rd0 rfl ?_))
  try rfl
end Go.Am.Room
set_option maxRecDepth 8000
namespace Go.Am.Room
def dA:=And.intro @bD (And.intro @aK (And.intro @aU (And.intro @aV (And.intro @aT (And.intro @aR (And.intro @a9 (And.intro @aY (And.intro @aW (And.intro @dV (And.intro @dR (And.intro @Nat.not_lt_zero (And.intro @List.length_append.{0} (And.intro @Nat.zero_add (And.intro @Nat.mul_one (@Int.toNat_natCast)))))))))))))))
theorem BL (v:Net) (hf:Fits v):d6 T 34 [dK v] (y6 (rG v)):=by
 refine aZ (af:=a34) rfl (by simp [a34]) dd ?_
 (repeat (first|simp only [↓QA,QB,Nat.reduceLT,reduceIte,Nat.reduceEqDiff,Nat.reduceAdd,Nat.reduceLeDiff,Nat.reduceMul,Nat.reduceBEq,dA,a34]|refine rd0 rfl ?_))
 ((first|refine aF (kM v hf) rfl dd ?_|refine aG (kM v hf) rfl dd ?_);(repeat (first|simp only [↓QA,QB,Nat.reduceLT,reduceIte,Nat.reduceEqDiff,Nat.reduceAdd,Nat.reduceLeDiff,Nat.reduceMul,Nat.reduceBEq,dA,n7]|refine rd0 rfl ?_)))
 cases h0:((cG v).2.2==0)
 ·have h0':(cG v).2.2≠0:=by simpa using h0
  have hr:rG v=(0,0,(cG v).2.2):=by rw [rG,if_neg h0']
  rw [hr]
  (repeat (first|simp only [↓QA,QB,Nat.reduceLT,reduceIte,Nat.reduceEqDiff,Nat.reduceAdd,Nat.reduceLeDiff,Nat.reduceMul,Nat.reduceBEq,dA,h0,y6]|refine rd0 rfl ?_))
  try rfl
 ·have h0':(cG v).2.2=0:=by simpa using h0
  have hv:=gS h0'
  have hnr:=hv.nra
  have hnt:=hv.ntr
  obtain ⟨R,hR⟩:∃ R,uQ v=R:=⟨_,rfl⟩
  have hr:rG v=if R.1<0 then (0,0,9) else (R.1,R.2,0):=by rw [rG,if_pos h0',hR]
  have hR':qK v (aO ((0:Nat):Int) ((v.rails.length:Int)-((0:Nat):Int)).toNat) (-1,0)=R:=by rw [←hR,uQ];simp
  rw [hr]
  (repeat (first|simp only [↓QA,QB,Nat.reduceLT,reduceIte,Nat.reduceEqDiff,Nat.reduceAdd,Nat.reduceLeDiff,Nat.reduceMul,Nat.reduceBEq,dA,h0]|refine rd0 rfl ?_))
  refine dF (S:=Nat×Int×Int) (0,-1,0) (fun a=>a.1≤v.rails.length∧qK v (aO (a.1:Int) ((v.rails.length:Int)-a.1).toNat) a.2=R) (fun a=>v.rails.length-a.1)
   (fun a=>[(1,.ptr 0 0),(2,.int .i64 a.2.1),(3,.int .i64 a.2.2),(4,.int .i64 (cG v).2.2),(20,.lit (v.rails.map dD) false none),(21,.int .i64 v.rails.length),(22,.int .i64 a.1)]) (fun _=>[.cells (aB v)]) ⟨Nat.zero_le _,hR'⟩ (by simp [aB,ints]) ?_ fun a ha=>?_
  ·try simp only [aD,QE,Nat.reduceLT,reduceIte,Nat.reduceEqDiff,Nat.reduceAdd,Nat.reduceLeDiff,Nat.reduceMul,Nat.reduceBEq,dA]
   try simp
  ·obtain ⟨k,b,c⟩:=a
   obtain ⟨hk,hq⟩:=ha
   simp only at hk hq
   (repeat (first|simp only [↓QA,QB,Nat.reduceLT,reduceIte,Nat.reduceEqDiff,Nat.reduceAdd,Nat.reduceLeDiff,Nat.reduceMul,Nat.reduceBEq,dA,V2]|refine rd0 rfl ?_))
   refine aI (fun h2=>?_) fun h2=>?_
   ·have hk1:k<v.rails.length:=by simpa using h2
    have hw:=cR hk1 (by omega)
    rw [EU hk1] at hq
    obtain ⟨z,hz⟩:∃ z,v.rails[k]=z:=⟨_,rfl⟩
    rw [hz] at hq
    obtain ⟨C,hC⟩:∃ C,xM v k=C:=⟨_,rfl⟩
    rw [hC] at hq
    (repeat (first|simp only [↓QA,QB,Nat.reduceLT,reduceIte,Nat.reduceEqDiff,Nat.reduceAdd,Nat.reduceLeDiff,Nat.reduceMul,Nat.reduceBEq,dA,hk1,hz]|refine rd0 rfl ?_))
    cases q1:(z.shut==1)
    ·have q1':z.shut≠1:=by simpa using q1
     rw [if_neg q1'] at hq
     (repeat (first|simp only [↓QA,QB,Nat.reduceLT,reduceIte,Nat.reduceEqDiff,Nat.reduceAdd,Nat.reduceLeDiff,Nat.reduceMul,Nat.reduceBEq,dA,q1]|refine rd0 rfl ?_))
     refine dF (S:=Nat) 0 (fun j=>j≤v.trams.length) (fun j=>v.trams.length-j)
      (fun j=>[(1,.ptr 0 0),(2,.int .i64 b),(3,.int .i64 c),(4,.int .i64 (cG v).2.2),(5,.int .i64 k),(7,.int .i64 (sC v k j:Nat)),(20,.lit (v.rails.map dD) false none),(21,.int .i64 v.rails.length),(22,.int .i64 k),(31,.lit (v.trams.map cE) false none),(32,.int .i64 v.trams.length),(33,.int .i64 j)]) (fun _=>[.cells (aB v),.cells (dD z).cells]) (Nat.zero_le _) (by simp [aB,ints,sC,dD,AV.cells]) ?_ fun j hj=>?_
     ·try simp only [aD,QE,Nat.reduceLT,reduceIte,Nat.reduceEqDiff,Nat.reduceAdd,Nat.reduceLeDiff,Nat.reduceMul,Nat.reduceBEq,dA,sC]
      try simp
     ·(repeat (first|simp only [↓QA,QB,Nat.reduceLT,reduceIte,Nat.reduceEqDiff,Nat.reduceAdd,Nat.reduceLeDiff,Nat.reduceMul,Nat.reduceBEq,dA,UZ]|refine rd0 rfl ?_))
      refine aI (fun h3=>?_) fun h3=>?_
      ·have hj1:j<v.trams.length:=by simpa using h3
       have hwj:=cR hj1 (by omega)
       have hcl:=PB v k j
       have hs:=H4 v k j
       have hwc:=cR (show sC v k j<v.trams.length by omega) (by omega)
       have hwt:=(xC hv hj1).frm
       have hst:=hv.st
       rw [C4 hj1] at hs
       obtain ⟨y,hy⟩:∃ y,v.trams[j]=y:=⟨_,rfl⟩
       rw [hy] at hs hwt
       obtain ⟨f,hf1,hf2⟩:∃ f:Nat,y.frm=f∧f<5:=⟨y.frm.toNat,by omega,by omega⟩
       rw [hf1] at hs
       have hpw:=xR v hv f hf2 k
       rw [show nO (k:Int)=[(k:Int)] by rw [nO,if_neg (by omega)]] at hpw
       obtain ⟨W,hW⟩:∃ W,cF v f [(k:Int)]=W:=⟨_,rfl⟩
       rw [hW] at hpw hs
       have hwe:(((W.length:Nat):Int)==0)=W.isEmpty:=by cases W<;>simp<;>omega
       (repeat (first|simp only [↓QA,QB,Nat.reduceLT,reduceIte,Nat.reduceEqDiff,Nat.reduceAdd,Nat.reduceLeDiff,Nat.reduceMul,Nat.reduceBEq,dA,hj1,hy,hf1]|refine rd0 rfl ?_))
       ((first|refine aF (hpw) rfl dd ?_|refine aG (hpw) rfl dd ?_);(repeat (first|simp only [↓QA,QB,Nat.reduceLT,reduceIte,Nat.reduceEqDiff,Nat.reduceAdd,Nat.reduceLeDiff,Nat.reduceMul,Nat.reduceBEq,dA,bE,hwe]|refine rd0 rfl ?_)))
       cases hse:W.isEmpty
       ·rw [hse] at hs
        simp only [Bool.false_eq_true,if_false,Nat.add_zero] at hs
        (repeat (first|simp only [↓QA,QB,Nat.reduceLT,reduceIte,Nat.reduceEqDiff,Nat.reduceAdd,Nat.reduceLeDiff,Nat.reduceMul,Nat.reduceBEq,dA,hwj]|refine rd0 rfl ?_))
        refine ⟨j+1,by omega,by omega,?_⟩
        rw [hs]
        try simp only [aD,QE,Nat.reduceLT,reduceIte,Nat.reduceEqDiff,Nat.reduceAdd,Nat.reduceLeDiff,Nat.reduceMul,Nat.reduceBEq,dA,hwj]
        try simp [aN]
       ·rw [hse] at hs
        simp only [if_true] at hs
        (repeat (first|simp only [↓QA,QB,Nat.reduceLT,reduceIte,Nat.reduceEqDiff,Nat.reduceAdd,Nat.reduceLeDiff,Nat.reduceMul,Nat.reduceBEq,dA,hwj,hwc]|refine rd0 rfl ?_))
        refine ⟨j+1,by omega,by omega,?_⟩
        rw [hs]
        try simp only [aD,QE,Nat.reduceLT,reduceIte,Nat.reduceEqDiff,Nat.reduceAdd,Nat.reduceLeDiff,Nat.reduceMul,Nat.reduceBEq,dA,hwj,hwc]
        try simp [aN]
      ·have hj1:j=v.trams.length:=by
        have:¬j<v.trams.length:=by simpa using h3
        omega
       rw [hj1]
       have hCC:((sC v k v.trams.length:Nat):Int)=C:=by rw [←hC];rfl
       rw [hCC]
       (repeat (first|simp only [↓QA,QB,Nat.reduceLT,reduceIte,Nat.reduceEqDiff,Nat.reduceAdd,Nat.reduceLeDiff,Nat.reduceMul,Nat.reduceBEq,dA]|refine rd0 rfl ?_))
       cases q2:decide (b<0)
       ·have q2':¬b<0:=by simpa using q2
        cases q3:decide (c<C)
        ·have q3':¬c<C:=by simpa using q3
         rw [if_neg (by simp only;omega)] at hq
         (repeat (first|simp only [↓QA,QB,Nat.reduceLT,reduceIte,Nat.reduceEqDiff,Nat.reduceAdd,Nat.reduceLeDiff,Nat.reduceMul,Nat.reduceBEq,dA,q2,q3,hw]|refine rd0 rfl ?_))
         refine ⟨(k+1,b,c),⟨by simp only;omega,hq⟩,by simp only;omega,?_⟩
         try simp only [aD,QE,Nat.reduceLT,reduceIte,Nat.reduceEqDiff,Nat.reduceAdd,Nat.reduceLeDiff,Nat.reduceMul,Nat.reduceBEq,dA,hw]
         try simp [aN]
        ·have q3':c<C:=by simpa using q3
         rw [if_pos (.inr q3')] at hq
         (repeat (first|simp only [↓QA,QB,Nat.reduceLT,reduceIte,Nat.reduceEqDiff,Nat.reduceAdd,Nat.reduceLeDiff,Nat.reduceMul,Nat.reduceBEq,dA,q2,q3,hw]|refine rd0 rfl ?_))
         refine ⟨(k+1,(k:Int),C),⟨by simp only;omega,hq⟩,by simp only;omega,?_⟩
         try simp only [aD,QE,Nat.reduceLT,reduceIte,Nat.reduceEqDiff,Nat.reduceAdd,Nat.reduceLeDiff,Nat.reduceMul,Nat.reduceBEq,dA,hw]
         try simp [aN]
       ·have q2':b<0:=by simpa using q2
        rw [if_pos (.inl q2')] at hq
        (repeat (first|simp only [↓QA,QB,Nat.reduceLT,reduceIte,Nat.reduceEqDiff,Nat.reduceAdd,Nat.reduceLeDiff,Nat.reduceMul,Nat.reduceBEq,dA,q2,hw]|refine rd0 rfl ?_))
        refine ⟨(k+1,(k:Int),C),⟨by simp only;omega,hq⟩,by simp only;omega,?_⟩
        try simp only [aD,QE,Nat.reduceLT,reduceIte,Nat.reduceEqDiff,Nat.reduceAdd,Nat.reduceLeDiff,Nat.reduceMul,Nat.reduceBEq,dA,hw]
        try simp [aN]
    ·have q1':z.shut=1:=by simpa using q1
     rw [if_pos q1'] at hq
     (repeat (first|simp only [↓QA,QB,Nat.reduceLT,reduceIte,Nat.reduceEqDiff,Nat.reduceAdd,Nat.reduceLeDiff,Nat.reduceMul,Nat.reduceBEq,dA,q1,hw]|refine rd0 rfl ?_))
     refine ⟨(k+1,b,c),⟨by simp only;omega,hq⟩,by simp only;omega,?_⟩
     try simp only [aD,QE,Nat.reduceLT,reduceIte,Nat.reduceEqDiff,Nat.reduceAdd,Nat.reduceLeDiff,Nat.reduceMul,Nat.reduceBEq,dA,hw]
     try simp [aN]
   ·have hk1:k=v.rails.length:=by
     have:¬k<v.rails.length:=by simpa using h2
     omega
    rw [n8 (by omega),qK] at hq
    subst hq
    cases q:decide (b<0)
    ·have q':¬b<0:=by simpa using q
     rw [if_neg (by simpa using q')]
     (repeat (first|simp only [↓QA,QB,Nat.reduceLT,reduceIte,Nat.reduceEqDiff,Nat.reduceAdd,Nat.reduceLeDiff,Nat.reduceMul,Nat.reduceBEq,dA,q,y6]|refine rd0 rfl ?_))
     try rfl
    ·have q':b<0:=by simpa using q
     rw [if_pos (by simpa using q')]
     (repeat (first|simp only [↓QA,QB,Nat.reduceLT,reduceIte,Nat.reduceEqDiff,Nat.reduceAdd,Nat.reduceLeDiff,Nat.reduceMul,Nat.reduceBEq,dA,q,y6]|refine rd0 rfl ?_))
     try rfl
theorem TK {v:Net} (hv:Vd v):eW v.rails []≠[]:=by
 have:v.rails.map (fun r=>if r.shut=1 then 0 else r.mins.lo)∈eW v.rails []:=(iZ _ _ _).2 ⟨_,rfl,by simp,fun i h hr=>by
  have h2:=(hv.ra _ (List.getElem_mem hr)).mins
  rw [List.getElem?_eq_getElem (by simpa using hr),Option.getD_some,List.getElem_map]
  obtain ⟨z,hz⟩:∃ z,v.rails[i]=z:=⟨_,rfl⟩
  rw [hz] at h2 ⊢
  simp only [chP,List.mem_append]
  by_cases q:z.shut=1
  ·rw [if_pos q,if_neg (by omega)]
   exact .inl (by simp)
  ·rw [if_neg q,if_neg q]
   exact .inr (oO.2 ⟨Int.le_refl _,by omega⟩)⟩
 exact List.ne_nil_of_mem this
theorem PF {v:Net} {but:List Int} (h:∀ k,k<v.seen.length→but.contains (k:Int)=true) (cs:List Int):mL v but cs=true:=by
 rw [mL,List.all_eq_true]
 intro k hk
 have hk2:k<v.seen.length:=by simpa using hk
 rw [List.getElem?_eq_getElem hk2]
 simp only [h k hk2,Bool.true_or]
theorem N2 {v:Net} (hv:Vd v) {but:List Int} (h:∀ k,k<v.seen.length→but.contains (k:Int)=true):zC v but=true:=by
 obtain ⟨c,hc⟩:=List.exists_mem_of_ne_nil _ (TK hv)
 have ht:c∈TL v but:=List.mem_filter.2 ⟨hc,PF h _⟩
 obtain ⟨s,hs,_⟩:=pO hv ht
 rw [zC]
 cases hh:bY v but with
 |nil=>rw [hh] at hs;cases hs
 |cons a b=>rfl
theorem KM {v:Net} (hv:Vd v):∀ c∈dJ v.seen.length v.seen.length,zC v c=true:=fun c hc=>by
 have hl:=hv.nse
 exact N2 hv fun k hk=>C3 ⟨v.seen.length,by omega⟩ c hc ⟨k,by omega⟩ hk
theorem pH (f:List Int→Bool) (n:Nat):∀ k m,dN f n (k+1) m=(dN f n k m).or ((dJ n (m+k)).find? f)
 |0,m=>by simp only [dN,Nat.add_zero];cases (dJ n m).find? f<;>rfl
 |k+1,m=>by
  rw [dN,pH f n k (m+1)]
  rw [show dN f n (k+1) m=(match (dJ n m).find? f with|some l=>some l|none=>dN f n k (m+1)) from rfl]
  rw [show m+1+k=m+(k+1) by omega]
  cases (dJ n m).find? f<;>rfl
theorem FA {v:Net} (hv:Vd v):dN (zC v) v.seen.length (v.seen.length+1) 0=some (zE v):=by
 have hl:=hv.nse
 have h1:=E9 ⟨v.seen.length,by omega⟩
 simp only at h1
 obtain ⟨w,hw⟩:=List.length_eq_one_iff.1 h1
 have hs:=KM hv w (by rw [hw];simp)
 rw [pH,zE,Nat.zero_add,hw]
 cases dN (zC v) v.seen.length v.seen.length 0 with
 |some l=>rfl
 |none=>simp [hs]
end Go.Am.Room
set_option maxRecDepth 8000
namespace Go.Am.Room
def bH:=And.intro @bD (And.intro @aK (And.intro @aU (And.intro @aV (And.intro @aT (And.intro @aR (And.intro @a9 (And.intro @aY (And.intro @aW (And.intro @List.length_append.{0} (And.intro @Nat.mul_one (And.intro @Int.toNat_natCast (And.intro @dV (And.intro @dR (@nE))))))))))))))
def yQ (σ:St) (v:Net) (b:Nat) (A:List K5):St:=σ++[.cells (aB v),.map (tEs v A),.cells (db v b (σ.length+1))]
theorem UJ (σ:St) (v:Net) (b:Nat):MemAt (yQ σ v b) (db v b (σ.length+1)) (tEs v) (σ.length+2) (σ.length+1) (σ.length+3) :=
 ⟨fun M=>by simp [yQ],fun M=>by simp [yQ,qV,o0,NY],fun M=>by rw [yQ,qD];rfl,fun M M'=>by rw [yQ,yQ,m6];rfl,fun A k=>pT v A k,by omega,by omega⟩
theorem AL (v:Net) (hf:Fits v):d6 T 36 [dK v] (JH (wS v)):=by
 refine aZ (af:=a36) rfl (by simp [a36]) dd ?_
 (repeat (first|simp only [↓QA,QB,Nat.reduceLT,reduceIte,Nat.reduceEqDiff,Nat.reduceAdd,Nat.reduceLeDiff,Nat.reduceMul,Nat.reduceBEq,bH,a36]|refine rd0 rfl ?_))
 ((first|refine aF (kM v hf) rfl dd ?_|refine aG (kM v hf) rfl dd ?_);(repeat (first|simp only [↓QA,QB,Nat.reduceLT,reduceIte,Nat.reduceEqDiff,Nat.reduceAdd,Nat.reduceLeDiff,Nat.reduceMul,Nat.reduceBEq,bH,n7]|refine rd0 rfl ?_)))
 cases h0:((cG v).2.2==0)
 ·have h0':(cG v).2.2≠0:=by simpa using h0
  have hwo:wS v=([],(cG v).2.2):=if_neg h0'
  rw [hwo]
  (repeat (first|simp only [↓QA,QB,Nat.reduceLT,reduceIte,Nat.reduceEqDiff,Nat.reduceAdd,Nat.reduceLeDiff,Nat.reduceMul,Nat.reduceBEq,bH,h0,JH]|refine rd0 rfl ?_))
  try rfl
 ·have h0':(cG v).2.2=0:=by simpa using h0
  have hwo:wS v=(zE v,0):=if_pos h0'
  have hv:=gS h0'
  have hnl:=hv.nse
  have hwf:=FA hv
  rw [←ZE _ _ (by omega)] at hwf
  rw [hwo]
  obtain ⟨W,hW⟩:∃ W,zE v=W:=⟨_,rfl⟩
  rw [hW] at hwf ⊢
  obtain ⟨n,hn⟩:∃ n,v.seen.length=n:=⟨_,rfl⟩
  rw [hn] at hwf hnl
  have hp:2^n≤2^3:=Nat.pow_le_pow_right (by omega) hnl
  have hshl:=sI n (by omega)
  obtain ⟨P,hP⟩:∃ P,2^n=P:=⟨_,rfl⟩
  have hbl:∀ s,s<P→ButIs s (lst n s):=fun s hs=>QZ (by omega) (by omega)
  rw [hP] at hp hshl hwf
  obtain ⟨q,hq⟩:∃ q,zC v=q:=⟨_,rfl⟩
  have hqd:∀ l,(!(bY v l).isEmpty)=q l:=fun l=>by rw [←hq];rfl
  rw [hq] at hwf
  (repeat (first|simp only [↓QA,QB,Nat.reduceLT,reduceIte,Nat.reduceEqDiff,Nat.reduceAdd,Nat.reduceLeDiff,Nat.reduceMul,Nat.reduceBEq,bH,h0,hn,hshl]|refine rd0 rfl ?_))
  refine dF (S:=Nat×Option (List Int)) (0,none) (fun x=>x.1≤P∧k9 q n (P-x.1) x.1 x.2=some W∧(x.2.getD []).length≤n) (fun x=>P-x.1)
   (fun x=>[(1,.ptr 0 0),(2,ints (x.2.getD [])),(4,.bool x.2.isSome),(19,.int .i64 P),(20,.int .i64 x.1)])
   (fun x=>[.cells (aB v)]) ⟨by simp,by simpa using hwf,by simp⟩ (by simp [aB,ints]) ?_ fun x hx=>?_
  ·try simp only [aD,QE,Nat.reduceLT,reduceIte,Nat.reduceEqDiff,Nat.reduceAdd,Nat.reduceLeDiff,Nat.reduceMul,Nat.reduceBEq,bH,ints,Option.getD_none,Option.isSome_none]
   try simp [clr,clrs]
  ·obtain ⟨s,o⟩:=x
   obtain ⟨hs,hfo,hol⟩:=hx
   simp only at hs hfo hol
   (repeat (first|simp only [↓QA,QB,Nat.reduceLT,reduceIte,Nat.reduceEqDiff,Nat.reduceAdd,Nat.reduceLeDiff,Nat.reduceMul,Nat.reduceBEq,bH,U4]|refine rd0 rfl ?_))
   refine aI (fun h=>?_) fun h=>?_
   ·have hs1:s<P:=by simpa using h
    have hw:=cR hs1 (by omega)
    have hll:=IT n s
    have hlk:=DB [.cells (aB v)] v s
    have hso:=BH (UJ [.cells (aB v)] v s) hv (hbl s hs1) []
    have e0:tEs v []=[]:=rfl
    rw [hqd] at hso
    have hlo:=rS s n (by omega) (by omega)
    rw [show P-s=(P-(s+1))+1 by omega] at hfo
    simp only [k9] at hfo
    obtain ⟨L,hL⟩:∃ L,lst n s=L:=⟨_,rfl⟩
    rw [hL] at hfo hll hlo hso
    obtain ⟨qL,hqL⟩:∃ x,q L=x:=⟨_,rfl⟩
    rw [hqL] at hso
    simp only [yQ,yG,e0] at hso hlk
    try simp only [↓QA,QB,Nat.reduceLT,reduceIte,Nat.reduceEqDiff,Nat.reduceAdd,Nat.reduceLeDiff,Nat.reduceMul,Nat.reduceBEq,bH,List.cons_append,List.nil_append,List.length_cons,List.length_nil] at hso hlk
    (repeat (first|simp only [↓QA,QB,Nat.reduceLT,reduceIte,Nat.reduceEqDiff,Nat.reduceAdd,Nat.reduceLeDiff,Nat.reduceMul,Nat.reduceBEq,bH,hn,Option.getD_some]|refine rd0 rfl ?_))
    ((first|refine aF (hlo) rfl dd ?_|refine aG (hlo) rfl dd ?_);(repeat (first|simp only [↓QA,QB,Nat.reduceLT,reduceIte,Nat.reduceEqDiff,Nat.reduceAdd,Nat.reduceLeDiff,Nat.reduceMul,Nat.reduceBEq,bH]|refine rd0 rfl ?_)))
    cases o with
    |none =>
     have hst:hJ q none L=if q L=true then some L else none:=rfl
     (repeat (first|simp only [↓QA,QB,Nat.reduceLT,reduceIte,Nat.reduceEqDiff,Nat.reduceAdd,Nat.reduceLeDiff,Nat.reduceMul,Nat.reduceBEq,bH,Option.isSome_none,Option.getD_none]|refine rd0 rfl ?_))
     refine cT hlk ?_
     (repeat (first|simp only [↓QA,QB,Nat.reduceLT,reduceIte,Nat.reduceEqDiff,Nat.reduceAdd,Nat.reduceLeDiff,Nat.reduceMul,Nat.reduceBEq,bH]|refine rd0 rfl ?_))
     refine cT hso ?_
     (repeat (first|simp only [↓QA,QB,Nat.reduceLT,reduceIte,Nat.reduceEqDiff,Nat.reduceAdd,Nat.reduceLeDiff,Nat.reduceMul,Nat.reduceBEq,bH]|refine rd0 rfl ?_))
     cases qL
     ·rw [hqL] at hst
      simp only [Bool.false_eq_true,if_false] at hst
      rw [hst] at hfo
      (repeat (first|simp only [↓QA,QB,Nat.reduceLT,reduceIte,Nat.reduceEqDiff,Nat.reduceAdd,Nat.reduceLeDiff,Nat.reduceMul,Nat.reduceBEq,bH,hw]|refine rd0 rfl ?_))
      refine ⟨(s+1,none),⟨by simp only;omega,hfo,by simp⟩,by simp only;omega,?_⟩
      try simp only [aD,QE,Nat.reduceLT,reduceIte,Nat.reduceEqDiff,Nat.reduceAdd,Nat.reduceLeDiff,Nat.reduceMul,Nat.reduceBEq,bH,hw,Option.isSome_none,Option.getD_none]
      try simp [ints,aN]
     ·rw [hqL] at hst
      simp only [if_true] at hst
      rw [hst] at hfo
      (repeat (first|simp only [↓QA,QB,Nat.reduceLT,reduceIte,Nat.reduceEqDiff,Nat.reduceAdd,Nat.reduceLeDiff,Nat.reduceMul,Nat.reduceBEq,bH,hw]|refine rd0 rfl ?_))
      refine ⟨(s+1,some L),⟨by simp only;omega,hfo,by simpa using hll⟩,by simp only;omega,?_⟩
      try simp only [aD,QE,Nat.reduceLT,reduceIte,Nat.reduceEqDiff,Nat.reduceAdd,Nat.reduceLeDiff,Nat.reduceMul,Nat.reduceBEq,bH,hw,Option.isSome_some,Option.getD_some]
      try simp [ints,aN]
    |some b =>
     simp only [Option.getD_some] at hol
     simp only [Option.isSome_some,qX]
     (repeat (first|simp only [↓QA,QB,Nat.reduceLT,reduceIte,Nat.reduceEqDiff,Nat.reduceAdd,Nat.reduceLeDiff,Nat.reduceMul,Nat.reduceBEq,bH,Option.isSome_some,Option.getD_some]|refine rd0 rfl ?_))
     have fin:∀ (hfw:fM b L=false),hJ q (some b) L=if q L=true then some L else some b:=fun hfw=>by simp only [hJ,hfw];rfl
     cases h1:decide ((b.length:Int)<(L.length:Int))
     ·have h1':¬b.length<L.length:=by simpa using h1
      (repeat (first|simp only [↓QA,QB,Nat.reduceLT,reduceIte,Nat.reduceEqDiff,Nat.reduceAdd,Nat.reduceLeDiff,Nat.reduceMul,Nat.reduceBEq,bH,Option.getD_some,h1]|refine rd0 rfl ?_))
      cases h2:((L.length:Int)==(b.length:Int))
      ·have h2':¬b.length=L.length:=by intro h;rw [h] at h2;simp at h2
       have hst:=fin (by simp [fM,h1',h2'])
       (repeat (first|simp only [↓QA,QB,Nat.reduceLT,reduceIte,Nat.reduceEqDiff,Nat.reduceAdd,Nat.reduceLeDiff,Nat.reduceMul,Nat.reduceBEq,bH,h2]|refine rd0 rfl ?_))
       refine cT hlk ?_
       (repeat (first|simp only [↓QA,QB,Nat.reduceLT,reduceIte,Nat.reduceEqDiff,Nat.reduceAdd,Nat.reduceLeDiff,Nat.reduceMul,Nat.reduceBEq,bH]|refine rd0 rfl ?_))
       refine cT hso ?_
       (repeat (first|simp only [↓QA,QB,Nat.reduceLT,reduceIte,Nat.reduceEqDiff,Nat.reduceAdd,Nat.reduceLeDiff,Nat.reduceMul,Nat.reduceBEq,bH]|refine rd0 rfl ?_))
       cases qL
       ·rw [hqL] at hst
        simp only [Bool.false_eq_true,if_false] at hst
        rw [hst] at hfo
        (repeat (first|simp only [↓QA,QB,Nat.reduceLT,reduceIte,Nat.reduceEqDiff,Nat.reduceAdd,Nat.reduceLeDiff,Nat.reduceMul,Nat.reduceBEq,bH,hw]|refine rd0 rfl ?_))
        refine ⟨(s+1,some b),⟨by simp only;omega,hfo,by simpa using hol⟩,by simp only;omega,?_⟩
        try simp only [aD,QE,Nat.reduceLT,reduceIte,Nat.reduceEqDiff,Nat.reduceAdd,Nat.reduceLeDiff,Nat.reduceMul,Nat.reduceBEq,bH,hw,Option.isSome_some,Option.getD_some]
        try simp [ints,aN]
       ·rw [hqL] at hst
        simp only [if_true] at hst
        rw [hst] at hfo
        (repeat (first|simp only [↓QA,QB,Nat.reduceLT,reduceIte,Nat.reduceEqDiff,Nat.reduceAdd,Nat.reduceLeDiff,Nat.reduceMul,Nat.reduceBEq,bH,hw]|refine rd0 rfl ?_))
        refine ⟨(s+1,some L),⟨by simp only;omega,hfo,by simpa using hll⟩,by simp only;omega,?_⟩
        try simp only [aD,QE,Nat.reduceLT,reduceIte,Nat.reduceEqDiff,Nat.reduceAdd,Nat.reduceLeDiff,Nat.reduceMul,Nat.reduceBEq,bH,hw,Option.isSome_some,Option.getD_some]
        try simp [ints,aN]
      ·have h2':b.length=L.length:=by simp at h2;omega
       (repeat (first|simp only [↓QA,QB,Nat.reduceLT,reduceIte,Nat.reduceEqDiff,Nat.reduceAdd,Nat.reduceLeDiff,Nat.reduceMul,Nat.reduceBEq,bH,Option.getD_some,h2]|refine rd0 rfl ?_))
       ((first|refine aF (JL L b (by omega) (by omega)) rfl dd ?_|refine aG (JL L b (by omega) (by omega)) rfl dd ?_);(repeat (first|simp only [↓QA,QB,Nat.reduceLT,reduceIte,Nat.reduceEqDiff,Nat.reduceAdd,Nat.reduceLeDiff,Nat.reduceMul,Nat.reduceBEq,bH,BW,Option.getD_some]|refine rd0 rfl ?_)))
       cases h3:less b L
       ·have hst:=fin (by simp [fM,h2',h3])
        (repeat (first|simp only [↓QA,QB,Nat.reduceLT,reduceIte,Nat.reduceEqDiff,Nat.reduceAdd,Nat.reduceLeDiff,Nat.reduceMul,Nat.reduceBEq,bH,h3]|refine rd0 rfl ?_))
        refine cT hlk ?_
        (repeat (first|simp only [↓QA,QB,Nat.reduceLT,reduceIte,Nat.reduceEqDiff,Nat.reduceAdd,Nat.reduceLeDiff,Nat.reduceMul,Nat.reduceBEq,bH]|refine rd0 rfl ?_))
        refine cT hso ?_
        (repeat (first|simp only [↓QA,QB,Nat.reduceLT,reduceIte,Nat.reduceEqDiff,Nat.reduceAdd,Nat.reduceLeDiff,Nat.reduceMul,Nat.reduceBEq,bH]|refine rd0 rfl ?_))
        cases qL
        ·rw [hqL] at hst
         simp only [Bool.false_eq_true,if_false] at hst
         rw [hst] at hfo
         (repeat (first|simp only [↓QA,QB,Nat.reduceLT,reduceIte,Nat.reduceEqDiff,Nat.reduceAdd,Nat.reduceLeDiff,Nat.reduceMul,Nat.reduceBEq,bH,hw]|refine rd0 rfl ?_))
         refine ⟨(s+1,some b),⟨by simp only;omega,hfo,by simpa using hol⟩,by simp only;omega,?_⟩
         try simp only [aD,QE,Nat.reduceLT,reduceIte,Nat.reduceEqDiff,Nat.reduceAdd,Nat.reduceLeDiff,Nat.reduceMul,Nat.reduceBEq,bH,hw,Option.isSome_some,Option.getD_some]
         try simp [ints,aN]
        ·rw [hqL] at hst
         simp only [if_true] at hst
         rw [hst] at hfo
         (repeat (first|simp only [↓QA,QB,Nat.reduceLT,reduceIte,Nat.reduceEqDiff,Nat.reduceAdd,Nat.reduceLeDiff,Nat.reduceMul,Nat.reduceBEq,bH,hw]|refine rd0 rfl ?_))
         refine ⟨(s+1,some L),⟨by simp only;omega,hfo,by simpa using hll⟩,by simp only;omega,?_⟩
         try simp only [aD,QE,Nat.reduceLT,reduceIte,Nat.reduceEqDiff,Nat.reduceAdd,Nat.reduceLeDiff,Nat.reduceMul,Nat.reduceBEq,bH,hw,Option.isSome_some,Option.getD_some]
         try simp [ints,aN]
       ·have hfw:fM b L=true:=by simp [fM,h2',h3]
        have hst:hJ q (some b) L=some b:=by simp only [hJ,hfw,if_true]
        rw [hst] at hfo
        (repeat (first|simp only [↓QA,QB,Nat.reduceLT,reduceIte,Nat.reduceEqDiff,Nat.reduceAdd,Nat.reduceLeDiff,Nat.reduceMul,Nat.reduceBEq,bH,h3,hw]|refine rd0 rfl ?_))
        refine ⟨(s+1,some b),⟨by simp only;omega,hfo,by simpa using hol⟩,by simp only;omega,?_⟩
        try simp only [aD,QE,Nat.reduceLT,reduceIte,Nat.reduceEqDiff,Nat.reduceAdd,Nat.reduceLeDiff,Nat.reduceMul,Nat.reduceBEq,bH,hw,Option.isSome_some,Option.getD_some]
        try simp [ints,aN]
     ·have h1':b.length<L.length:=by simpa using h1
      have h2':¬b.length=L.length:=by omega
      have hfw:fM b L=true:=by simp [fM,h1',h2']
      have hst:hJ q (some b) L=some b:=by simp only [hJ,hfw,if_true]
      rw [hst] at hfo
      (repeat (first|simp only [↓QA,QB,Nat.reduceLT,reduceIte,Nat.reduceEqDiff,Nat.reduceAdd,Nat.reduceLeDiff,Nat.reduceMul,Nat.reduceBEq,bH,h1,hw]|refine rd0 rfl ?_))
      refine ⟨(s+1,some b),⟨by simp only;omega,hfo,by simpa using hol⟩,by simp only;omega,?_⟩
      try simp only [aD,QE,Nat.reduceLT,reduceIte,Nat.reduceEqDiff,Nat.reduceAdd,Nat.reduceLeDiff,Nat.reduceMul,Nat.reduceBEq,bH,hw,Option.isSome_some,Option.getD_some]
      try simp [ints,aN]
   ·have hs1:s=P:=by simp at h;omega
    rw [hs1,Nat.sub_self] at hfo
    simp only [k9] at hfo
    subst hfo
    (repeat (first|simp only [↓QA,QB,Nat.reduceLT,reduceIte,Nat.reduceEqDiff,Nat.reduceAdd,Nat.reduceLeDiff,Nat.reduceMul,Nat.reduceBEq,bH,JH,Option.getD_some]|refine rd0 rfl ?_))
    try try simp only [QS,QC,Nat.reduceLT,reduceIte,Nat.reduceEqDiff,Nat.reduceAdd,Nat.reduceLeDiff,Nat.reduceMul,Nat.reduceBEq,bH]
end Go.Am.Room
set_option maxRecDepth 8000
namespace Go.Am.Room
def wO:=And.intro @aR (@List.length_append.{0})
theorem j8 (a b:Int):d6 T 40 [.int .i64 a,.int .i64 b] (oL ⟨a,b⟩):=by
 refine aZ (af:=a40) rfl (by simp [a40]) dd ?_
 (repeat (first|simp only [↓QA,QB,Nat.reduceLT,reduceIte,Nat.reduceEqDiff,Nat.reduceAdd,Nat.reduceLeDiff,Nat.reduceMul,Nat.reduceBEq,wO,a40]|refine rd0 rfl ?_))
def mC (l:List Int) (n:Nat):Int:=if l.length=0 then 0 else (l[n%l.length]?).getD 0
def u8s (l:List Int):AV:=.lit (l.map (.int .u8)) false none
theorem E1 (l:List Int):kU (u8s l):=j7 (cN .u8) l
instance (l:List Int):Dat (u8s l):=⟨E1 l⟩
theorem aCL (σ:St) (m d:Nat) (l:List Int):cM σ m d (l.map (.int .u8))=some (l.map (.int .u8)):=lH (dB (cN .u8) l) σ m d
def QX (l:List Int):Prop:=(∀ x∈l,0≤x∧x<256)∧l.length<9223372036854775808
theorem J1 {l:List Int} (h:QX l) (n:Nat):0≤mC l n∧mC l n<256:=by
 unfold mC
 split
 ·omega
 ·rename_i h0
  have hlt:n%l.length<l.length:=Nat.mod_lt _ (by omega)
  rw [List.getElem?_eq_getElem hlt,Option.getD_some]
  exact h.1 _ (List.getElem_mem hlt)
theorem S9 (l:List Int) (n:Nat) (h:QX l) (hn:n<9223372036854775808):d6 T 52 [u8s l,.int .i64 n] (.int .i64 (mC l n)):=by
 refine aZ (af:=a52) rfl (by simp [a52]) (bA (E1 l) (bA (cN _ _) eQ)) ?_
 have hl:=h.2
 (repeat (first|simp only [↓QA,QB,Nat.reduceLT,reduceIte,Nat.reduceEqDiff,Nat.reduceAdd,Nat.reduceLeDiff,Nat.reduceMul,Nat.reduceBEq,wO,a52,u8s]|refine rd0 rfl ?_))
 refine aI (fun h0=>?_) fun h0=>?_
 ·have h0':l.length=0:=by simp at h0;simp [h0]
  (repeat (first|simp only [↓QA,QB,Nat.reduceLT,reduceIte,Nat.reduceEqDiff,Nat.reduceAdd,Nat.reduceLeDiff,Nat.reduceMul,Nat.reduceBEq,wO,mC,h0']|refine rd0 rfl ?_))
 ·have h0':l.length≠0:=by intro e;rw [e] at h0;simp at h0
  have hlt:n%l.length<l.length:=Nat.mod_lt _ (by omega)
  have hb:=h.1 _ (List.getElem_mem hlt)
  have hm:((n:Int).tmod (l.length:Int))=((n%l.length:Nat):Int):=by rw [Int.tmod_eq_emod_of_nonneg (by omega)];norm_cast
  have hw:IntKind.i64.wrap l[n%l.length]=l[n%l.length]:=dU ⟨by omega,by omega⟩
  (repeat (first|simp only [↓QA,QB,Nat.reduceLT,reduceIte,Nat.reduceEqDiff,Nat.reduceAdd,Nat.reduceLeDiff,Nat.reduceMul,Nat.reduceBEq,wO,OR _ _ _ (show ((l.length:Nat):Int)≠0 by omega),hm,hlt,hw]|refine rd0 rfl ?_))
  simp [mC,h0',hlt]
end Go.Am.Room
set_option maxRecDepth 8000
namespace Go.Am.Room
def fA:=And.intro @bD (And.intro @aK (And.intro @aU (And.intro @aV (And.intro @aT (And.intro @aR (And.intro @a9 (And.intro @aY (And.intro @aW (And.intro @dV (@List.length_append.{0}))))))))))
theorem A0 (p n:Int):d6 T 39 [.int .i64 p,.int .i64 n] (dQ ⟨p,n⟩):=by
 refine aZ (af:=a39) rfl (by simp [a39]) dd ?_
 (repeat (first|simp only [↓QA,QB,Nat.reduceLT,reduceIte,Nat.reduceEqDiff,Nat.reduceAdd,Nat.reduceLeDiff,Nat.reduceMul,Nat.reduceBEq,fA,a39]|refine rd0 rfl ?_))
theorem tN (o:Bool) (l:List Seen):d6 T 38 [.bool o,.lit (l.map dQ) false none] (dK (exN o l)):=by
 refine aZ (af:=a38) rfl (by simp [a38]) dd ?_
 (repeat (first|simp only [↓QA,QB,Nat.reduceLT,reduceIte,Nat.reduceEqDiff,Nat.reduceAdd,Nat.reduceLeDiff,Nat.reduceMul,Nat.reduceBEq,fA,a38]|refine rd0 rfl ?_))
 ((first|refine aF (j8 5 6) rfl dd ?_|refine aG (j8 5 6) rfl dd ?_);(repeat (first|simp only [↓QA,QB,Nat.reduceLT,reduceIte,Nat.reduceEqDiff,Nat.reduceAdd,Nat.reduceLeDiff,Nat.reduceMul,Nat.reduceBEq,fA]|refine rd0 rfl ?_)))
 ((first|refine aF (j8 4 4) rfl dd ?_|refine aG (j8 4 4) rfl dd ?_);(repeat (first|simp only [↓QA,QB,Nat.reduceLT,reduceIte,Nat.reduceEqDiff,Nat.reduceAdd,Nat.reduceLeDiff,Nat.reduceMul,Nat.reduceBEq,fA]|refine rd0 rfl ?_)))
 ((first|refine aF (j8 12 12) rfl dd ?_|refine aG (j8 12 12) rfl dd ?_);(repeat (first|simp only [↓QA,QB,Nat.reduceLT,reduceIte,Nat.reduceEqDiff,Nat.reduceAdd,Nat.reduceLeDiff,Nat.reduceMul,Nat.reduceBEq,fA]|refine rd0 rfl ?_)))
 ((first|refine aF (j8 3 3) rfl dd ?_|refine aG (j8 3 3) rfl dd ?_);(repeat (first|simp only [↓QA,QB,Nat.reduceLT,reduceIte,Nat.reduceEqDiff,Nat.reduceAdd,Nat.reduceLeDiff,Nat.reduceMul,Nat.reduceBEq,fA]|refine rd0 rfl ?_)))
 cases o
 ·(repeat (first|simp only [↓QA,QB,Nat.reduceLT,reduceIte,Nat.reduceEqDiff,Nat.reduceAdd,Nat.reduceLeDiff,Nat.reduceMul,Nat.reduceBEq,fA,exN,QN,IA,List.map_cons,List.map_nil]|refine rd0 rfl ?_))
  simp [I4,jV,aH,sL,aM,AV.cells,AV.cell,w9,IK,MS,NW,QU,GI,aW,ints]
 ·have i0:(0:Int)≤0∧(0:Int)<((4:Nat):Int):=by decide
  have i2:(0:Int)≤2∧(2:Int)<((4:Nat):Int):=by decide
  (repeat (first|simp only [↓QA,QB,Nat.reduceLT,reduceIte,Nat.reduceEqDiff,Nat.reduceAdd,Nat.reduceLeDiff,Nat.reduceMul,Nat.reduceBEq,fA,exN,QN,IA,List.map_cons,List.map_nil,i0,i2,List.flatMap_cons,List.flatMap_nil,AV.cells,Int.toNat_zero,show (2:Int).toNat=2 from rfl]|refine rd0 rfl ?_))
  simp [I4,jV,aH,sL,aM,AV.cells,AV.cell,w9,IK,MS,NW,QU,GI,aW,ints]
theorem dP (o:Bool) (l:List Seen) (h:l.length≤100:=by decide):Fits (exN o l):=⟨by simp [exN],by simp [exN],by simp [exN];omega,fun k hk=>by
 simp only [exN,List.mem_cons,List.not_mem_nil,or_false] at hk
 rcases hk with rfl|rfl<;>decide,fun k hk=>by
 simp only [exN,List.mem_cons,List.not_mem_nil,or_false] at hk
 rcases hk with rfl|rfl<;>decide⟩
theorem uG (v:Net) (hf:Fits v):d6 T 41 [dK v] (.bool (decide ((cG v).2.2=0))):=by
 refine aZ (af:=a41) rfl (by simp [a41]) dd ?_
 (repeat (first|simp only [↓QA,QB,Nat.reduceLT,reduceIte,Nat.reduceEqDiff,Nat.reduceAdd,Nat.reduceLeDiff,Nat.reduceMul,Nat.reduceBEq,fA,a41]|refine rd0 rfl ?_))
 ((first|refine aF (v4 v hf) rfl dd ?_|refine aG (v4 v hf) rfl dd ?_);(repeat (first|simp only [↓QA,QB,Nat.reduceLT,reduceIte,Nat.reduceEqDiff,Nat.reduceAdd,Nat.reduceLeDiff,Nat.reduceMul,Nat.reduceBEq,fA,n7]|refine rd0 rfl ?_)))
 try rfl
 try (simp;rfl)
theorem TZ (a b:List (List Int)) (ha:a.length<9223372036854775808) (hb:b.length<9223372036854775808) (hl:∀ r∈a,r.length<9223372036854775808) (hm:∀ r∈b,r.length<9223372036854775808):d6 T 21 [cL a,cL b] (.bool (decide (a=b))):=by
 refine aZ (af:=a21) rfl (by simp [a21]) dd ?_
 have hlb:=TG a.length b.length
 (repeat (first|simp only [↓QA,QB,Nat.reduceLT,reduceIte,Nat.reduceEqDiff,Nat.reduceAdd,Nat.reduceLeDiff,Nat.reduceMul,Nat.reduceBEq,fA,a21,bE]|refine rd0 rfl ?_))
 refine dF (S:=Nat×Bool) (0,decide (a.length=b.length)) (fun x=>x.1≤a.length∧(x.2=true→a.length=b.length∧a.take x.1=b.take x.1)∧(x.2=false→a≠b)) (fun x=>a.length+1-x.1-(if x.2=true then 0 else 1))
  (fun x=>[(0,cL a),(1,cL b),(5,.bool x.2),(6,.int .i64 x.1)]) (fun _=>[]) ⟨by simp,by simp,fun h e=>by rw [e] at h;simp at h⟩ rfl ?_ fun x hx=>?_
 ·try simp only [aD,QE,Nat.reduceLT,reduceIte,Nat.reduceEqDiff,Nat.reduceAdd,Nat.reduceLeDiff,Nat.reduceMul,Nat.reduceBEq,fA,bE,hlb]
  try simp
 ·obtain ⟨k,o⟩:=x
  obtain ⟨hk,h1,h2⟩:=hx
  simp only at hk h1 h2
  (repeat (first|simp only [↓QA,QB,Nat.reduceLT,reduceIte,Nat.reduceEqDiff,Nat.reduceAdd,Nat.reduceLeDiff,Nat.reduceMul,Nat.reduceBEq,fA,VP,bE]|refine rd0 rfl ?_))
  cases o
  ·have hne:=h2 rfl
   have:decide (a=b)=false:=by simpa using hne
   rw [this]
   (repeat (first|simp only [↓QA,QB,Nat.reduceLT,reduceIte,Nat.reduceEqDiff,Nat.reduceAdd,Nat.reduceLeDiff,Nat.reduceMul,Nat.reduceBEq,fA]|refine rd0 rfl ?_))
  ·obtain ⟨hle,htk⟩:=h1 rfl
   (repeat (first|simp only [↓QA,QB,Nat.reduceLT,reduceIte,Nat.reduceEqDiff,Nat.reduceAdd,Nat.reduceLeDiff,Nat.reduceMul,Nat.reduceBEq,fA,bE]|refine rd0 rfl ?_))
   refine aI (fun h=>?_) fun h=>?_
   ·have hk1:k<a.length:=by simpa using h
    have hk2:k<b.length:=by omega
    have hw:=cR hk1 ha
    have hio:=kB a[k] b[k] (hl _ (List.getElem_mem hk1)) (hm _ (List.getElem_mem hk2))
    (repeat (first|simp only [↓QA,QB,Nat.reduceLT,reduceIte,Nat.reduceEqDiff,Nat.reduceAdd,Nat.reduceLeDiff,Nat.reduceMul,Nat.reduceBEq,fA,hk1,hk2,bE]|refine rd0 rfl ?_))
    ((first|refine aF (hio) rfl dd ?_|refine aG (hio) rfl dd ?_);(repeat (first|simp only [↓QA,QB,Nat.reduceLT,reduceIte,Nat.reduceEqDiff,Nat.reduceAdd,Nat.reduceLeDiff,Nat.reduceMul,Nat.reduceBEq,fA,hk1,hk2]|refine rd0 rfl ?_)))
    refine ⟨(k+1,decide (a[k]=b[k])),⟨by simp only;omega,fun q=>⟨hle,?_⟩,fun q e=>?_⟩,?_,?_⟩
    ·rw [List.take_succ_eq_append_getElem hk1,List.take_succ_eq_append_getElem hk2,htk]
     simp only [decide_eq_true_eq] at q
     rw [q]
    ·subst e
     simp at q
    ·simp only;split<;>omega
    ·try simp only [aD,QE,Nat.reduceLT,reduceIte,Nat.reduceEqDiff,Nat.reduceAdd,Nat.reduceLeDiff,Nat.reduceMul,Nat.reduceBEq,fA,hw,bE]
   ·have hk1:k=a.length:=by simp at h;omega
    have:a=b:=by
     rw [hk1,List.take_length] at htk
     rw [htk,hle,List.take_length]
    rw [decide_eq_true this]
    (repeat (first|simp only [↓QA,QB,Nat.reduceLT,reduceIte,Nat.reduceEqDiff,Nat.reduceAdd,Nat.reduceLeDiff,Nat.reduceMul,Nat.reduceBEq,fA]|refine rd0 rfl ?_))
theorem BF:∀ (l:List Int) {a b:Int},a<b→less (l++[a]) (l++[b])=true
 |[],a,b,h=>by simp [less,h];omega
 |x::l,a,b,h=>by simp [less,BF l h]
theorem AD:∀ {a b:List Int} (x y:List Int),a.length=b.length→less a b=true→less (a++x) (b++y)=true
 |[],[],x,y,_,h=>by simp [less] at h
 |a::az,b::bs,x,y,hl,h=>by
  simp only [less] at h
  simp only [List.cons_append,less]
  by_cases e:a=b
  ·rw [if_pos e] at h ⊢
   exact AD x y (by simpa using hl) h
  ·rw [if_neg e] at h ⊢
   exact h
theorem yM:∀ (n:Nat) (a:Int),(aO a n).Pairwise (· < ·)
 |0,_=>.nil
 |n+1,a=>by
  rw [aO,List.pairwise_cons]
  refine ⟨fun x hx=>?_,yM n (a+1)⟩
  rw [bU] at hx
  omega
theorem kK (v:Net) (but:List Int):∀ k,∀ l∈d4 v but k,l.length=k
 |0,l,h=>by simp only [d4,List.mem_singleton] at h;rw [h];rfl
 |k+1,l,h=>by
  simp only [d4,List.mem_flatMap,s7,List.mem_map] at h
  obtain ⟨p,hp,r,_,rfl⟩:=h
  simp [kK v but k p hp]
theorem IY (v:Net) (but:List Int):∀ k,(d4 v but k).Pairwise fun a b=>less a b=true
 |0=>List.pairwise_singleton _ _
 |k+1=>by
  rw [d4,List.pairwise_flatMap]
  refine ⟨fun l hl=>?_,(IY v but k).imp_of_mem fun {a b} ha hb h=>?_⟩
  ·rw [s7,List.pairwise_map]
   exact ((yM _ _).filter _).imp fun h=>BF l h
  ·intro x hx y hy
   simp only [s7,List.mem_map] at hx hy
   obtain ⟨r,_,rfl⟩:=hx
   obtain ⟨r',_,rfl⟩:=hy
   exact AD _ _ ((kK v but k a ha).trans (kK v but k b hb).symm) h
def CD (a b:List Int):Prop:=a.length<b.length∨(a.length=b.length∧less a b=true)
theorem zI {v:Net} {s:Int} {but:List Int}:∀ k,∀ l∈d5 v s but k,l.length≤k
 |0,l,h=>by simp [d5] at h
 |k+1,l,h=>by
  rcases List.mem_append.1 h with h|h
  ·have:=zI k l h;omega
  ·rw [kK v but (k+1) l (List.mem_filter.1 h).1]
   exact Nat.le_refl _
theorem IQ (v:Net) (s:Int) (but:List Int):∀ k,(d5 v s but k).Pairwise CD
 |0=>.nil
 |k+1=>by
  rw [d5,List.pairwise_append]
  refine ⟨IQ v s but k,((IY v but (k+1)).filter _).imp_of_mem fun {a b} ha hb h=>?_,fun a ha b hb=>?_⟩
  ·have h1:=kK v but (k+1) a (List.mem_filter.1 ha).1
   have h2:=kK v but (k+1) b (List.mem_filter.1 hb).1
   exact .inr ⟨h1.trans h2.symm,h⟩
  ·have h1:=zI k a ha
   have h2:=kK v but (k+1) b (List.mem_filter.1 hb).1
   exact .inl (by omega)
theorem vZ (v:Net) (s:Int) (but:List Int):(cF v s but).Pairwise CD:=IQ v s but 4
theorem OM {a:List Int}:¬CD a a:=by
 rintro (h|⟨_,h⟩)
 ·omega
 ·rw [lS] at h;cases h
theorem GL (v:Net) (s:Int) (but:List Int):(cF v s but).Nodup:=by
 refine List.Pairwise.imp (fun {a b} h e=>?_) (vZ v s but)
 rw [e] at h
 exact OM h
theorem yE {v:Net} {but:List Int}:∀ {k:Nat} {l:List Int},l∈d4 v but k↔l.length=k∧l.Nodup∧∀ r∈l,0≤r∧r<v.rails.length∧(cB v r).shut≠1∧r∉but
 |0,l=>by
  simp only [d4,List.mem_singleton]
  constructor
  ·rintro rfl;exact ⟨rfl,List.nodup_nil,fun r hr=>by cases hr⟩
  ·rintro ⟨h,_⟩;exact List.length_eq_zero_iff.1 h
 |k+1,l=>by
  simp only [d4,List.mem_flatMap,s7,List.mem_map,List.mem_filter,bU,CM,Bool.and_eq_true,Bool.not_eq_true',decide_eq_false_iff_not]
  constructor
  ·rintro ⟨p,hp,r,⟨hr,⟨h1,h2⟩,h3⟩,rfl⟩
   obtain ⟨p1,p2,p3⟩:=yE.1 hp
   have h2':r∉but:=fun q=>by rw [List.contains_iff_mem.2 q] at h2;cases h2
   have h3':r∉p:=fun q=>by rw [List.contains_iff_mem.2 q] at h3;cases h3
   refine ⟨by simp [p1],?_,fun x hx=>?_⟩
   ·rw [List.nodup_append]
    exact ⟨p2,by simp,fun a ha b hb e=>by simp at hb;subst hb;subst e;exact h3' ha⟩
   ·rcases List.mem_append.1 hx with hx|hx
    ·exact p3 x hx
    ·simp only [List.mem_singleton] at hx;subst hx;exact ⟨by omega,by omega,h1,h2'⟩
  ·rintro ⟨hl,hn,hr⟩
   have hne:l≠[]:=fun e=>by rw [e] at hl;simp at hl
   refine ⟨l.dropLast,yE.2 ⟨by simp [hl],?_,fun r h=>hr r (List.dropLast_subset l h)⟩,l.getLast hne,⟨?_,⟨?_,?_⟩,?_⟩,List.dropLast_concat_getLast hne⟩
   ·exact hn.sublist (List.dropLast_sublist l)
   ·have:=hr _ (List.getLast_mem hne);omega
   ·exact (hr _ (List.getLast_mem hne)).2.2.1
   ·have:=(hr _ (List.getLast_mem hne)).2.2.2
    rw [Bool.eq_false_iff]
    exact fun q=>this (List.contains_iff_mem.1 q)
   ·rw [Bool.eq_false_iff]
    intro q
    have hm:=List.contains_iff_mem.1 q
    rw [←List.dropLast_concat_getLast hne,List.nodup_append] at hn
    exact hn.2.2 _ hm _ (by simp) rfl
theorem xL {v:Net} {s:Int} {but l:List Int}:∀ {k:Nat},l∈d5 v s but k↔(1≤l.length∧l.length≤k)∧l∈d4 v but l.length∧d7 v s l=true
 |0=>⟨fun h=>by simp [d5] at h,fun h=>by omega⟩
 |k+1=>by
  rw [d5,List.mem_append,xL,List.mem_filter]
  constructor
  ·rintro (⟨h1,h2⟩|⟨h1,h2⟩)
   ·exact ⟨by omega,h2⟩
   ·have:=kK v but (k+1) l h1
    exact ⟨by omega,by rw [this];exact h1,h2⟩
  ·rintro ⟨h1,h2,h3⟩
   by_cases e:l.length=k+1
   ·exact .inr ⟨by rw [←e];exact h2,h3⟩
   ·exact .inl ⟨by omega,h2,h3⟩
theorem rR {v:Net} {s:Int} {l:List Int} (h:d7 v s l=true):1≤l.length∧l.length≤4∧s≠0:=by
 rw [d7] at h
 split at h
 ·cases h
 ·rename_i q
  rw [not_or,Bool.not_eq_false,cW] at q
  exact ⟨by omega,by omega,q.2⟩
theorem DX {v:Net} {s:Int} {l:List Int} (h:d7 v s l=true):l.Nodup:=by
 have hl:=rR h
 rw [d7] at h
 split at h
 ·cases h
 ·rw [oS v l s [s] hl.2.2] at h
  cases q:eM v l s [s] with
  |none=>rw [q] at h;cases h
  |some o=>exact oV v l s [s] o (by simp) q
theorem DL {v:Net} {s:Int} {l:List Int}:l∈cF v s []↔d7 v s l=true∧∀ r∈l,0≤r∧r<v.rails.length∧(cB v r).shut≠1:=by
 rw [cF,xL,yE]
 constructor
 ·rintro ⟨_,⟨_,_,h⟩,h2⟩
  exact ⟨h2,fun r hr=>⟨(h r hr).1,(h r hr).2.1,(h r hr).2.2.1⟩⟩
 ·rintro ⟨h1,h2⟩
  have:=rR h1
  exact ⟨by omega,⟨rfl,DX h1,fun r hr=>⟨(h2 r hr).1,(h2 r hr).2.1,(h2 r hr).2.2,by simp⟩⟩,h1⟩
end Go.Am.Room
set_option maxRecDepth 8000
namespace Go.Am.Room
def cZ:=And.intro @bD (And.intro @aK (And.intro @aU (And.intro @aV (And.intro @aT (And.intro @aR (And.intro @a9 (And.intro @aY (And.intro @aW (And.intro @dV (And.intro @List.length_append.{0} (@bE)))))))))))
theorem AU (a:List (List Int)) (h:a.length≤1000∧∀ r∈a,r.length≤4):d6 T 21 [cL a,cL a] (.bool true):=by
 have:=TZ a a (by omega) (by omega) (fun r hr=>by have:=h.2 r hr;omega) (fun r hr=>by have:=h.2 r hr;omega)
 simpa using this
set_option maxHeartbeats 1000000 in
theorem yH:d6 T 22 [] (.bool true):=by
 refine aZ (af:=a22) rfl (by simp [a22]) eQ ?_
 (repeat (first|simp only [↓QA,QB,Nat.reduceLT,reduceIte,Nat.reduceEqDiff,Nat.reduceAdd,Nat.reduceLeDiff,Nat.reduceMul,Nat.reduceBEq,cZ,a22]|refine rd0 rfl ?_))
 refine d8 (tN false []) (by simp [clr,clrs]) (by simp [okV,okVs]) ?_
 (repeat (first|simp only [↓QA,QB,Nat.reduceLT,reduceIte,Nat.reduceEqDiff,Nat.reduceAdd,Nat.reduceLeDiff,Nat.reduceMul,Nat.reduceBEq,cZ]|refine rd0 rfl ?_))
 refine d8 (tN true []) (by simp [clr,clrs]) (by simp [okV,okVs]) ?_
 (repeat (first|simp only [↓QA,QB,Nat.reduceLT,reduceIte,Nat.reduceEqDiff,Nat.reduceAdd,Nat.reduceLeDiff,Nat.reduceMul,Nat.reduceBEq,cZ]|refine rd0 rfl ?_))
 ((first|refine aF (A0 0 (-1)) rfl dd ?_|refine aG (A0 0 (-1)) rfl dd ?_);(repeat (first|simp only [↓QA,QB,Nat.reduceLT,reduceIte,Nat.reduceEqDiff,Nat.reduceAdd,Nat.reduceLeDiff,Nat.reduceMul,Nat.reduceBEq,cZ]|refine rd0 rfl ?_)))
 ((first|refine aF (A0 1 15) rfl dd ?_|refine aG (A0 1 15) rfl dd ?_);(repeat (first|simp only [↓QA,QB,Nat.reduceLT,reduceIte,Nat.reduceEqDiff,Nat.reduceAdd,Nat.reduceLeDiff,Nat.reduceMul,Nat.reduceBEq,cZ]|refine rd0 rfl ?_)))
 refine d8 (tN true [⟨0,-1⟩,⟨1,15⟩]) (by simp [clr,clrs,dQ]) (by simp [okV,okVs]) ?_
 (repeat (first|simp only [↓QA,QB,Nat.reduceLT,reduceIte,Nat.reduceEqDiff,Nat.reduceAdd,Nat.reduceLeDiff,Nat.reduceMul,Nat.reduceBEq,cZ]|refine rd0 rfl ?_))
 ((first|refine aF (A0 0 (-1)) rfl dd ?_|refine aG (A0 0 (-1)) rfl dd ?_);(repeat (first|simp only [↓QA,QB,Nat.reduceLT,reduceIte,Nat.reduceEqDiff,Nat.reduceAdd,Nat.reduceLeDiff,Nat.reduceMul,Nat.reduceBEq,cZ]|refine rd0 rfl ?_)))
 refine d8 (tN true [⟨0,-1⟩]) (by simp [clr,clrs,dQ]) (by simp [okV,okVs]) ?_
 (repeat (first|simp only [↓QA,QB,Nat.reduceLT,reduceIte,Nat.reduceEqDiff,Nat.reduceAdd,Nat.reduceLeDiff,Nat.reduceMul,Nat.reduceBEq,cZ]|refine rd0 rfl ?_))
 ((first|refine aF (lM exH (dP _ _) 3) rfl dd ?_|refine aG (lM exH (dP _ _) 3) rfl dd ?_);(repeat (first|simp only [↓QA,QB,Nat.reduceLT,reduceIte,Nat.reduceEqDiff,Nat.reduceAdd,Nat.reduceLeDiff,Nat.reduceMul,Nat.reduceBEq,cZ,x1,sV]|refine rd0 rfl ?_)))
 ((first|refine aF (lN exH (dP _ _) 1) rfl dd ?_|refine aG (lN exH (dP _ _) 1) rfl dd ?_);(repeat (first|simp only [↓QA,QB,Nat.reduceLT,reduceIte,Nat.reduceEqDiff,Nat.reduceAdd,Nat.reduceLeDiff,Nat.reduceMul,Nat.reduceBEq,cZ,x2,pX]|refine rd0 rfl ?_)))
 ((first|refine aF (lN exK (dP _ _) 1) rfl dd ?_|refine aG (lN exK (dP _ _) 1) rfl dd ?_);(repeat (first|simp only [↓QA,QB,Nat.reduceLT,reduceIte,Nat.reduceEqDiff,Nat.reduceAdd,Nat.reduceLeDiff,Nat.reduceMul,Nat.reduceBEq,cZ,x3,pX]|refine rd0 rfl ?_)))
 ((first|refine aF (lN exT (dP _ _) 0) rfl dd ?_|refine aG (lN exT (dP _ _) 0) rfl dd ?_);(repeat (first|simp only [↓QA,QB,Nat.reduceLT,reduceIte,Nat.reduceEqDiff,Nat.reduceAdd,Nat.reduceLeDiff,Nat.reduceMul,Nat.reduceBEq,cZ,x4,pX]|refine rd0 rfl ?_)))
 ((first|refine aF (F4 exK (dP _ _)) rfl dd ?_|refine aG (F4 exK (dP _ _)) rfl dd ?_);(repeat (first|simp only [↓QA,QB,Nat.reduceLT,reduceIte,Nat.reduceEqDiff,Nat.reduceAdd,Nat.reduceLeDiff,Nat.reduceMul,Nat.reduceBEq,cZ,x5,pK]|refine rd0 rfl ?_)))
 ((first|refine aF (lP exK (dP _ _)) rfl dd ?_|refine aG (lP exK (dP _ _)) rfl dd ?_);(repeat (first|simp only [↓QA,QB,Nat.reduceLT,reduceIte,Nat.reduceEqDiff,Nat.reduceAdd,Nat.reduceLeDiff,Nat.reduceMul,Nat.reduceBEq,cZ,x6,xU]|refine rd0 rfl ?_)))
 ((first|refine aF (lP exH (dP _ _)) rfl dd ?_|refine aG (lP exH (dP _ _)) rfl dd ?_);(repeat (first|simp only [↓QA,QB,Nat.reduceLT,reduceIte,Nat.reduceEqDiff,Nat.reduceAdd,Nat.reduceLeDiff,Nat.reduceMul,Nat.reduceBEq,cZ,x7,xU]|refine rd0 rfl ?_)))
 ((first|refine aF (DC exK (dP _ _)) rfl dd ?_|refine aG (DC exK (dP _ _)) rfl dd ?_);(repeat (first|simp only [↓QA,QB,Nat.reduceLT,reduceIte,Nat.reduceEqDiff,Nat.reduceAdd,Nat.reduceLeDiff,Nat.reduceMul,Nat.reduceBEq,cZ,x8,uC]|refine rd0 rfl ?_)))
 ((first|refine aF (D9 exH (dP _ _)) rfl dd ?_|refine aG (D9 exH (dP _ _)) rfl dd ?_);(repeat (first|simp only [↓QA,QB,Nat.reduceLT,reduceIte,Nat.reduceEqDiff,Nat.reduceAdd,Nat.reduceLeDiff,Nat.reduceMul,Nat.reduceBEq,cZ,x9,pK]|refine rd0 rfl ?_)))
 ((first|refine aF (BL exH (dP _ _)) rfl dd ?_|refine aG (BL exH (dP _ _)) rfl dd ?_);(repeat (first|simp only [↓QA,QB,Nat.reduceLT,reduceIte,Nat.reduceEqDiff,Nat.reduceAdd,Nat.reduceLeDiff,Nat.reduceMul,Nat.reduceBEq,cZ,x10,y6]|refine rd0 rfl ?_)))
 ((first|refine aF (AL exS (dP _ _)) rfl dd ?_|refine aG (AL exS (dP _ _)) rfl dd ?_);(repeat (first|simp only [↓QA,QB,Nat.reduceLT,reduceIte,Nat.reduceEqDiff,Nat.reduceAdd,Nat.reduceLeDiff,Nat.reduceMul,Nat.reduceBEq,cZ,x11,JH]|refine rd0 rfl ?_)))
 ((first|refine aF (lP exS (dP _ _)) rfl dd ?_|refine aG (lP exS (dP _ _)) rfl dd ?_);(repeat (first|simp only [↓QA,QB,Nat.reduceLT,reduceIte,Nat.reduceEqDiff,Nat.reduceAdd,Nat.reduceLeDiff,Nat.reduceMul,Nat.reduceBEq,cZ,x12,xU]|refine rd0 rfl ?_)))
 refine eS (AU [[3,2],[3,1,0]] (by simp)) (by simp [clr,clrs,ints,cL]) (by simp [okV,okVs,ints,cL]) ?_
 (repeat (first|simp only [↓QA,QB,Nat.reduceLT,reduceIte,Nat.reduceEqDiff,Nat.reduceAdd,Nat.reduceLeDiff,Nat.reduceMul,Nat.reduceBEq,cZ]|refine rd0 rfl ?_))
 ((first|refine aF (j8 14 16) rfl dd ?_|refine aG (j8 14 16) rfl dd ?_);(repeat (first|simp only [↓QA,QB,Nat.reduceLT,reduceIte,Nat.reduceEqDiff,Nat.reduceAdd,Nat.reduceLeDiff,Nat.reduceMul,Nat.reduceBEq,cZ,List.map_nil,List.length_nil,show (((0:Nat):Int)==0)=true from rfl]|refine rd0 rfl ?_)))
 ((first|refine d8 (kB [0,1] [0,1] (by simp) (by simp)) (by simp [clr,clrs,ints]) (by simp [okV,okVs]) ?_|refine eS (kB [0,1] [0,1] (by simp) (by simp)) (by simp [clr,clrs,ints]) (by simp [okV,okVs]) ?_);(repeat (first|simp only [↓QA,QB,Nat.reduceLT,reduceIte,Nat.reduceEqDiff,Nat.reduceAdd,Nat.reduceLeDiff,Nat.reduceMul,Nat.reduceBEq,cZ,eq_self,List.map_nil,List.length_nil,show (((0:Nat):Int)==0)=true from rfl]|refine rd0 rfl ?_)))
 refine eS (AU [[2],[3,2]] (by simp)) (by simp [clr,clrs,ints,cL]) (by simp [okV,okVs,ints,cL]) ?_
 (repeat (first|simp only [↓QA,QB,Nat.reduceLT,reduceIte,Nat.reduceEqDiff,Nat.reduceAdd,Nat.reduceLeDiff,Nat.reduceMul,Nat.reduceBEq,cZ]|refine rd0 rfl ?_))
 ((first|refine d8 (kB [0,1] [0,1] (by simp) (by simp)) (by simp [clr,clrs,ints]) (by simp [okV,okVs]) ?_|refine eS (kB [0,1] [0,1] (by simp) (by simp)) (by simp [clr,clrs,ints]) (by simp [okV,okVs]) ?_);(repeat (first|simp only [↓QA,QB,Nat.reduceLT,reduceIte,Nat.reduceEqDiff,Nat.reduceAdd,Nat.reduceLeDiff,Nat.reduceMul,Nat.reduceBEq,cZ,eq_self,List.map_nil,List.length_nil,show (((0:Nat):Int)==0)=true from rfl]|refine rd0 rfl ?_)))
 ((first|refine d8 (kB [2] [2] (by simp) (by simp)) (by simp [clr,clrs,ints]) (by simp [okV,okVs]) ?_|refine eS (kB [2] [2] (by simp) (by simp)) (by simp [clr,clrs,ints]) (by simp [okV,okVs]) ?_);(repeat (first|simp only [↓QA,QB,Nat.reduceLT,reduceIte,Nat.reduceEqDiff,Nat.reduceAdd,Nat.reduceLeDiff,Nat.reduceMul,Nat.reduceBEq,cZ,eq_self]|refine rd0 rfl ?_)))
 ((first|refine d8 (kB [1] [1] (by simp) (by simp)) (by simp [clr,clrs,ints]) (by simp [okV,okVs]) ?_|refine eS (kB [1] [1] (by simp) (by simp)) (by simp [clr,clrs,ints]) (by simp [okV,okVs]) ?_);(repeat (first|simp only [↓QA,QB,Nat.reduceLT,reduceIte,Nat.reduceEqDiff,Nat.reduceAdd,Nat.reduceLeDiff,Nat.reduceMul,Nat.reduceBEq,cZ,eq_self]|refine rd0 rfl ?_)))
end Go.Am.Room
set_option maxRecDepth 8000
namespace Go.Am.Room
theorem UH {a:Int} (ha:0≤a) {n:Nat} (hn:0<n):∃ j:Nat,a.tmod (n:Int)=(j:Int)∧j<n:=by
 obtain ⟨k,rfl⟩:∃ k:Nat,a=k:=⟨a.toNat,by omega⟩
 refine ⟨k%n,?_,Nat.mod_lt _ hn⟩
 rw [Int.tmod_eq_emod_of_nonneg (by omega)]
 norm_cast
def VB (v:Net) (l:List Seen):Net:={ v with seen:=l }
def more (v:Net) (x:Seen):Net:=VB v (v.seen++[x])
def XT (C:List Int) (y:Seen):Seen:=⟨y.tram,fI C y.tram⟩
def told (v:Net) (C:List Int):Net:=VB v (v.seen.map (XT C))
end Go.Am.Room
namespace Go.Am
variable {T:FuncId→Option AFunc}
theorem t9 {a x y:ACode} {e:Env} {σ:St} {Q:Out→Prop} {K:KJ} (h:wp T (.seq a x) e σ K) (hK:∀ j e' σ',K j e' σ'→j=none) (h2:∀ e' σ',wp T x e' σ' K→Run T (.code y e' σ') Q):Run T (.code (.seq a y) e σ) Q:=by
 refine .seq (fR (show wp T a e σ _ from by simpa only [wp] using h) fun o ho=>ho) (fun o ho hj=>?_) fun o ho hj=>?_
 ·rw [hj] at ho
  simp only [mR] at ho
  exact h2 _ _ ho
 ·cases hq:o.j with
  |none=>exact absurd hq hj
  |some q=>rw [hq] at ho;simp only [mR] at ho;exact absurd (hK _ _ _ ho) (by simp)
theorem uM {R:Env→St→Prop}:∀ j e' σ',(fun j e' σ'=>j=none∧R e' σ':KJ) j e' σ'→j=none:=fun _ _ _ h=>h.1
theorem MU {a b d:ACode} {e:Env} {σ:St} {Q:Out→Prop} (R:Env→St→Prop) (h:wp T (.seq a b) e σ fun j e' σ'=>j=none∧R e' σ') (h2:∀ e' σ',R e' σ'→Run T (.code d e' σ') Q):Run T (.code (.seq a (.seq b d)) e σ) Q :=
 t9 h uM fun _ _ k=>I8 R k h2
theorem QQ {a b c d:ACode} {e:Env} {σ:St} {Q:Out→Prop} (R:Env→St→Prop) (h:wp T (.seq a (.seq b c)) e σ fun j e' σ'=>j=none∧R e' σ') (h2:∀ e' σ',R e' σ'→Run T (.code d e' σ') Q):Run T (.code (.seq a (.seq b (.seq c d))) e σ) Q :=
 t9 h uM fun _ _ k=>MU R k h2
theorem OC {a b c c1 d:ACode} {e:Env} {σ:St} {Q:Out→Prop} (R:Env→St→Prop) (h:wp T (.seq a (.seq b (.seq c c1))) e σ fun j e' σ'=>j=none∧R e' σ') (h2:∀ e' σ',R e' σ'→Run T (.code d e' σ') Q):Run T (.code (.seq a (.seq b (.seq c (.seq c1 d)))) e σ) Q :=
 t9 h uM fun _ _ k=>QQ R k h2
theorem NN {a b c c1 c2 d:ACode} {e:Env} {σ:St} {Q:Out→Prop} (R:Env→St→Prop) (h:wp T (.seq a (.seq b (.seq c (.seq c1 c2)))) e σ fun j e' σ'=>j=none∧R e' σ') (h2:∀ e' σ',R e' σ'→Run T (.code d e' σ') Q):Run T (.code (.seq a (.seq b (.seq c (.seq c1 (.seq c2 d))))) e σ) Q :=
 t9 h uM fun _ _ k=>OC R k h2
end Go.Am
namespace Go.Am
variable {T:FuncId→Option AFunc}
def M2:ACode→List ACode→ACode
 |a,[]=>a
 |a,b::l=>.seq a (M2 b l)
theorem FQ {R:Env→St→Prop}:∀ (az:List ACode) (a:ACode) (e:Env) (σ:St),wp T (M2 a az) e σ (fun j e' σ'=>j=none∧R e' σ')→Run T (.chain (a::az) e σ) fun o=>o.j=none∧R o.env o.σ
 |[],a,e,σ,h=>.chainCons (fR h fun o ho=>ho) (fun o ho _=>.chainNil ⟨rfl,ho.2⟩) fun o ho hj=>absurd ho.1 hj
 |b::l,a,e,σ,h=>by
  refine .chainCons (fR (show wp T a e σ _ from by simpa only [M2,wp] using h) fun o ho=>ho) (fun o ho hj=>?_) fun o ho hj=>?_
  ·rw [hj] at ho
   simp only [mR] at ho
   exact FQ l b _ _ ho
  ·cases hq:o.j with
   |none=>exact absurd hq hj
   |some q=>rw [hq] at ho;simp only [mR] at ho;exact absurd ho.1 (by simp)
theorem YH {a c:ACode} (az:List ACode) {e:Env} {σ:St} {Q:Out→Prop} (R S:Env→St→Prop) (h:wp T (M2 a az) e σ fun j e' σ'=>j=none∧R e' σ')
  (h2:∀ e' σ',R e' σ'→∃ env1 σ1 env2 σ2,vP σ e' σ' env1 σ1∧((env2=env1∧σ2=σ1)∨JU σ.length env1 σ1 env2 σ2)∧S env2 σ2)
  (h3:∀ e σ,S e σ→Run T (.code c e σ) Q):Run T (.code (GZ (a::az) c) e σ) Q :=
 Run.chain (a0:=a) (az:=az) (c:=c) (R:=fun o=>o.j=none∧R o.env o.σ) (S:=S) (FQ az a e σ h) (fun o ho hj=>absurd ho.1 hj) (fun o ho _=>h2 _ _ ho.2) h3
end Go.Am
set_option maxRecDepth 8000
namespace Go.Am.Room
theorem K2 {v:Net} (hv:Vd v) {s:Int} (hs:0≤s∧s<v.stations):jM v s=(cF v s [],0):=by
 rw [jM,EI hv,if_pos rfl,if_pos (kL.2 hs)]
end Go.Am.Room
set_option maxRecDepth 8000
namespace Go.Am.Room
def aQ:=And.intro @bD (And.intro @aK (And.intro @aU (And.intro @aV (And.intro @aT (And.intro @aR (And.intro @a9 (And.intro @aY (And.intro @aW (And.intro @dV (And.intro @List.length_append.{0} (And.intro @Int.toNat_natCast (And.intro @bE (@aCL)))))))))))))
theorem F5q {σ:St} {l:List Int} {a:Int} {ex:Bool} {t:Nat} (hn:l.length<10000000) (ht:σ[t]? = some (.tok 1 l.length ex)):fV 1 8 σ (.lit (l.map (.int .i64)) false (some t)) (.lit [.int .i64 a] true none)=some (.lit ((l++[a]).map (.int .i64)) false (some t),σ.set t (.tok 1 (l.length+1) true)):=by
 rw [wW (ex:=ex) ⟨vQ 1 _ l (fun x=>IL _ _),by simp [aM,AV.cells,AV.cell],by simp [room];omega,by simp [room];omega⟩ (by simp) (by simpa using ht)]
 simp
def FI (v:Net) (y:List Int) (k:Nat):Nat:=(mC y k).toNat%v.rails.length
def nS (v:Net) (y:List Int) (k:Nat):List Int:=(List.range k).map fun j=>(FI v y j:Int)
theorem FG (v:Net) (y:List Int) (k:Nat):(nS v y k).length=k:=by simp [nS]
theorem A9 (v:Net) (y:List Int) (k:Nat):nS v y (k+1)=nS v y k++[(FI v y k:Int)]:=by simp [nS,List.range_succ]
def sY (v:Net) (y:List Int) (k:Nat):Bool:=decide (0<v.rails.length)&&decide (0<y.length)&&(nS v y k).all fun r=>!((cB v r).shut==1)
theorem KE (v:Net) (y:List Int) (k:Nat):sY v y (k+1)=(sY v y k&&!((cB v (FI v y k:Int)).shut==1)):=by
 rw [sY,sY,A9,List.all_append,Bool.and_assoc,Bool.and_assoc,Bool.and_assoc]
 simp [Bool.and_assoc]
theorem VJ {v:Net} (h:0<v.rails.length) (y:List Int) (k:Nat):∀ r∈nS v y k,0≤r∧r<v.rails.length:=fun r hr=>by
 simp only [nS,List.mem_map] at hr
 obtain ⟨j,_,rfl⟩:=hr
 have:=Nat.mod_lt (mC y j).toNat h
 simp only [FI]
 omega
def k6 (W:List (List Int)) (d:List Int):Nat→Nat
 |0=>0
 |k+1=>k6 W d k+(if W[k]? = some d then 1 else 0)
theorem DR (W:List (List Int)) (d:List Int):∀ k,k6 W d k≤k
 |0=>Nat.le_refl _
 |k+1=>by
  have:=DR W d k
  rw [k6]
  split<;>omega
theorem FY {W:List (List Int)} {d:List Int}:∀ {k:Nat},(∀ i,i<k→W[i]?≠some d)→k6 W d k=0
 |0,_=>rfl
 |k+1,h=>by rw [k6,FY fun i hi=>h i (by omega),if_neg (h k (by omega))]
theorem IH {W:List (List Int)} {d:List Int} {i:Nat} (hn:W.Nodup) (hi:i<W.length) (h:W[i]=d):∀ k,i<k→k6 W d k=1
 |0,hk=>by omega
 |k+1,hk=>by
  have same:∀ j,W[j]? = some d→j=i:=fun j e=>by
   obtain ⟨hj,he⟩:=List.getElem?_eq_some_iff.1 e
   exact (List.getElem_inj hn (h₀:=hj) (h₁:=hi)).1 (he.trans h.symm)
  rw [k6]
  by_cases q:k=i
  ·subst q
   rw [FY fun j hj e=>by have:=same j e;omega,if_pos (by rw [List.getElem?_eq_getElem hi,h])]
  ·rw [IH hn hi h k (by omega),if_neg fun e=>q (same k e)]
theorem R7 {W:List (List Int)} {d:List Int} (hn:W.Nodup) (h:d∈W):k6 W d W.length=1:=by
 obtain ⟨i,hi,he⟩:=List.getElem_of_mem h
 exact IH hn hi he _ hi
theorem Y5 {v:Net} {y:List Int} {s:Int} {k:Nat} (hk:sY v y k=true) (hl:d7 v s (nS v y k)=true):nS v y k∈cF v s []:=by
 rw [sY,Bool.and_eq_true,Bool.and_eq_true,decide_eq_true_eq,List.all_eq_true] at hk
 refine DL.2 ⟨hl,fun r hr=>?_⟩
 have h1:=VJ hk.1.1 y k r hr
 have h2:=hk.2 r hr
 exact ⟨h1.1,h1.2,by simpa using h2⟩
def aET (v:Net) (y:List Int) (s:Nat) (W:List (List Int)) (e:Env) (σ:St):Prop:=∃ k f ex,(f=true→k=y.length∧sY v y k=true)∧k≤y.length∧Env.get e 3 = .ptr 0 0∧Env.get e 9 = .int .i64 s∧Env.get e 10=cL W∧Env.get e 12 = .lit ((nS v y k).map (.int .i64)) false (some 1)∧Env.get e 13 = .bool f∧σ=[.cells (aB v),.tok 1 k ex]
def aDI (v:Net) (s:Nat) (W:List (List Int)) (D:List Int) (e:Env) (σ:St):Prop:=∃ F,(F=true→D∈W)∧Env.get e 3 = .ptr 0 0∧Env.get e 9 = .int .i64 s∧Env.get e 10=cL W∧Env.get e 12=ints D∧Env.get e 13 = .bool F∧σ=[.cells (aB v)]
theorem NJ {W:List (List Int)} {d:List Int} {k:Nat} (h:k<W.length):k6 W d (k+1)=k6 W d k+(if W[k]=d then 1 else 0):=by
 rw [k6,List.getElem?_eq_getElem h]
 simp only [Option.some.injEq]
set_option maxHeartbeats 2000000 in
theorem EB (v:Net) (x:Nat) (y:List Int) (hf:Fits v) (hx:x<256) (hy:QX y) (hyl:y.length≤1048576):d6 T 14 [dK v,.int .u8 x,u8s y] (.bool true):=by
 have okz:((0:Int)==0)=true:=rfl
 cases hs:decide ((cG v).2.2=0)
 ·refine aZ (af:=a14) rfl (by simp [a14]) dd ?_
  have hc:(cG v).2.2≠0:=by simpa using hs
  have e1:jM v 0=([],(cG v).2.2):=if_neg hc
  have g:((cG v).2.2==0)=false:=by simpa using hc
  (repeat (first|simp only [↓QA,QB,Nat.reduceLT,reduceIte,Nat.reduceEqDiff,Nat.reduceAdd,Nat.reduceLeDiff,Nat.reduceMul,Nat.reduceBEq,aQ,a14,u8s]|refine rd0 rfl ?_))
  ((first|refine aF (uG v hf) rfl dd ?_|refine aG (uG v hf) rfl dd ?_);(repeat (first|simp only [↓QA,QB,Nat.reduceLT,reduceIte,Nat.reduceEqDiff,Nat.reduceAdd,Nat.reduceLeDiff,Nat.reduceMul,Nat.reduceBEq,aQ,hs,u8s]|refine rd0 rfl ?_)))
  ((first|refine aF (lM v hf 0) rfl dd ?_|refine aG (lM v hf 0) rfl dd ?_);(repeat (first|simp only [↓QA,QB,Nat.reduceLT,reduceIte,Nat.reduceEqDiff,Nat.reduceAdd,Nat.reduceLeDiff,Nat.reduceMul,Nat.reduceBEq,aQ,sV,e1,g,u8s]|refine rd0 rfl ?_)))
  refine aF yH rfl eQ ?_
  (repeat (first|simp only [↓QA,QB,Nat.reduceLT,reduceIte,Nat.reduceEqDiff,Nat.reduceAdd,Nat.reduceLeDiff,Nat.reduceMul,Nat.reduceBEq,aQ]|refine rd0 rfl ?_))
 ·refine P7 (af:=a14) rfl (by simp [a14]) dd ?_
  have hc:(cG v).2.2=0:=by simpa using hs
  have hv:=gS hc
  have hnr:=hv.nra
  have hvst:=hv.st
  have hsz:v.stations≠0:=by omega
  have hwx:IntKind.i64.wrap (x:Int)=x:=dU ⟨by omega,by omega⟩
  obtain ⟨s,hst,hstl⟩:=UH (a:=(x:Int)) (by omega) (show 0<v.stations.toNat by omega)
  have hsn:((v.stations.toNat:Nat):Int)=v.stations:=by omega
  rw [hsn] at hst
  have pst:=K2 hv (s:=(s:Int)) ⟨by omega,by omega⟩
  have hwn:=GL v s []
  have hws:=vZ v s []
  have hwl:=xJ hv.nra (s:Int) []
  have hwm:=fun l=>(DL (v:=v) (s:=(s:Int)) (l:=l)).1
  have hdw:=fun k=>Y5 (v:=v) (y:=y) (s:=(s:Int)) (k:=k)
  obtain ⟨W,hW⟩:∃ W,cF v (s:Int) []=W:=⟨_,rfl⟩
  rw [hW] at pst hwn hws hwl
  simp only [hW] at hwm hdw
  simp only [a14]
  refine NN (fun e σ=>Env.get e 2=u8s y∧Env.get e 3 = .ptr 0 0∧Env.get e 9 = .int .i64 s∧Env.get e 10=cL W∧σ=[.cells (aB v)]) ?_ fun e σ ⟨e2,e3,e9,e10,hσ⟩=>?_
  ·(repeat (first|simp only [↓QA,QB,Nat.reduceLT,reduceIte,Nat.reduceEqDiff,Nat.reduceAdd,Nat.reduceLeDiff,Nat.reduceMul,Nat.reduceBEq,aQ,u8s]|refine rd0 rfl ?_))
   ((first|refine aF (uG v hf) rfl dd ?_|refine aG (uG v hf) rfl dd ?_);(repeat (first|simp only [↓QA,QB,Nat.reduceLT,reduceIte,Nat.reduceEqDiff,Nat.reduceAdd,Nat.reduceLeDiff,Nat.reduceMul,Nat.reduceBEq,aQ,hs,u8s,hwx,OR _ _ _ hsz,hst]|refine rd0 rfl ?_)))
   ((first|refine aF (lM v hf s) rfl dd ?_|refine aG (lM v hf s) rfl dd ?_);(repeat (first|simp only [↓QA,QB,Nat.reduceLT,reduceIte,Nat.reduceEqDiff,Nat.reduceAdd,Nat.reduceLeDiff,Nat.reduceMul,Nat.reduceBEq,aQ,sV,pst,okz,u8s]|refine rd0 rfl ?_)))
  subst hσ
  refine YH [_,_] (aET v y s W)
   (fun e σ=>∃ k f,(f=true→k=y.length∧sY v y k=true)∧k≤y.length∧Env.get e 3 = .ptr 0 0∧Env.get e 9 = .int .i64 s∧Env.get e 10=cL W∧Env.get e 12=ints (nS v y k)∧Env.get e 13 = .bool f∧σ=[.cells (aB v)]) ?_ ?_ ?_
  ·obtain ⟨d0,hd0⟩:∃ d,decide ((0:Int)<(v.rails.length:Int))=d:=⟨_,rfl⟩
   have hd0':decide (0<v.rails.length)=d0:=by rw [←hd0];simp
   have hi0:sY v y 0=(d0&&decide ((0:Int)<(y.length:Int))):=by rw [sY,hd0'];simp [nS]
   cases d0
   all_goals
    (repeat (first|simp only [↓QA,QB,Nat.reduceLT,reduceIte,Nat.reduceEqDiff,Nat.reduceAdd,Nat.reduceLeDiff,Nat.reduceMul,Nat.reduceBEq,aQ,M2,e2,e3,e9,e10,hd0,u8s]|refine rd0 rfl ?_))
    refine pU 12 1 [] rfl ?_
    refine dF (S:=Nat×Bool) (0,false) (fun z=>z.1≤y.length) (fun z=>y.length-z.1)
     (fun z=>[(2,u8s y),(3,.ptr 0 0),(9,.int .i64 s),(10,cL W),(12,.lit ((nS v y z.1).map (.int .i64)) false (some 1)),(13,.bool (sY v y z.1)),(14,.int .i64 z.1)]) (fun z=>[.cells (aB v),.tok 1 z.1 z.2]) (Nat.zero_le _) (by simp [aB,ints]) ?_ fun z hz=>?_
    ·try simp only [aD,QE,Nat.reduceLT,reduceIte,Nat.reduceEqDiff,Nat.reduceAdd,Nat.reduceLeDiff,Nat.reduceMul,Nat.reduceBEq,aQ,e2,e3,e9,e10,hi0,u8s,Bool.false_and,Bool.true_and]
     try simp [nS]
    ·obtain ⟨k,ex⟩:=z
     simp only at hz
     (repeat (first|simp only [↓QA,QB,Nat.reduceLT,reduceIte,Nat.reduceEqDiff,Nat.reduceAdd,Nat.reduceLeDiff,Nat.reduceMul,Nat.reduceBEq,aQ,WI,u8s]|refine rd0 rfl ?_))
     cases hd:decide ((k:Int)<(y.length:Int))
     ·have hk1:k=y.length:=by
       have:¬k<y.length:=by simpa using hd
       omega
      (repeat (first|simp only [↓QA,QB,Nat.reduceLT,reduceIte,Nat.reduceEqDiff,Nat.reduceAdd,Nat.reduceLeDiff,Nat.reduceMul,Nat.reduceBEq,aQ,hd]|refine rd0 rfl ?_))
      exact ⟨k,sY v y k,ex,fun h=>⟨hk1,h⟩,by omega,rfl,rfl,by simp [Env.get,bE],rfl,rfl,by simp [aB]⟩
     ·have hk1:k<y.length:=by simpa using hd
      cases hf1:sY v y k
      ·(repeat (first|simp only [↓QA,QB,Nat.reduceLT,reduceIte,Nat.reduceEqDiff,Nat.reduceAdd,Nat.reduceLeDiff,Nat.reduceMul,Nat.reduceBEq,aQ,hd,hf1]|refine rd0 rfl ?_))
       exact ⟨k,false,ex,(fun h=>by cases h),by omega,rfl,rfl,by simp [Env.get,bE],rfl,rfl,by simp [aB]⟩
      ·have hrp:0<v.rails.length:=by
        rw [sY,Bool.and_eq_true,Bool.and_eq_true,decide_eq_true_eq] at hf1
        exact hf1.1.1
       have hw:=cR hk1 (by omega)
       have hos:=KE v y k
       rw [hf1,Bool.true_and] at hos
       have hds:=A9 v y k
       have hdl:=FG v y k
       have htb:=J1 hy k
       have hdo:FI v y k=(mC y k).toNat%v.rails.length:=rfl
       obtain ⟨u,hu⟩:∃ u:Nat,mC y k=u:=⟨(mC y k).toNat,by omega⟩
       have hul:=Nat.mod_lt u hrp
       have hrz:((v.rails.length:Nat):Int)≠0:=by omega
       have hmod:((u:Nat):Int).tmod (v.rails.length:Int)=((u%v.rails.length:Nat):Int):=by rw [Int.tmod_eq_emod_of_nonneg (by omega)];norm_cast
       rw [hu,Int.toNat_natCast] at hdo
       obtain ⟨j,hj⟩:∃ j,u%v.rails.length=j:=⟨_,rfl⟩
       rw [hj] at hdo hul hmod
       rw [hdo] at hos hds
       have hra:cB v (j:Int)=v.rails[j]:=by simp [cB,hul]
       rw [hra] at hos
       obtain ⟨z,hz2⟩:∃ z,v.rails[j]=z:=⟨_,rfl⟩
       rw [hz2] at hos
       have hto:=S9 y k hy (by omega)
       rw [hu] at hto
       obtain ⟨A,hA⟩:∃ A,nS v y k=A:=⟨_,rfl⟩
       rw [hA] at hds hdl
       rw [hA]
       have hap:=fun (b0:ABlk) (τ:St)=>F5q (σ:=b0::.tok 1 A.length ex::τ) (l:=A) (a:=(j:Int)) (ex:=ex) (t:=1) (by omega) rfl
       rw [hdl] at hap
       (repeat (first|simp only [↓QA,QB,Nat.reduceLT,reduceIte,Nat.reduceEqDiff,Nat.reduceAdd,Nat.reduceLeDiff,Nat.reduceMul,Nat.reduceBEq,aQ,hd,hf1]|refine rd0 rfl ?_))
       ((first|refine aF (hto) rfl dd ?_|refine aG (hto) rfl dd ?_);(repeat (first|simp only [↓QA,QB,Nat.reduceLT,reduceIte,Nat.reduceEqDiff,Nat.reduceAdd,Nat.reduceLeDiff,Nat.reduceMul,Nat.reduceBEq,aQ,OR _ _ _ hrz,hmod,hap,hul,hz2,u8s]|refine rd0 rfl ?_)))
       refine ⟨(k+1,true),by simp only;omega,by simp only;omega,?_⟩
       try simp only [aD,QE,Nat.reduceLT,reduceIte,Nat.reduceEqDiff,Nat.reduceAdd,Nat.reduceLeDiff,Nat.reduceMul,Nat.reduceBEq,aQ,hw,hds,hos,nE,List.map_append,List.map_cons,List.map_nil,u8s]
       try simp [aN,hdl]
  ·rintro e σ ⟨k,f,ex,hfk,hkl,q3,q9,q10,q12,q13,rfl⟩
   refine ⟨[(3,.ptr 0 0),(9,.int .i64 s),(10,cL W),(12,ints (nS v y k)),(13,.bool f)],[.cells (aB v)],_,_,⟨by simp,by simp,⟨.inl ⟨q3.symm,by rw [q3];simp [okV]⟩,.inl ⟨q9.symm,by rw [q9];trivial⟩,.inl ⟨q10.symm,by rw [q10];exact okV_up _ (oT W).1⟩,.inr ⟨20,ints (nS v y k),?_,.inl rfl⟩,.inl ⟨q13.symm,by rw [q13];trivial⟩,trivial⟩,fun i hi=>?_⟩,.inl ⟨rfl,rfl⟩,k,f,hfk,hkl,rfl,rfl,rfl,rfl,rfl,rfl⟩
   ·rw [q12]
    simp only [snap,snaps_ok0 _ _ 20 _ (dB (cN .i64) (nS v y k)).1]
    simp [Option.filter,ints]
   ·match i,hi with
    |0,_=>exact ⟨_,rfl,.inl ⟨by simp,.inl rfl,rfl⟩⟩
  ·rintro e σ ⟨k,f,hfk,hkl,q3,q9,q10,q12,q13,rfl⟩
   have hDl:=FG v y k
   have hdk:=hdw k
   have hin:=fun h=>VJ (v:=v) h y k
   have hrp:f=true→0<v.rails.length:=fun h=>by
    have h1:=(hfk h).2
    rw [sY,Bool.and_eq_true,Bool.and_eq_true,decide_eq_true_eq] at h1
    exact h1.1.1
   obtain ⟨D,hD⟩:∃ D,nS v y k=D:=⟨_,rfl⟩
   rw [hD] at q12 hDl hdk
   simp only [hD] at hin
   refine I8 (aDI v s W D) ?_ fun e σ hw=>?_
   ·cases f
    ·(repeat (first|simp only [↓QA,QB,Nat.reduceLT,reduceIte,Nat.reduceEqDiff,Nat.reduceAdd,Nat.reduceLeDiff,Nat.reduceMul,Nat.reduceBEq,aQ,q3,q9,q10,q12,q13]|refine rd0 rfl ?_))
     exact ⟨false,(fun h=>by cases h),q3,q9,q10,q12,rfl,rfl⟩
    ·have hle:=rI v s D (hin (hrp rfl)) (by omega)
     obtain ⟨g,hg⟩:∃ g,d7 v s D=g:=⟨_,rfl⟩
     rw [hg] at hle hdk
     (repeat (first|simp only [↓QA,QB,Nat.reduceLT,reduceIte,Nat.reduceEqDiff,Nat.reduceAdd,Nat.reduceLeDiff,Nat.reduceMul,Nat.reduceBEq,aQ,q3,q9,q10,q12,q13]|refine rd0 rfl ?_))
     ((first|refine aF (hle) rfl dd ?_|refine aG (hle) rfl dd ?_);(repeat (first|simp only [↓QA,QB,Nat.reduceLT,reduceIte,Nat.reduceEqDiff,Nat.reduceAdd,Nat.reduceLeDiff,Nat.reduceMul,Nat.reduceBEq,aQ,q3,q9,q10,q12,q13]|refine rd0 rfl ?_)))
     exact ⟨g,hdk (hfk rfl).2,q3,q9,q10,q12,rfl,rfl⟩
   ·obtain ⟨F,hF,q3,q9,q10,q12,q13,hσ⟩:=hw
    rw [hσ]
    have hDlen:D.length<9223372036854775808:=by omega
    refine PM ?_
    (repeat (first|simp only [↓QA,QB,Nat.reduceLT,reduceIte,Nat.reduceEqDiff,Nat.reduceAdd,Nat.reduceLeDiff,Nat.reduceMul,Nat.reduceBEq,aQ,q3,q9,q10,q12,q13]|refine rd0 rfl ?_))
    refine dF (S:=Nat) 0 (fun i=>i≤W.length) (fun i=>W.length-i)
     (fun i=>[(3,.ptr 0 0),(9,.int .i64 s),(10,cL W),(12,ints D),(13,.bool F),(16,.int .i64 (k6 W D i:Nat)),(17,.int .i64 i)]) (fun _=>[.cells (aB v)]) (Nat.zero_le _) (by simp [aB,ints]) ?_ fun i hi=>?_
    ·try simp only [aD,QE,Nat.reduceLT,reduceIte,Nat.reduceEqDiff,Nat.reduceAdd,Nat.reduceLeDiff,Nat.reduceMul,Nat.reduceBEq,aQ,q3,q9,q10,q12,q13]
     try simp [k6]
    ·(repeat (first|simp only [↓QA,QB,Nat.reduceLT,reduceIte,Nat.reduceEqDiff,Nat.reduceAdd,Nat.reduceLeDiff,Nat.reduceMul,Nat.reduceBEq,aQ,WK]|refine rd0 rfl ?_))
     refine aI (fun hd=>?_) fun hd=>?_
     ·have hi1:i<W.length:=by simpa using hd
      have hw:=cR hi1 (by omega)
      have hhl:=DR W D i
      have hhs:=NJ (d:=D) hi1
      have hwh:=cR (show k6 W D i<i+1 by omega) (by omega)
      have hmi:=hwm _ (List.getElem_mem hi1)
      have hwi:W[i].length≤4:=(rR hmi.1).2.1
      have hprev:∀ h:0<i,CD (W[i-1]'(by omega)) W[i]:=fun h=>List.pairwise_iff_getElem.1 hws (i-1) i (by omega) hi1 (by omega)
      have hple:∀ h:0<i,(W[i-1]'(by omega)).length≤4:=fun h=>(rR (hwm _ (List.getElem_mem (by omega))).1).2.1
      have hle:=rI v s W[i] (fun r hr=>⟨(hmi.2 r hr).1,(hmi.2 r hr).2.1⟩) (by omega)
      rw [hmi.1] at hle
      obtain ⟨P,hP⟩:∃ P,W[i]=P:=⟨_,rfl⟩
      rw [hP] at hle hmi hwi hhs hprev
      have hio:=kB P D (by omega) hDlen
      obtain ⟨m,hm⟩:∃ m,k6 W D i=m:=⟨_,rfl⟩
      rw [hm] at hhs hwh
      rw [hm]
      (repeat (first|simp only [↓QA,QB,Nat.reduceLT,reduceIte,Nat.reduceEqDiff,Nat.reduceAdd,Nat.reduceLeDiff,Nat.reduceMul,Nat.reduceBEq,aQ]|refine rd0 rfl ?_))
      refine dF (S:=Nat) 0 (fun j=>j≤P.length) (fun j=>P.length-j)
       (fun j=>[(3,.ptr 0 0),(9,.int .i64 s),(10,cL W),(12,ints D),(13,.bool F),(16,.int .i64 m),(17,.int .i64 i),(18,.int .i64 j)]) (fun _=>[.cells (aB v)]) (Nat.zero_le _) (by simp [aB,ints]) ?_ fun j hj=>?_
      ·try simp only [aD,QE,Nat.reduceLT,reduceIte,Nat.reduceEqDiff,Nat.reduceAdd,Nat.reduceLeDiff,Nat.reduceMul,Nat.reduceBEq,aQ]
       try simp
      ·(repeat (first|simp only [↓QA,QB,Nat.reduceLT,reduceIte,Nat.reduceEqDiff,Nat.reduceAdd,Nat.reduceLeDiff,Nat.reduceMul,Nat.reduceBEq,aQ,WJ,hi1,hP]|refine rd0 rfl ?_))
       refine aI (fun hd2=>?_) fun hd2=>?_
       ·have hj1:j<P.length:=by simpa using hd2
        have hw2:=cR hj1 (by omega)
        have hr:=hmi.2 _ (List.getElem_mem hj1)
        obtain ⟨ρ,hρ⟩:∃ ρ:Nat,P[j]=ρ:=⟨P[j].toNat,by omega⟩
        rw [hρ] at hr
        have hρl:ρ<v.rails.length:=by omega
        have hra:cB v (ρ:Int)=v.rails[ρ]:=by simp [cB,hρl]
        rw [hra] at hr
        obtain ⟨z,hz2⟩:∃ z,v.rails[ρ]=z:=⟨_,rfl⟩
        rw [hz2] at hr
        have hsh:(z.shut==1)=false:=by simpa using hr.2.2
        have hw1:IntKind.i64.wrap ((v.rails.length:Int)-1)=(v.rails.length:Int)-1:=dU ⟨by omega,by omega⟩
        have hin2:inR (ρ:Int) 0 ((v.rails.length:Int)-1)=true:=cW.2 (by omega)
        (repeat (first|simp only [↓QA,QB,Nat.reduceLT,reduceIte,Nat.reduceEqDiff,Nat.reduceAdd,Nat.reduceLeDiff,Nat.reduceMul,Nat.reduceBEq,aQ,hi1,hP,hj1,hρ,hw1]|refine rd0 rfl ?_))
        ((first|refine aF (eV (ρ:Int) 0 ((v.rails.length:Int)-1)) rfl dd ?_|refine aG (eV (ρ:Int) 0 ((v.rails.length:Int)-1)) rfl dd ?_);(repeat (first|simp only [↓QA,QB,Nat.reduceLT,reduceIte,Nat.reduceEqDiff,Nat.reduceAdd,Nat.reduceLeDiff,Nat.reduceMul,Nat.reduceBEq,aQ,hin2,hi1,hP,hj1,hρ,hw1,hρl,hz2,hsh]|refine rd0 rfl ?_)))
        refine ⟨j+1,by omega,by omega,?_⟩
        try simp only [aD,QE,Nat.reduceLT,reduceIte,Nat.reduceEqDiff,Nat.reduceAdd,Nat.reduceLeDiff,Nat.reduceMul,Nat.reduceBEq,aQ,hw2]
        try simp [aN]
       ·have hfinish:∀ q,decide (P=D)=q→k6 W D (i+1)=m+(if q=true then 1 else 0):=fun q hq=>by
         rw [hhs]
         by_cases e:P=D
         ·have:q=true:=by rw [←hq];simpa using e
          rw [if_pos e,if_pos this]
         ·have:¬q=true:=by rw [←hq];simpa using e
          rw [if_neg e,if_neg this]
        obtain ⟨q,hq⟩:∃ q,decide (P=D)=q:=⟨_,rfl⟩
        have hfi:=hfinish q hq
        rw [hq] at hio
        by_cases h0:i=0
        ·have dz:decide ((0:Int)<(i:Int))=false:=by rw [h0];rfl
         (repeat (first|simp only [↓QA,QB,Nat.reduceLT,reduceIte,Nat.reduceEqDiff,Nat.reduceAdd,Nat.reduceLeDiff,Nat.reduceMul,Nat.reduceBEq,aQ,hi1,hP]|refine rd0 rfl ?_))
         ((first|refine aF (hle) rfl dd ?_|refine aG (hle) rfl dd ?_);(repeat (first|simp only [↓QA,QB,Nat.reduceLT,reduceIte,Nat.reduceEqDiff,Nat.reduceAdd,Nat.reduceLeDiff,Nat.reduceMul,Nat.reduceBEq,aQ,hi1,hP,dz]|refine rd0 rfl ?_)))
         ((first|refine aF (hio) rfl dd ?_|refine aG (hio) rfl dd ?_);(repeat (first|simp only [↓QA,QB,Nat.reduceLT,reduceIte,Nat.reduceEqDiff,Nat.reduceAdd,Nat.reduceLeDiff,Nat.reduceMul,Nat.reduceBEq,aQ,hi1,hP]|refine rd0 rfl ?_)))
         cases q
         ·(repeat (first|simp only [↓QA,QB,Nat.reduceLT,reduceIte,Nat.reduceEqDiff,Nat.reduceAdd,Nat.reduceLeDiff,Nat.reduceMul,Nat.reduceBEq,aQ]|refine rd0 rfl ?_))
          refine ⟨i+1,by omega,by omega,?_⟩
          rw [hfi]
          try simp only [aD,QE,Nat.reduceLT,reduceIte,Nat.reduceEqDiff,Nat.reduceAdd,Nat.reduceLeDiff,Nat.reduceMul,Nat.reduceBEq,aQ,hw]
          try simp [aN]
         ·(repeat (first|simp only [↓QA,QB,Nat.reduceLT,reduceIte,Nat.reduceEqDiff,Nat.reduceAdd,Nat.reduceLeDiff,Nat.reduceMul,Nat.reduceBEq,aQ,hwh]|refine rd0 rfl ?_))
          refine ⟨i+1,by omega,by omega,?_⟩
          rw [hfi]
          try simp only [aD,QE,Nat.reduceLT,reduceIte,Nat.reduceEqDiff,Nat.reduceAdd,Nat.reduceLeDiff,Nat.reduceMul,Nat.reduceBEq,aQ,hw,hwh]
          try simp [aN]
        ·have hpos:0<i:=by omega
         have dz:decide ((0:Int)<(i:Int))=true:=by simpa using hpos
         have hp2:=hprev hpos
         have hpl:=hple hpos
         obtain ⟨h,hh⟩:∃ h,i-1=h:=⟨_,rfl⟩
         have hhl2:h<W.length:=by omega
         have hwi1:IntKind.i64.wrap ((i:Int)-1)=(h:Int):=by rw [dU ⟨by omega,by omega⟩];omega
         simp only [hh] at hp2 hpl
         obtain ⟨Q,hQ⟩:∃ Q,W[h]=Q:=⟨_,rfl⟩
         rw [hQ] at hp2 hpl
         have c1:decide ((P.length:Int)<(Q.length:Int))=false:=by
          rcases hp2 with h|h
          ·simp;omega
          ·simp;omega
         have hls:=CX Q P (by omega) (by omega)
         rcases hp2 with h5|⟨h5,h6⟩
         ·have c2:(((P.length:Nat):Int)==(Q.length:Int))=false:=by rw [beq_eq_false_iff_ne];omega
          (repeat (first|simp only [↓QA,QB,Nat.reduceLT,reduceIte,Nat.reduceEqDiff,Nat.reduceAdd,Nat.reduceLeDiff,Nat.reduceMul,Nat.reduceBEq,aQ,hi1,hP]|refine rd0 rfl ?_))
          ((first|refine aF (hle) rfl dd ?_|refine aG (hle) rfl dd ?_);(repeat (first|simp only [↓QA,QB,Nat.reduceLT,reduceIte,Nat.reduceEqDiff,Nat.reduceAdd,Nat.reduceLeDiff,Nat.reduceMul,Nat.reduceBEq,aQ,hi1,hP,dz,hwi1,hhl2,hQ,c1,c2]|refine rd0 rfl ?_)))
          ((first|refine aF (hio) rfl dd ?_|refine aG (hio) rfl dd ?_);(repeat (first|simp only [↓QA,QB,Nat.reduceLT,reduceIte,Nat.reduceEqDiff,Nat.reduceAdd,Nat.reduceLeDiff,Nat.reduceMul,Nat.reduceBEq,aQ,hi1,hP]|refine rd0 rfl ?_)))
          cases q
          ·(repeat (first|simp only [↓QA,QB,Nat.reduceLT,reduceIte,Nat.reduceEqDiff,Nat.reduceAdd,Nat.reduceLeDiff,Nat.reduceMul,Nat.reduceBEq,aQ]|refine rd0 rfl ?_))
           refine ⟨i+1,by omega,by omega,?_⟩
           rw [hfi]
           try simp only [aD,QE,Nat.reduceLT,reduceIte,Nat.reduceEqDiff,Nat.reduceAdd,Nat.reduceLeDiff,Nat.reduceMul,Nat.reduceBEq,aQ,hw]
           try simp [aN]
          ·(repeat (first|simp only [↓QA,QB,Nat.reduceLT,reduceIte,Nat.reduceEqDiff,Nat.reduceAdd,Nat.reduceLeDiff,Nat.reduceMul,Nat.reduceBEq,aQ,hwh]|refine rd0 rfl ?_))
           refine ⟨i+1,by omega,by omega,?_⟩
           rw [hfi]
           try simp only [aD,QE,Nat.reduceLT,reduceIte,Nat.reduceEqDiff,Nat.reduceAdd,Nat.reduceLeDiff,Nat.reduceMul,Nat.reduceBEq,aQ,hw,hwh]
           try simp [aN]
         ·have c2:(((P.length:Nat):Int)==(Q.length:Int))=true:=by rw [h5];simp
          rw [h6] at hls
          (repeat (first|simp only [↓QA,QB,Nat.reduceLT,reduceIte,Nat.reduceEqDiff,Nat.reduceAdd,Nat.reduceLeDiff,Nat.reduceMul,Nat.reduceBEq,aQ,hi1,hP]|refine rd0 rfl ?_))
          ((first|refine aF (hle) rfl dd ?_|refine aG (hle) rfl dd ?_);(repeat (first|simp only [↓QA,QB,Nat.reduceLT,reduceIte,Nat.reduceEqDiff,Nat.reduceAdd,Nat.reduceLeDiff,Nat.reduceMul,Nat.reduceBEq,aQ,hi1,hP,dz,hwi1,hhl2,hQ,c1,c2]|refine rd0 rfl ?_)))
          ((first|refine aF (hls) rfl dd ?_|refine aG (hls) rfl dd ?_);(repeat (first|simp only [↓QA,QB,Nat.reduceLT,reduceIte,Nat.reduceEqDiff,Nat.reduceAdd,Nat.reduceLeDiff,Nat.reduceMul,Nat.reduceBEq,aQ,hi1,hP,dz,hwi1,hhl2,hQ,c1,c2]|refine rd0 rfl ?_)))
          ((first|refine aF (hio) rfl dd ?_|refine aG (hio) rfl dd ?_);(repeat (first|simp only [↓QA,QB,Nat.reduceLT,reduceIte,Nat.reduceEqDiff,Nat.reduceAdd,Nat.reduceLeDiff,Nat.reduceMul,Nat.reduceBEq,aQ,hi1,hP]|refine rd0 rfl ?_)))
          cases q
          ·(repeat (first|simp only [↓QA,QB,Nat.reduceLT,reduceIte,Nat.reduceEqDiff,Nat.reduceAdd,Nat.reduceLeDiff,Nat.reduceMul,Nat.reduceBEq,aQ]|refine rd0 rfl ?_))
           refine ⟨i+1,by omega,by omega,?_⟩
           rw [hfi]
           try simp only [aD,QE,Nat.reduceLT,reduceIte,Nat.reduceEqDiff,Nat.reduceAdd,Nat.reduceLeDiff,Nat.reduceMul,Nat.reduceBEq,aQ,hw]
           try simp [aN]
          ·(repeat (first|simp only [↓QA,QB,Nat.reduceLT,reduceIte,Nat.reduceEqDiff,Nat.reduceAdd,Nat.reduceLeDiff,Nat.reduceMul,Nat.reduceBEq,aQ,hwh]|refine rd0 rfl ?_))
           refine ⟨i+1,by omega,by omega,?_⟩
           rw [hfi]
           try simp only [aD,QE,Nat.reduceLT,reduceIte,Nat.reduceEqDiff,Nat.reduceAdd,Nat.reduceLeDiff,Nat.reduceMul,Nat.reduceBEq,aQ,hw,hwh]
           try simp [aN]
     ·have hi1:i=W.length:=by
       have:¬i<W.length:=by simpa using hd
       omega
      rw [hi1]
      cases F
      ·(repeat (first|simp only [↓QA,QB,Nat.reduceLT,reduceIte,Nat.reduceEqDiff,Nat.reduceAdd,Nat.reduceLeDiff,Nat.reduceMul,Nat.reduceBEq,aQ]|refine rd0 rfl ?_))
       refine aF yH rfl eQ ?_
       (repeat (first|simp only [↓QA,QB,Nat.reduceLT,reduceIte,Nat.reduceEqDiff,Nat.reduceAdd,Nat.reduceLeDiff,Nat.reduceMul,Nat.reduceBEq,aQ]|refine rd0 rfl ?_))
      ·rw [R7 hwn (hF rfl)]
       have g11:(((1:Nat):Int)==1)=true:=rfl
       (repeat (first|simp only [↓QA,QB,Nat.reduceLT,reduceIte,Nat.reduceEqDiff,Nat.reduceAdd,Nat.reduceLeDiff,Nat.reduceMul,Nat.reduceBEq,aQ,g11]|refine rd0 rfl ?_))
       refine aF yH rfl eQ ?_
       (repeat (first|simp only [↓QA,QB,Nat.reduceLT,reduceIte,Nat.reduceEqDiff,Nat.reduceAdd,Nat.reduceLeDiff,Nat.reduceMul,Nat.reduceBEq,aQ]|refine rd0 rfl ?_))
end Go.Am.Room
