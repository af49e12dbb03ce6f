/- A part of the proof of TramHurts: an abstract machine, or what functions come to on it. -/
import Derived.Test.YtnjlkiflililkaaTramHurtsQ4
set_option linter.unusedVariables false
set_option linter.unusedSimpArgs false
set_option linter.defProp false
set_option maxRecDepth 8000
namespace Go.Am.Room
def gT:=And.intro @aZ (And.intro @aK (And.intro @aR (And.intro @aT (And.intro @aS (And.intro @aQ (And.intro @aY (And.intro @aW (And.intro @aV (And.intro @dL (And.intro @dR (And.intro @Nat.not_lt_zero (And.intro @List.length_append.{0} (And.intro @Nat.zero_add (And.intro @Nat.mul_one (And.intro @Int.toNat_natCast (And.intro @dO (And.intro @eR (And.intro @eQ (And.intro @jY (And.intro @eN (And.intro @gB (And.intro @gE (And.intro @gC (And.intro @gG (And.intro @gH (And.intro @gD (And.intro @Nat.add_lt_add_iff_left (@Nat.lt_add_right_iff_pos))))))))))))))))))))))))))))
theorem CW (v:Net) (b m p:Nat) (σ:St) (hσ:aG σ p=some (db v b m)) (t:Nat) (ht:t<v.trams.length) (c:Int):iG T (.func 111 [] []) [.ptr p 0,.int .i64 t,.int .i64 c] σ (.bool (jT v t c)):=by
 refine dX (af:=a111) rfl (by simp [a111]) ?_
 have hit:=A4 (v:=v) (t:=t) (z:=v.trams[t]) (by simp [ht]) c
 obtain ⟨z,hz⟩:∃ z,v.trams[t]=z:=⟨_,rfl⟩
 rw [hz] at hit
 have e:decide (c = -1)=(c==-1):=by rw [Bool.eq_iff_iff];simp
 rw [e] at hit
 rw [hit]
 cases h:(c==-1)
 ·(repeat (first|simp only [↓QA,QB,Nat.reduceLT,reduceIte,Nat.reduceEqDiff,Nat.reduceAdd,Nat.reduceLeDiff,Nat.reduceMul,Nat.reduceBEq,gT,a111,h,hσ,ht,hz]|refine rd0 rfl ?_))
  refine eH [] (by first|rfl|simp) ?_
  try simp only [QS,QC,Nat.reduceLT,reduceIte,Nat.reduceEqDiff,Nat.reduceAdd,Nat.reduceLeDiff,Nat.reduceMul,Nat.reduceBEq,gT]
 ·(repeat (first|simp only [↓QA,QB,Nat.reduceLT,reduceIte,Nat.reduceEqDiff,Nat.reduceAdd,Nat.reduceLeDiff,Nat.reduceMul,Nat.reduceBEq,gT,a111,h]|refine rd0 rfl ?_))
  refine eH [] (by first|rfl|simp) ?_
  try simp only [QS,QC,Nat.reduceLT,reduceIte,Nat.reduceEqDiff,Nat.reduceAdd,Nat.reduceLeDiff,Nat.reduceMul,Nat.reduceBEq,gT,Bool.false_and]
theorem E6 (a b:List Int) (ha:a.length<9223372036854775808) (hb:b.length<9223372036854775808):eC T 88 [ints a,ints b] (.bool (decide (a=b))):=by
 refine bA (af:=a88) rfl (by simp [a88]) dd ?_
 by_cases h:a.length=b.length
 ·have g:((a.length:Int)==(b.length:Int))=true:=by simp;omega
  (repeat (first|simp only [↓QA,QB,Nat.reduceLT,reduceIte,Nat.reduceEqDiff,Nat.reduceAdd,Nat.reduceLeDiff,Nat.reduceMul,Nat.reduceBEq,gT,a88,g]|refine rd0 rfl ?_))
  refine dJ (S:=Nat) 0 (fun k=>k≤a.length∧a.take k=b.take k) (fun k=>a.length-k) (fun k=>[(0,ints a),(1,ints b),(12,.int .i64 a.length),(13,.int .i64 k)]) (fun _=>[]) ⟨Nat.zero_le _,by simp⟩ rfl ?_ fun k hk=>?_
  ·try simp only [aD,QE,Nat.reduceLT,reduceIte,Nat.reduceEqDiff,Nat.reduceAdd,Nat.reduceLeDiff,Nat.reduceMul,Nat.reduceBEq,gT,ints]
   try simp
  ·obtain ⟨hk,hq⟩:=hk
   (repeat (first|simp only [↓QA,QB,Nat.reduceLT,reduceIte,Nat.reduceEqDiff,Nat.reduceAdd,Nat.reduceLeDiff,Nat.reduceMul,Nat.reduceBEq,gT,WC]|refine rd0 rfl ?_))
   refine aI (fun hd=>?_) fun hd=>?_
   ·have hk1:k<a.length:=by simpa using hd
    have hk2:k<b.length:=by omega
    have hw:=cM hk1 ha
    obtain ⟨x,hx⟩:∃ x,a[k]=x:=⟨_,rfl⟩
    obtain ⟨y,hy⟩:∃ y,b[k]=y:=⟨_,rfl⟩
    cases q:(x==y)
    ·have q':x≠y:=by simpa using q
     have hne:decide (a=b)=false:=by
      simp only [decide_eq_false_iff_not]
      rintro rfl
      exact q' (hx.symm.trans hy)
     rw [hne]
     (repeat (first|simp only [↓QA,QB,Nat.reduceLT,reduceIte,Nat.reduceEqDiff,Nat.reduceAdd,Nat.reduceLeDiff,Nat.reduceMul,Nat.reduceBEq,gT,hk1,hk2,hx,hy,q]|refine rd0 rfl ?_))
    ·have q':x=y:=by simpa using q
     (repeat (first|simp only [↓QA,QB,Nat.reduceLT,reduceIte,Nat.reduceEqDiff,Nat.reduceAdd,Nat.reduceLeDiff,Nat.reduceMul,Nat.reduceBEq,gT,hk1,hk2,hx,hy,q]|refine rd0 rfl ?_))
     refine ⟨k+1,⟨by omega,by rw [List.take_succ_eq_append_getElem hk1,List.take_succ_eq_append_getElem hk2,hq,hx,hy,q']⟩,by omega,?_⟩
     try simp only [aD,QE,Nat.reduceLT,reduceIte,Nat.reduceEqDiff,Nat.reduceAdd,Nat.reduceLeDiff,Nat.reduceMul,Nat.reduceBEq,gT,hw,ints]
     try simp [aN]
   ·have hk1:k=a.length:=by
     have:¬k<a.length:=by simpa using hd
     omega
    rw [hk1,List.take_length,h,List.take_length] at hq
    have he:decide (a=b)=true:=by simpa using hq
    rw [he]
    (repeat (first|simp only [↓QA,QB,Nat.reduceLT,reduceIte,Nat.reduceEqDiff,Nat.reduceAdd,Nat.reduceLeDiff,Nat.reduceMul,Nat.reduceBEq,gT]|refine rd0 rfl ?_))
 ·have g:((a.length:Int)==(b.length:Int))=false:=by simp;omega
  have hne:decide (a=b)=false:=by
   simp only [decide_eq_false_iff_not]
   rintro rfl
   exact h rfl
  rw [hne]
  (repeat (first|simp only [↓QA,QB,Nat.reduceLT,reduceIte,Nat.reduceEqDiff,Nat.reduceAdd,Nat.reduceLeDiff,Nat.reduceMul,Nat.reduceBEq,gT,a88,g]|refine rd0 rfl ?_))
def jI:Option (List Int)→AV
 |none=>.lit [] true none
 |some l=>ints l
theorem y5 (P:List (List Int)):(P.map some).map jI=P.map ints:=by simp [jI]
theorem K4 (ps:List (List Int)) (pl n k:Nat) (hn:n=ps.length) (σ:St) (h1:aG σ k=some [.ref pl 0 n 1]) (h2:aG σ pl=some (ps.map ints)) (i:Nat) (hi:i<ps.length):iG T (.func 112 [] [.ptr k 0]) [.int .i64 i] σ (ints (eE ps i)):=by
 refine dX (af:=a112) rfl (by simp [a112]) ?_
 rw [JG hi]
 obtain ⟨w,hw⟩:∃ w,ps[i]=w:=⟨_,rfl⟩
 have i1:(0:Int)≤(i:Int)∧(i:Int)<(n:Int)∧1=1:=⟨by omega,by omega,rfl⟩
 rw [hw]
 (repeat (first|simp only [↓QA,QB,Nat.reduceLT,reduceIte,Nat.reduceEqDiff,Nat.reduceAdd,Nat.reduceLeDiff,Nat.reduceMul,Nat.reduceBEq,gT,a112,h1,h2,i1,hi,hw]|refine rd0 rfl ?_))
 refine eH [] (by first|rfl|simp) ?_
 try simp only [QS,QC,Nat.reduceLT,reduceIte,Nat.reduceEqDiff,Nat.reduceAdd,Nat.reduceLeDiff,Nat.reduceMul,Nat.reduceBEq,gT]
end Go.Am.Room
set_option maxRecDepth 8000
namespace Go.Am.Room
def eZ:=And.intro @aZ (And.intro @aK (And.intro @aR (And.intro @aT (And.intro @aS (And.intro @aQ (And.intro @aY (And.intro @aW (And.intro @aV (And.intro @dL (And.intro @dR (And.intro @Nat.not_lt_zero (And.intro @List.length_append.{0} (And.intro @Nat.zero_add (And.intro @Nat.mul_one (And.intro @Int.toNat_natCast (And.intro @dO (And.intro @eR (And.intro @eQ (And.intro @jY (And.intro @eN (And.intro @gB (And.intro @gE (And.intro @gC (And.intro @gG (And.intro @gH (And.intro @gD (And.intro @Nat.add_lt_add_iff_left (And.intro @Nat.lt_add_right_iff_pos (And.intro @nC (@m8))))))))))))))))))))))))))))))
def CT (v:Net) (ps:List (List Int)) (c:List Int) (x:Unit):Unit×Bool:=(x,E4 v ps c)
theorem DT (v:Net) (ps:List (List Int)):∀ l:List (List Int),(bJ (CT v ps) l ()).2=l.all (E4 v ps)
 |[]=>rfl
 |c::l=>by
  have ih:=DT v ps l
  rw [List.all_cons]
  by_cases h:E4 v ps c=true
  ·have:bJ (CT v ps) (c::l) ()=bJ (CT v ps) l ():=by simp only [bJ,CT];exact if_pos h
   rw [this,h,Bool.true_and,ih]
  ·have:bJ (CT v ps) (c::l) ()=((),false):=by simp only [bJ,CT];exact if_neg h
   rw [this]
   rw [Bool.not_eq_true] at h
   rw [h];rfl
def xK (v:Net) (ps:List (List Int)) (A:List K5):List K5:=(eO v [] (CT v ps) () A).1.2
def doU (p pl n:Nat) (_:Unit):St:=[.cells [.ptr p 0],.cells [.ref pl 0 n 1],.cells [.bool false]]
theorem J2 {S:List K5→St} {v:Net} {b p m N:Nat} (hR:MemAt S (db v b m) (tEs v) p m N) (hv:Vd v) (ps:List (List Int)) (hps:RunOk v ps) (pl:Nat) (hpl:∀ A,aG (S A) pl=some (ps.map ints)) (hplN:pl<N) (c:List Int) (hcl:c.length=v.rails.length) (hcm:DG v (rlI c)) (B:List K5) (lp:ABlk) (τ:St) (e:Env)
  (e2:Env.get e 2 = .ptr N 0) (e3:Env.get e 3 = .ptr (N+1) 0) (e4:Env.get e 4 = .ptr (N+2) 0) (e5:Env.get e 5 = .ptr (N+(τ.length+1+1+1+1+1)) 0) :
  wp T OB e (S B++(doU p pl v.trams.length ()++(.cells [.ptr p 0]::lp::(τ++[.cells (bC 5 (rl c))])))) (fun j e'' σ''=>(nD v (iR v ps (rlI c)) v.trams.length=true∧j=none∧∃ τ',σ''=S B++(doU p pl v.trams.length ()++(.cells [.ptr p 0]::lp::(τ++τ')))) ∨
   (nD v (iR v ps (rlI c)) v.trams.length=false∧j=some .ret∧∃ τ',σ''=S B++(doU p pl v.trams.length ()++(.cells [.ptr p 0]::lp::(τ++τ'))))):=by
 have hnt:=hv.ntr
 have hpN:=hR.pl
 have hlen:=hps.len
 have hta:∀ (b0 b1 b2 b3 b4:ABlk) (cs:List AV) (τ2:St),aG (S B++(b0::b1::b2::b3::b4::(τ++(.cells cs::τ2)))) (N+(τ.length+1+1+1+1+1))=some cs:=fun b0 b1 b2 b3 b4 cs τ2=>by
  rw [hR.base]
  simp only [pG]
  rw [iH];rfl
 have htb:∀ (b0 b1 b2 b3 b4 b5:ABlk) (cs:List AV) (τ2:St),aG (S B++(b0::b1::b2::b3::b4::(τ++(b5::.cells cs::τ2)))) (N+(τ.length+1+1+1+1+1+1))=some cs:=fun b0 b1 b2 b3 b4 b5 cs τ2=>by
  rw [hR.base]
  simp only [pG]
  have:τ++(b5::.cells cs::τ2)=(τ++[b5])++(.cells cs::τ2):=by simp
  rw [this,show τ.length+1=(τ++[b5]).length by simp,iH];rfl
 have hrun:∀ (σ:St) (k:Nat),aG σ p=some (db v b m)→aG σ pl=some (ps.map ints)→aG σ k=some [.ref pl 0 v.trams.length 1]→iG T (.func 109 [] []) [.ptr p 0,.agg (bC 5 (rl c)),.func 112 [] [.ptr k 0]] σ (.agg (bC 3 (bR (iR v ps (rlI c))))):=fun σ k h1 h2 h3=>by
  have hkl:=nY h3
  exact D4 v hv b m p σ h1 (nY h1) _ (fun τ n hn=>by
   try simp only [QS,QC,Nat.reduceLT,reduceIte,Nat.reduceEqDiff,Nat.reduceAdd,Nat.reduceLeDiff,Nat.reduceMul,Nat.reduceBEq,eZ,hR.len,hR.base,hR.base0,hR.bset,hR.bset0,hR.at1,hR.at0,DE]
   simp [show k<n by omega]) ps hps (fun i hi τ=>K4 ps pl v.trams.length k hlen.symm _ (iY h3 τ) (iY h2 τ) i (by omega)) (rl c) (rlI c) (QY c) hcm
 have hcc:(iR v ps (rlI c)).length=v.trams.length:=xB _ _ _ _
 obtain ⟨CS,hCS⟩:∃ CS,iR v ps (rlI c)=CS:=⟨_,rfl⟩
 simp only [hCS] at hrun
 rw [hCS] at hcc
 rw [hCS]
 have hplS:∀ τ,aG (S B++τ) pl=some (ps.map ints):=fun τ=>iY (hpl B) τ
 have hk3:∀ (b0 b2 b3 b4:ABlk) (cs:List AV) (τ2:St),aG (S B++(b0::.cells cs::b2::τ2)) (N+1)=some cs:=fun b0 b2 b3 b4 cs τ2=>by rw [hR.base];rfl
 simp only [doU]
 (repeat (first|simp only [↓QA,QB,Nat.reduceLT,reduceIte,Nat.reduceEqDiff,Nat.reduceAdd,Nat.reduceLeDiff,Nat.reduceMul,Nat.reduceBEq,eZ,hR.len,hR.base,hR.base0,hR.bset,hR.bset0,hR.at1,hR.at0,OB,hta,e2,e3,e4,e5]|refine rd0 rfl ?_))
 refine bM (hrun _ (N+1) (hR.at1 _ _) (hplS _) (by rw [hR.base];rfl)) ?_
 (repeat (first|simp only [↓QA,QB,Nat.reduceLT,reduceIte,Nat.reduceEqDiff,Nat.reduceAdd,Nat.reduceLeDiff,Nat.reduceMul,Nat.reduceBEq,eZ,hR.len,hR.base,hR.base0,hR.bset,hR.bset0,hR.at1,hR.at0,hta,htb,e2,e3,e4,e5]|refine rd0 rfl ?_))
 refine dJ (S:=Nat) 0 (fun k=>k≤v.trams.length∧nD v CS k=true) (fun k=>v.trams.length-k)
  (fun k=>[(2,.ptr N 0),(4,.ptr (N+2) 0),(6,.ptr (N+(τ.length+1+1+1+1+1+1)) 0),(21,.int .i64 v.trams.length),(22,.int .i64 k)])
  (fun k=>S B++(.cells [.ptr p 0]::.cells [.ref pl 0 v.trams.length 1]::.cells [.bool false]::.cells [.ptr p 0]::lp::(τ++[.cells (bC 5 (rl c)),.cells (bC 3 (bR CS))]))) ⟨Nat.zero_le _,rfl⟩ rfl ?_ fun k hk=>?_
 ·try simp only [aD,QE,Nat.reduceLT,reduceIte,Nat.reduceEqDiff,Nat.reduceAdd,Nat.reduceLeDiff,Nat.reduceMul,Nat.reduceBEq,eZ,hR.len,hR.base,hR.base0,hR.bset,hR.bset0,hR.at1,hR.at0,e2,e4]
  try simp
 ·obtain ⟨hk,hf⟩:=hk
  (repeat (first|simp only [↓QA,QB,Nat.reduceLT,reduceIte,Nat.reduceEqDiff,Nat.reduceAdd,Nat.reduceLeDiff,Nat.reduceMul,Nat.reduceBEq,eZ,hR.len,hR.base,hR.base0,hR.bset,hR.bset0,hR.at1,hR.at0,U9]|refine rd0 rfl ?_))
  refine aI (fun hd=>?_) fun hd=>?_
  ·have hk1:k<v.trams.length:=by simpa using hd
   have hw:=cM hk1 (by omega)
   have hsu:=FP v CS k
   rw [hf,Bool.true_and] at hsu
   have i3:(0:Int)≤(k:Int)∧(k:Int)<((3:Nat):Int):=⟨by omega,by omega⟩
   have hg:=iO 3 (bR CS) (i:=k) (by omega)
   have hin:=fun σ (hσ:aG σ p=some (db v b m))=>CW v b m p σ hσ k hk1 (bR CS k)
   have hfe:jT v k (bR CS k)=jT v k (fL CS (k:Int)):=rfl
   (repeat (first|simp only [↓QA,QB,Nat.reduceLT,reduceIte,Nat.reduceEqDiff,Nat.reduceAdd,Nat.reduceLeDiff,Nat.reduceMul,Nat.reduceBEq,eZ,hR.len,hR.base,hR.base0,hR.bset,hR.bset0,hR.at1,hR.at0,htb,i3,hg]|refine rd0 rfl ?_))
   refine y2 (hin _ (hR.at1 _ _)) ?_
   rw [hfe]
   cases hq:jT v k (fL CS (k:Int))
   ·rw [hq] at hsu
    have hff:=KW hsu (show k+1≤v.trams.length by omega)
    rw [hff]
    (repeat (first|simp only [↓QA,QB,Nat.reduceLT,reduceIte,Nat.reduceEqDiff,Nat.reduceAdd,Nat.reduceLeDiff,Nat.reduceMul,Nat.reduceBEq,eZ,hR.len,hR.base,hR.base0,hR.bset,hR.bset0,hR.at1,hR.at0,htb,i3,hg]|refine rd0 rfl ?_))
    exact .inr ⟨[.cells (bC 5 (rl c)),.cells (bC 3 (bR CS))],by simp⟩
   ·rw [hq] at hsu
    (repeat (first|simp only [↓QA,QB,Nat.reduceLT,reduceIte,Nat.reduceEqDiff,Nat.reduceAdd,Nat.reduceLeDiff,Nat.reduceMul,Nat.reduceBEq,eZ,hR.len,hR.base,hR.base0,hR.bset,hR.bset0,hR.at1,hR.at0,htb,i3,hg]|refine rd0 rfl ?_))
    refine ⟨k+1,⟨by omega,hsu⟩,by omega,?_⟩
    try simp only [aD,QE,Nat.reduceLT,reduceIte,Nat.reduceEqDiff,Nat.reduceAdd,Nat.reduceLeDiff,Nat.reduceMul,Nat.reduceBEq,eZ,hR.len,hR.base,hR.base0,hR.bset,hR.bset0,hR.at1,hR.at0,hw,hR.eqS]
    try simp [aN,okVs,okV]
    try omega
  ·have hk1:k=v.trams.length:=by
    have:¬k<v.trams.length:=by simpa using hd
    omega
   rw [hk1] at hf
   rw [hf]
   (repeat (first|simp only [↓QA,QB,Nat.reduceLT,reduceIte,Nat.reduceEqDiff,Nat.reduceAdd,Nat.reduceLeDiff,Nat.reduceMul,Nat.reduceBEq,eZ,hR.len,hR.base,hR.base0,hR.bset,hR.bset0,hR.at1,hR.at0]|refine rd0 rfl ?_))
   exact .inl ⟨[.cells (bC 5 (rl c)),.cells (bC 3 (bR CS))],by simp⟩
theorem K8 {S:List K5→St} {v:Net} {b p m N:Nat} (hR:MemAt S (db v b m) (tEs v) p m N) (hv:Vd v) (hb:ButIs b []) (ps:List (List Int)) (hps:RunOk v ps) (pl:Nat) (hpl:∀ A,aG (S A) pl=some (ps.map ints)) (hplN:pl<N) (A:List K5) :
  xP T (.func 87 [] []) [.ptr p 0,.ref pl 0 v.trams.length 1] (S A) (.bool (mM v ps)) (S (xK v ps A)):=by
 have hnt:=hv.ntr
 have hpN:=hR.pl
 have hlen:=hps.len
 have hit:=DT v ps (TL v [])
 have hok:∀ (x:Unit) (y:ABlk),y∈doU p pl v.trams.length x→∀ k,N≤k→aN k y:=by
  intro x y hy k hk
  simp only [doU,List.mem_cons,List.not_mem_nil,or_false] at hy
  rcases hy with rfl|rfl|rfl<;>simp [aN,okVs,okV]<;>omega
 refine vM hR (af:=a87) rfl (by simp [a87]) ?_
 have hrg:=lH hR hv hb (doU p pl v.trams.length) (doU p pl v.trams.length) 3 (fun _=>rfl) (fun _=>rfl) hok hok .ret (f:=CT v ps)
 (repeat (first|simp only [↓QA,QB,Nat.reduceLT,reduceIte,Nat.reduceEqDiff,Nat.reduceAdd,Nat.reduceLeDiff,Nat.reduceMul,Nat.reduceBEq,eZ,hR.len,hR.base,hR.base0,hR.bset,hR.bset0,hR.at1,hR.at0,a87]|refine rd0 rfl ?_))
 refine qK rfl (by simp [a80]) ?_
 (repeat (first|simp only [↓QA,QB,Nat.reduceLT,reduceIte,Nat.reduceEqDiff,Nat.reduceAdd,Nat.reduceLeDiff,Nat.reduceMul,Nat.reduceBEq,eZ,hR.len,hR.base,hR.base0,hR.bset,hR.bset0,hR.at1,hR.at0,a80]|refine rd0 rfl ?_))
 refine hrg _ 9 [10,11] _ _ ?_ ?_ () A _ ?_ ?_
 ·try simp only [aD,QE,Nat.reduceLT,reduceIte,Nat.reduceEqDiff,Nat.reduceAdd,Nat.reduceLeDiff,Nat.reduceMul,Nat.reduceBEq,eZ,hR.len,hR.base,hR.base0,hR.bset,hR.bset0,hR.at1,hR.at0]
 ·refine m9 (S:=fun _=>S) (fun _=>hR) (doU p pl v.trams.length) (doU p pl v.trams.length) 3 (fun _=>rfl) (fun _=>rfl) .ret _ _ (nX v) (fun _ _ _=>rfl) _ _ ?_
  intro c hc fl tk x B τ
  obtain ⟨hcl,hcm⟩:=hc.1
  simp only [jV,nX,doU]
  have hfin:CT v ps c x=((),nD v (iR v ps (rlI c)) v.trams.length):=rfl
  rw [hfin]
  have db:=fun lp e=>J2 hR hv ps hps pl hpl hplN c hcl hcm B lp τ e
  simp only [doU] at db
  (repeat (first|simp only [↓QA,QB,Nat.reduceLT,reduceIte,Nat.reduceEqDiff,Nat.reduceAdd,Nat.reduceLeDiff,Nat.reduceMul,Nat.reduceBEq,eZ,hR.len,hR.base,hR.base0,hR.bset,hR.bset0,hR.at1,hR.at0]|refine rd0 rfl ?_))
  refine ⟨[.cells (bC 5 (rl c))],by simp,?_⟩
  refine db _ _ ?_ ?_ ?_ ?_
  all_goals try simp only [aD,QE,Nat.reduceLT,reduceIte,Nat.reduceEqDiff,Nat.reduceAdd,Nat.reduceLeDiff,Nat.reduceMul,Nat.reduceBEq,eZ,hR.len,hR.base,hR.base0,hR.bset,hR.bset0,hR.at1,hR.at0]
 ·intro τ h2
  rw [hit] at h2
  have h3:mM v ps=true:=h2
  rw [h3]
  simp only [doU]
  (repeat (first|simp only [↓QA,QB,Nat.reduceLT,reduceIte,Nat.reduceEqDiff,Nat.reduceAdd,Nat.reduceLeDiff,Nat.reduceMul,Nat.reduceBEq,eZ,hR.len,hR.base,hR.base0,hR.bset,hR.bset0,hR.at1,hR.at0]|refine rd0 rfl ?_))
  refine ⟨_,_,rfl,rfl,?_⟩
  try simp only [QS,QC,Nat.reduceLT,reduceIte,Nat.reduceEqDiff,Nat.reduceAdd,Nat.reduceLeDiff,Nat.reduceMul,Nat.reduceBEq,eZ,hR.len,hR.base,hR.base0,hR.bset,hR.bset0,hR.at1,hR.at0]
 ·intro τ h2
  rw [hit] at h2
  have h3:mM v ps=false:=h2
  rw [h3]
  simp only [doU]
  (repeat (first|simp only [↓QA,QB,Nat.reduceLT,reduceIte,Nat.reduceEqDiff,Nat.reduceAdd,Nat.reduceLeDiff,Nat.reduceMul,Nat.reduceBEq,eZ,hR.len,hR.base,hR.base0,hR.bset,hR.bset0,hR.at1,hR.at0]|refine rd0 rfl ?_))
  refine ⟨_,_,rfl,rfl,?_⟩
  try simp only [QS,QC,Nat.reduceLT,reduceIte,Nat.reduceEqDiff,Nat.reduceAdd,Nat.reduceLeDiff,Nat.reduceMul,Nat.reduceBEq,eZ,hR.len,hR.base,hR.base0,hR.bset,hR.bset0,hR.at1,hR.at0]
abbrev PS:=List (Option (List Int))×List K5
def I8 (l:List (Option (List Int))):List (List Int):=l.map fun o=>o.getD []
theorem AZ (P:List (List Int)):I8 (P.map some)=P:=by
 rw [I8,List.map_map]
 exact List.map_id P
def wW (v:Net) (rec:Nat→PS→Bool×PS) (t left:Nat):List (List Int)→PS→Bool×PS
 |[],y=>(false,y)
 |w::ws,y =>
  if gA v t w≤left then (if (rec (left-gA v t w) (y.1.set t (some w),y.2)).1=true then rec (left-gA v t w) (y.1.set t (some w),y.2) else wW v rec t left ws (rec (left-gA v t w) (y.1.set t (some w),y.2)).2)
  else wW v rec t left ws (y.1.set t (some w),y.2)
def fnd (v:Net):Nat→Nat→Nat→PS→Bool×PS
 |0,_,left,y=>if left=0 then (mM v (I8 y.1),(y.1,xK v (I8 y.1) y.2)) else (false,y)
 |k+1,t,left,y=>wW v (fun left y=>fnd v k (t+1) left y) t left (bW v (fK v t) []) y
structure Fnd (v:Net) (p:List (List Int)) (t k:Nat) (y:PS):Prop where
 len:y.1.length=t+k
 pre:y.1.take t=p.map some
theorem rC {y:List (Option (List Int))} {t:Nat} {p:List (List Int)} {w:List Int} (h1:y.take t=p.map some) (h2:t<y.length):(y.set t (some w)).take (t+1)=(p++[w]).map some:=by
 have hl:(y.set t (some w)).length=y.length:=by simp
 rw [List.take_succ_eq_append_getElem (by rw [hl];exact h2)]
 simp [List.take_set_of_le,h1]
theorem xC (v:Net):∀ (k t left:Nat) (y:PS) (p:List (List Int)),p.length=t→Fnd v p t k y →
  ((fnd v k t left y).1=(dfs v (mM v) k p left).isSome)∧(∀ P,dfs v (mM v) k p left=some P→(fnd v k t left y).2.1=P.map some)∧Fnd v p t k (fnd v k t left y).2
 |0,t,left,y,p,hp,hy=>by
  have hl:y.1=p.map some:=by
   rw [←hy.pre,List.take_of_length_le (by rw [hy.len];omega)]
  simp only [fnd,dfs]
  by_cases h0:left=0
  ·rw [if_pos h0,hl,AZ]
   subst h0
   simp only [decide_true,Bool.true_and]
   cases hd:mM v p
   ·exact ⟨rfl,fun P h=>(by cases h),⟨by rw [←hl];exact hy.len,by simp only;rw [←hl];exact hy.pre.trans hl.symm⟩⟩
   ·refine ⟨rfl,fun P h=>?_,⟨by rw [←hl];exact hy.len,by simp only;rw [←hl];exact hy.pre.trans hl.symm⟩⟩
    simp only [if_true,Option.some.injEq] at h
    rw [h]
  ·rw [if_neg h0]
   simp only [h0,decide_false,Bool.false_and,Bool.false_eq_true,if_false]
   exact ⟨rfl,fun P h=>(by cases h),hy⟩
 |k+1,t,left,y,p,hp,hy=>by
  simp only [fnd,dfs,hp]
  have key:∀ (ws:List (List Int)) (y:PS),Fnd v p t (k+1) y →
    ((wW v (fun left y=>fnd v k (t+1) left y) t left ws y).1=(ws.findSome? fun w=>if gA v t w≤left then dfs v (mM v) k (p++[w]) (left-gA v t w) else none).isSome) ∧
    (∀ P,(ws.findSome? fun w=>if gA v t w≤left then dfs v (mM v) k (p++[w]) (left-gA v t w) else none)=some P→(wW v (fun left y=>fnd v k (t+1) left y) t left ws y).2.1=P.map some)∧Fnd v p t (k+1) (wW v (fun left y=>fnd v k (t+1) left y) t left ws y).2:=by
   intro ws
   induction ws with
   |nil=>intro y hy;exact ⟨rfl,fun P h=>(by cases h),hy⟩
   |cons w ws ih =>
    intro y hy
    have hlt:t<y.1.length:=by have:=hy.len;omega
    have hset:Fnd v (p++[w]) (t+1) k (y.1.set t (some w),y.2):=⟨by have:=hy.len;simp;omega,rC hy.pre hlt⟩
    have hset2:Fnd v p t (k+1) (y.1.set t (some w),y.2):=⟨by have:=hy.len;simp;omega,by
     rw [←hy.pre];simp [List.take_set_of_le]⟩
    simp only [wW,List.findSome?_cons]
    by_cases ho:gA v t w≤left
    ·rw [if_pos ho,if_pos ho]
     obtain ⟨a,b,c⟩:=xC v k (t+1) (left-gA v t w) (y.1.set t (some w),y.2) (p++[w]) (by simp [hp]) hset
     obtain ⟨R,hR⟩:∃ R,fnd v k (t+1) (left-gA v t w) (y.1.set t (some w),y.2)=R:=⟨_,rfl⟩
     rw [hR] at a b c ⊢
     have c':Fnd v p t (k+1) R.2:=⟨by have:=c.len;omega,by
      have h1:=congrArg (List.take t) c.pre
      rw [List.take_take,show min t (t+1)=t by omega] at h1
      rw [h1,List.map_append]
      exact List.take_left' (by simp [hp])⟩
     cases hd:dfs v (mM v) k (p++[w]) (left-gA v t w) with
     |some P =>
      rw [hd] at a b
      rw [a]
      simp only [Option.isSome_some,if_true]
      exact ⟨a,fun Q h=>by rw [←(Option.some.inj h)];exact b P rfl,c'⟩
     |none =>
      rw [hd] at a
      rw [a]
      simp only [Option.isSome_none,Bool.false_eq_true,if_false]
      exact ih R.2 c'
    ·rw [if_neg ho,if_neg ho]
     exact ih _ hset2
  exact key _ y hy
end Go.Am.Room
set_option maxRecDepth 4000
namespace Go.Am.Room
structure Vary {Y:Type} (S:Y→St) (N:Nat):Prop where
 len:∀ y,(S y).length=N
 keep:∀ y z i,i<N→d7 (S y) (S z) N i
 eqS:∀ k,N≤k→∀ y z a b c,EqS k (S y++a) (S z++b) (S z++c)=EqS k a b c
theorem AM {Y:Type} {S:Y→St} {N:Nat} (hV:Vary S N) {f:FuncId} {first cap args:List AV} {af:AFunc} {v:AV} {y z:Y} (hf:T f=some af) (hn:(first++args++cap).length≤af.ntmps)
  (h:wp T af.body (fI 0 (first++args++cap)) (S y) (fun j e σ1=>(j=none∨j=some .ret)∧∃ v0 τ,f9 af.results e σ1=some v0∧σ1=S z++τ∧bS σ1 N 20 v0=some v)):xP T (.func f first cap) args (S y) v (S z):=by
 refine .callf (.call hf hn (gK h fun o ho=>ho) fun o ho=>?_)
 obtain ⟨hj,v0,τ,hres,hσ,h4⟩:=ho
 refine ⟨hj,v0,hres,?_⟩
 unfold bS at h4
 cases hs:snap o.σ N 20 v0 with
 |none=>rw [hs] at h4;cases h4
 |some v1 =>
  rw [hs] at h4
  simp at h4
  refine .inr ⟨20,v1,v,by rw [hV.len];exact hs,.inr h4.symm,fun i hi=>?_,?_,rfl,?_⟩
  ·rw [hσ]
   rw [hV.len] at hi ⊢
   have:=hV.keep y z i hi
   have e2:(S z++τ)[i]? = (S z)[i]?:=List.getElem?_append_left (by rw [hV.len];exact hi)
   simp only [d7,e2] at this ⊢
   exact this
  ·rw [hσ,List.length_append,hV.len,hV.len];omega
  ·rw [hσ,hV.len,←hV.len z,List.take_left]
end Go.Am.Room
set_option maxRecDepth 8000
namespace Go.Am.Room
def cZ:=And.intro @aZ (And.intro @aK (And.intro @aR (And.intro @aT (And.intro @aS (And.intro @aQ (And.intro @aY (And.intro @aW (And.intro @aV (And.intro @dL (And.intro @dR (And.intro @Nat.not_lt_zero (And.intro @List.length_append.{0} (And.intro @Nat.zero_add (And.intro @Nat.mul_one (And.intro @Int.toNat_natCast (And.intro @Nat.add_lt_add_iff_left (@Nat.lt_add_right_iff_pos)))))))))))))))))
def nV (v:Net) (n:Nat):List AV:=(List.range n).map fun t=>dD (bW v (fK v t) [])
theorem NN (v:Net) {n t:Nat} (h:t<n):(nV v n)[t]? = some (dD (bW v (fK v t) [])):=by simp [nV,h]
theorem tX (l:List (Option (List Int))) (m:Nat):okVs m (l.map jI):=by
 induction l with
 |nil=>trivial
 |cons o l ih =>
  refine ⟨?_,ih⟩
  cases o with
  |none=>simp [jI,okV,okVs]
  |some w=>exact xG (jA w) m
theorem MD (l:List (Option (List Int))) {t:Nat} (h:t<l.length) (w:List Int):(l.map jI).take t++[AV.lit (w.map (.int .i64)) false none]++(l.map jI).drop (t+1)=(l.set t (some w)).map jI:=by
 rw [List.map_set,List.set_eq_take_append_cons_drop,if_pos (by simpa using h)]
 simp [jI,ints]
def QQ:AV:=.func 86 [] [.ptr 10 0,.ptr 5 0,.ptr 7 0,.ptr 0 0,.ptr 11 0]
theorem gU:QQ = .func 86 [] [.ptr 10 0,.ptr 5 0,.ptr 7 0,.ptr 0 0,.ptr 11 0]:=by simp only [QQ]
def mvS (v:Net) (y:PS):St:=[.cells (aB v),.cells (aB v),.cells (aB v),.map (tEs v y.2),.cells (db v 0 3),.cells [.ptr 4 0],.cells (nV v v.trams.length),.cells [.ref 6 0 v.trams.length 1],.tok 1 0 false,.cells (y.1.map jI),.cells [.ref 9 0 v.trams.length 1],.cells [QQ]]
theorem Y5 (v:Net) (l:List (Option (List Int))):MemAt (fun A=>mvS v (l,A)) (db v 0 3) (tEs v) 4 3 12 :=
 ⟨fun M=>rfl,fun M=>rfl,fun M=>rfl,fun M M'=>rfl,fun A k=>pS v A k,by omega,by omega⟩
theorem D9 (v:Net):Vary (mvS v) 12 where
 len:=fun y=>rfl
 keep:=fun y z i hi=>by
  match i,hi with
  |0,_=>exact .inl rfl
  |1,_=>exact .inl rfl
  |2,_=>exact .inl rfl
  |3,_=>exact .inr (.inl ⟨_,rfl,pS v z.2 _⟩)
  |4,_=>exact .inl rfl
  |5,_=>exact .inl rfl
  |6,_=>exact .inl rfl
  |7,_=>exact .inl rfl
  |8,_=>exact .inl rfl
  |9,_=>exact .inr (.inl ⟨_,rfl,tX z.1 _⟩)
  |10,_=>exact .inl rfl
  |11,_=>exact .inl rfl
 eqS:=fun k hk y z a b c=>by
  have h1:=pS v z.2 k
  have h2:aN k (.cells (z.1.map jI)):=tX z.1 k
  simp only [mvS,List.cons_append,List.nil_append,EqS,h1,h2,or_true,true_or,true_and,and_self]
theorem u6 (v:Net) (hv:Vd v):∀ (k t left:Nat) (y:PS) (p:List (List Int)),t+k=v.trams.length→left≤10→p.length=t→Fnd v p t k y→(∀ w∈p,w.length≤4∧∀ r∈w,0≤r∧r<v.rails.length) →
  xP T QQ [.int .i64 t,.int .i64 left] (mvS v y) (.bool (fnd v k t left y).1) (mvS v (fnd v k t left y).2)
 |0,t,left,y,p,hn,hleft,hp,hF,hpin=>by
  have hnt:=hv.ntr
  have hl:y.1=p.map some:=by rw [←hF.pre,List.take_of_length_le (by rw [hF.len];omega)]
  have hro:RunOk v p:=⟨by omega,fun w hw=>(hpin w hw).1,fun w hw=>(hpin w hw).2⟩
  have hE:((t:Int)==(v.trams.length:Int))=true:=by simp;omega
  obtain ⟨l,A⟩:=y
  simp only at hl
  subst hl
  have hdo:=K8 (Y5 v (p.map some)) hv KQ p hro 9 (fun A=>by show some _=_;rw [y5]) (by omega) A
  have hr:fnd v 0 t left (p.map some,A)=if left=0 then (mM v p,(p.map some,xK v p A)) else (false,(p.map some,A)):=by simp only [fnd,AZ]
  refine AM (D9 v) (af:=a86) rfl (by simp [a86]) ?_
  rw [hr]
  cases h0:((left:Int)==0)
  ·have h0':¬left=0:=by simp at h0;omega
   rw [if_neg h0']
   simp only [mvS,gU]
   (repeat (first|simp only [↓QA,QB,Nat.reduceLT,reduceIte,Nat.reduceEqDiff,Nat.reduceAdd,Nat.reduceLeDiff,Nat.reduceMul,Nat.reduceBEq,cZ,a86,hE,h0]|refine rd0 rfl ?_))
   exact ⟨_,[],rfl,by simp,by try simp only [QS,QC,Nat.reduceLT,reduceIte,Nat.reduceEqDiff,Nat.reduceAdd,Nat.reduceLeDiff,Nat.reduceMul,Nat.reduceBEq,cZ]⟩
  ·have h0':left=0:=by simp at h0;omega
   rw [if_pos h0']
   simp only [mvS,gU] at hdo ⊢
   try simp only [↓QA,QB,Nat.reduceLT,reduceIte,Nat.reduceEqDiff,Nat.reduceAdd,Nat.reduceLeDiff,Nat.reduceMul,Nat.reduceBEq,cZ] at hdo
   (repeat (first|simp only [↓QA,QB,Nat.reduceLT,reduceIte,Nat.reduceEqDiff,Nat.reduceAdd,Nat.reduceLeDiff,Nat.reduceMul,Nat.reduceBEq,cZ,a86,hE,h0]|refine rd0 rfl ?_))
   refine cO hdo ?_
   (repeat (first|simp only [↓QA,QB,Nat.reduceLT,reduceIte,Nat.reduceEqDiff,Nat.reduceAdd,Nat.reduceLeDiff,Nat.reduceMul,Nat.reduceBEq,cZ]|refine rd0 rfl ?_))
   exact ⟨_,[],rfl,by simp,by try simp only [QS,QC,Nat.reduceLT,reduceIte,Nat.reduceEqDiff,Nat.reduceAdd,Nat.reduceLeDiff,Nat.reduceMul,Nat.reduceBEq,cZ]⟩
 |k+1,t,left,y,p,hn,hleft,hp,hF,hpin0=>by
  have hnt:=hv.ntr
  have hok1:∀ A,aN 12 (.map (tEs v A)):=fun A=>pS v A 12
  have hok2:∀ l:List (Option (List Int)),aN 12 (.cells (l.map jI)):=fun l=>tX l 12
  have htt:t<v.trams.length:=by omega
  have hE:((t:Int)==(v.trams.length:Int))=false:=by simp;omega
  obtain ⟨z,hz⟩:∃ z,v.trams[t]=z:=⟨_,rfl⟩
  have hpth:eE (lY v) t=z.path:=by rw [GF htt,hz]
  have hzl:=(wC hv htt).len
  rw [hz] at hzl
  have hfr:=w8 htt
  rw [hz] at hfr
  have hwg:=NN v (n:=v.trams.length) htt
  have hwi:∀ w∈bW v (fK v t) [],w.length≤4∧∀ r∈w,0≤r∧r<v.rails.length:=fun w hw=>CC hw
  have hwc:=DM (v:=v) (by have:=hv.nra;omega) (fK v t) []
  have hr:fnd v (k+1) t left y=wW v (fun left y=>fnd v k (t+1) left y) t left (bW v (fK v t) []) y:=rfl
  obtain ⟨W,hW⟩:∃ W,bW v (fK v t) []=W:=⟨_,rfl⟩
  rw [hW] at hwg hwc hr
  simp only [hW] at hwi
  obtain ⟨R,hR⟩:∃ R,fnd v (k+1) t left y=R:=⟨_,rfl⟩
  rw [hR] at hr
  have hr':wW v (fun left y=>fnd v k (t+1) left y) t left (W.drop 0) y=R:=hr.symm
  have iA:(0:Int)≤(t:Int)∧(t:Int)<(v.trams.length:Int)∧1=1:=⟨by omega,by omega,rfl⟩
  have hwt:IntKind.i64.wrap ((t:Int)+1)=((t+1:Nat):Int):=cM htt (by omega)
  refine AM (D9 v) (af:=a86) rfl (by simp [a86]) ?_
  rw [hR]
  simp only [mvS,gU]
  (repeat (first|simp only [↓QA,QB,Nat.reduceLT,reduceIte,Nat.reduceEqDiff,Nat.reduceAdd,Nat.reduceLeDiff,Nat.reduceMul,Nat.reduceBEq,cZ,a86,hE,iA,hwg,bF]|refine rd0 rfl ?_))
  refine dJ (S:=Nat×PS) (0,y) (fun a=>a.1≤W.length∧Fnd v p t (k+1) a.2∧wW v (fun left y=>fnd v k (t+1) left y) t left (W.drop a.1) a.2=R) (fun a=>W.length-a.1)
   (fun a=>[(0,.int .i64 t),(1,.int .i64 left),(2,.ptr 10 0),(5,.ptr 0 0),(6,.ptr 11 0),(27,dD W),(28,.int .i64 W.length),(29,.int .i64 a.1)])
   (fun a=>mvS v a.2) ⟨Nat.zero_le _,hF,hr'⟩ (by simp [mvS,gU,aB,ints]) ?_ fun a ha=>?_
  ·try simp only [aD,QE,Nat.reduceLT,reduceIte,Nat.reduceEqDiff,Nat.reduceAdd,Nat.reduceLeDiff,Nat.reduceMul,Nat.reduceBEq,cZ,bF]
   try simp
  ·obtain ⟨j,y⟩:=a
   obtain ⟨hj,hF,hR⟩:=ha
   simp only at hj hF hR
   have hlt:t<y.1.length:=by have:=hF.len;omega
   simp only [mvS,gU]
   (repeat (first|simp only [↓QA,QB,Nat.reduceLT,reduceIte,Nat.reduceEqDiff,Nat.reduceAdd,Nat.reduceLeDiff,Nat.reduceMul,Nat.reduceBEq,cZ,U6,bF]|refine rd0 rfl ?_))
   refine aI (fun hd=>?_) fun hd=>?_
   ·have hj1:j<W.length:=by simpa using hd
    have hwj:=cM hj1 (by omega)
    rw [List.drop_eq_getElem_cons hj1,wW] at hR
    have hwl:=hwi _ (List.getElem_mem hj1)
    obtain ⟨w,hw⟩:∃ w,W[j]=w:=⟨_,rfl⟩
    rw [hw] at hR hwl
    have hpin:∀ u∈p++[w],u.length≤4∧∀ r∈u,0≤r∧r<v.rails.length:=fun u hu=>by
     rcases List.mem_append.1 hu with hu|hu
     ·exact hpin0 u hu
     ·simp only [List.mem_singleton] at hu;subst hu;exact hwl
    have hss:=MD y.1 hlt w
    have i8:(0:Int)≤(t:Int)∧(t:Int)<(v.trams.length:Int)∧1=1:=iA
    have c8:t+1≤y.1.length:=hlt
    have hot:gA v t w=if w=z.path then 0 else 1:=by rw [gA,hpth]
    have heq:=E6 w z.path (by omega) (by omega)
    simp only [n9] at heq
    (repeat (first|simp only [↓QA,QB,Nat.reduceLT,reduceIte,Nat.reduceEqDiff,Nat.reduceAdd,Nat.reduceLeDiff,Nat.reduceMul,Nat.reduceBEq,cZ,hj1,hw,htt,hz,bF]|refine rd0 rfl ?_))
    ((first|refine aF (heq) rfl dd ?_|refine aH (heq) rfl dd ?_);(repeat (first|simp only [↓QA,QB,Nat.reduceLT,reduceIte,Nat.reduceEqDiff,Nat.reduceAdd,Nat.reduceLeDiff,Nat.reduceMul,Nat.reduceBEq,cZ,hj1,hw,htt,hz,bF]|refine rd0 rfl ?_)))
    cases q:decide (w=z.path)
    ·have q':¬w=z.path:=by simpa using q
     rw [if_neg q'] at hot
     rw [hot] at hR
     simp only [Bool.not_false,rI]
     by_cases hl1:1≤left
     ·have hlo:IntKind.i64.wrap ((left:Int)-1)=((left-1:Nat):Int):=(dZ ⟨by omega,by omega⟩).trans (by omega)
      have hle:decide ((1:Int)≤(left:Int))=true:=decide_eq_true (by omega)
      have hrec:=u6 v hv k (t+1) (left-1) (y.1.set t (some w),y.2) (p++[w]) (by omega) (by omega) (by simp [hp]) ⟨by have:=hF.len;simp;omega,rC hF.pre hlt⟩ hpin
      rw [if_pos (show 1≤left by omega)] at hR
      obtain ⟨Q,hQ⟩:∃ Q,fnd v k (t+1) (left-1) (y.1.set t (some w),y.2)=Q:=⟨_,rfl⟩
      rw [hQ] at hrec hR
      have hFQ:Fnd v p t (k+1) Q.2:=by
       have:=(xC v k (t+1) (left-1) (y.1.set t (some w),y.2) (p++[w]) (by simp [hp]) ⟨by have:=hF.len;simp;omega,rC hF.pre hlt⟩).2.2
       rw [hQ] at this
       refine ⟨by have:=this.len;omega,?_⟩
       have h1:=congrArg (List.take t) this.pre
       rw [List.take_take,show min t (t+1)=t by omega] at h1
       rw [h1,List.map_append]
       exact List.take_left' (by simp [hp])
      obtain ⟨Qb,Qy⟩:=Q
      simp only [mvS,gU] at hrec
      simp only at hR hFQ hrec
      try simp only [↓QA,QB,Nat.reduceLT,reduceIte,Nat.reduceEqDiff,Nat.reduceAdd,Nat.reduceLeDiff,Nat.reduceMul,Nat.reduceBEq,cZ] at hrec
      (repeat (first|simp only [↓QA,QB,Nat.reduceLT,reduceIte,Nat.reduceEqDiff,Nat.reduceAdd,Nat.reduceLeDiff,Nat.reduceMul,Nat.reduceBEq,cZ,q,i8,c8,hss,hle,hwt,hlo,hj1,hw,htt,hz,bF]|refine rd0 rfl ?_))
      refine cO hrec ?_
      cases Qb
      ·simp only [Bool.false_eq_true,if_false] at hR
       (repeat (first|simp only [↓QA,QB,Nat.reduceLT,reduceIte,Nat.reduceEqDiff,Nat.reduceAdd,Nat.reduceLeDiff,Nat.reduceMul,Nat.reduceBEq,cZ,hwj]|refine rd0 rfl ?_))
       refine ⟨(j+1,Qy),⟨by simp only;omega,hFQ,hR⟩,by simp only;omega,?_⟩
       try simp only [aD,QE,Nat.reduceLT,reduceIte,Nat.reduceEqDiff,Nat.reduceAdd,Nat.reduceLeDiff,Nat.reduceMul,Nat.reduceBEq,cZ,hwj,bF]
       try simp only [hok1,hok2,or_true,true_or,and_self,true_and]
      ·simp only [if_true] at hR
       subst hR
       (repeat (first|simp only [↓QA,QB,Nat.reduceLT,reduceIte,Nat.reduceEqDiff,Nat.reduceAdd,Nat.reduceLeDiff,Nat.reduceMul,Nat.reduceBEq,cZ]|refine rd0 rfl ?_))
       exact ⟨_,[],rfl,by simp [mvS,gU],by try simp only [QS,QC,Nat.reduceLT,reduceIte,Nat.reduceEqDiff,Nat.reduceAdd,Nat.reduceLeDiff,Nat.reduceMul,Nat.reduceBEq,cZ]⟩
     ·have hle:decide ((1:Int)≤(left:Int))=false:=by simp;omega
      rw [if_neg hl1] at hR
      (repeat (first|simp only [↓QA,QB,Nat.reduceLT,reduceIte,Nat.reduceEqDiff,Nat.reduceAdd,Nat.reduceLeDiff,Nat.reduceMul,Nat.reduceBEq,cZ,q,i8,c8,hss,hle,hwj]|refine rd0 rfl ?_))
      refine ⟨(j+1,(y.1.set t (some w),y.2)),⟨by simp only;omega,⟨by have:=hF.len;simp;omega,by rw [←hF.pre];simp [List.take_set_of_le]⟩,hR⟩,by simp only;omega,?_⟩
      try simp only [aD,QE,Nat.reduceLT,reduceIte,Nat.reduceEqDiff,Nat.reduceAdd,Nat.reduceLeDiff,Nat.reduceMul,Nat.reduceBEq,cZ,hwj,bF]
      try simp only [hok1,hok2,or_true,true_or,and_self,true_and]
    ·have q':w=z.path:=by simpa using q
     rw [if_pos q'] at hot
     rw [hot] at hR
     simp only [Bool.not_true,o0]
     have hlo:IntKind.i64.wrap ((left:Int)-0)=((left-0:Nat):Int):=(dZ ⟨by omega,by omega⟩).trans (by omega)
     have hle:decide ((0:Int)≤(left:Int))=true:=decide_eq_true (by omega)
     have hrec:=u6 v hv k (t+1) (left-0) (y.1.set t (some w),y.2) (p++[w]) (by omega) (by omega) (by simp [hp]) ⟨by have:=hF.len;simp;omega,rC hF.pre hlt⟩ hpin
     rw [if_pos (show 0≤left by omega)] at hR
     obtain ⟨Q,hQ⟩:∃ Q,fnd v k (t+1) (left-0) (y.1.set t (some w),y.2)=Q:=⟨_,rfl⟩
     rw [hQ] at hrec hR
     have hFQ:Fnd v p t (k+1) Q.2:=by
      have:=(xC v k (t+1) (left-0) (y.1.set t (some w),y.2) (p++[w]) (by simp [hp]) ⟨by have:=hF.len;simp;omega,rC hF.pre hlt⟩).2.2
      rw [hQ] at this
      refine ⟨by have:=this.len;omega,?_⟩
      have h1:=congrArg (List.take t) this.pre
      rw [List.take_take,show min t (t+1)=t by omega] at h1
      rw [h1,List.map_append]
      exact List.take_left' (by simp [hp])
     obtain ⟨Qb,Qy⟩:=Q
     simp only [mvS,gU] at hrec
     simp only at hR hFQ hrec
     try simp only [↓QA,QB,Nat.reduceLT,reduceIte,Nat.reduceEqDiff,Nat.reduceAdd,Nat.reduceLeDiff,Nat.reduceMul,Nat.reduceBEq,cZ] at hrec
     (repeat (first|simp only [↓QA,QB,Nat.reduceLT,reduceIte,Nat.reduceEqDiff,Nat.reduceAdd,Nat.reduceLeDiff,Nat.reduceMul,Nat.reduceBEq,cZ,q,i8,c8,hss,hle,hwt,hlo,hj1,hw,htt,hz,bF]|refine rd0 rfl ?_))
     refine cO hrec ?_
     cases Qb
     ·simp only [Bool.false_eq_true,if_false] at hR
      (repeat (first|simp only [↓QA,QB,Nat.reduceLT,reduceIte,Nat.reduceEqDiff,Nat.reduceAdd,Nat.reduceLeDiff,Nat.reduceMul,Nat.reduceBEq,cZ,hwj]|refine rd0 rfl ?_))
      refine ⟨(j+1,Qy),⟨by simp only;omega,hFQ,hR⟩,by simp only;omega,?_⟩
      try simp only [aD,QE,Nat.reduceLT,reduceIte,Nat.reduceEqDiff,Nat.reduceAdd,Nat.reduceLeDiff,Nat.reduceMul,Nat.reduceBEq,cZ,hwj,bF]
      try simp only [hok1,hok2,or_true,true_or,and_self,true_and]
     ·simp only [if_true] at hR
      subst hR
      (repeat (first|simp only [↓QA,QB,Nat.reduceLT,reduceIte,Nat.reduceEqDiff,Nat.reduceAdd,Nat.reduceLeDiff,Nat.reduceMul,Nat.reduceBEq,cZ]|refine rd0 rfl ?_))
      exact ⟨_,[],rfl,by simp [mvS,gU],by try simp only [QS,QC,Nat.reduceLT,reduceIte,Nat.reduceEqDiff,Nat.reduceAdd,Nat.reduceLeDiff,Nat.reduceMul,Nat.reduceBEq,cZ]⟩
   ·have hj1:j=W.length:=by
     have:¬j<W.length:=by simpa using hd
     omega
    rw [hj1,List.drop_length,wW] at hR
    subst hR
    (repeat (first|simp only [↓QA,QB,Nat.reduceLT,reduceIte,Nat.reduceEqDiff,Nat.reduceAdd,Nat.reduceLeDiff,Nat.reduceMul,Nat.reduceBEq,cZ]|refine rd0 rfl ?_))
    exact ⟨_,[],rfl,by simp [mvS,gU],by try simp only [QS,QC,Nat.reduceLT,reduceIte,Nat.reduceEqDiff,Nat.reduceAdd,Nat.reduceLeDiff,Nat.reduceMul,Nat.reduceBEq,cZ]⟩
end Go.Am.Room
set_option maxRecDepth 8000
namespace Go.Am.Room
def cR:=And.intro @aZ (And.intro @aK (And.intro @aR (And.intro @aT (And.intro @aS (And.intro @aQ (And.intro @aY (And.intro @aW (And.intro @aV (And.intro @dL (And.intro @dR (And.intro @Nat.not_lt_zero (And.intro @List.length_append.{0} (And.intro @List.length_replicate.{0} (And.intro @Nat.zero_add (And.intro @Nat.mul_one (And.intro @Int.toNat_natCast (And.intro @Nat.add_lt_add_iff_left (@Nat.lt_add_right_iff_pos))))))))))))))))))
theorem qZ (x:AV) (n:Nat):(List.replicate n [x]).flatten=List.replicate n x:=by
 induction n with
 |zero=>rfl
 |succ n ih=>simp [List.replicate_succ,ih]
theorem B9:∀ l:List (List Int),qN 1 l.length (l.map ints)=l.map ints
 |[]=>rfl
 |x::l=>by simp [qN,B9 l,AV.cell,ints]
theorem ZQ {σ:St} {m id n:Nat} {l:List (List Int)} (hm:¬id<m) (hn:n=l.length) (hl:aG σ id=some (l.map ints)):bS σ m 20 (.ref id 0 n 1)=some (.lit (l.map ints) false none):=by
 subst hn
 have hv:jH σ (.ref id 0 l.length 1)=some (l.map ints):=by simp [jH,hl,B9]
 rw [IY,if_neg hm,hv]
 simp [nG,PK]
def k9 (v:Net) (n k:Nat):List AV:=(List.range n).map fun t=>if t<k then dD (bW v (fK v t) []) else .lit [] true none
theorem YN (v:Net) (n:Nat):k9 v n 0=List.replicate n (.lit [] true none):=by simp [k9,List.map_const']
theorem NL (v:Net) (n:Nat):k9 v n n=nV v n:=List.map_congr_left fun t ht=>by
 rw [if_pos (by simpa using ht)]
theorem pL (v:Net) (n k:Nat):(k9 v n k).length=n:=by simp [k9]
theorem UR (v:Net) (n k m:Nat):okVs m (k9 v n k):=by
 have key:∀ l:List Nat,okVs m (l.map fun t=>if t<k then dD (bW v (fK v t) []) else AV.lit [] true none):=by
  intro l
  induction l with
  |nil=>trivial
  |cons t l ih =>
   refine ⟨?_,ih⟩
   simp only
   split
   ·exact xG (sR _) m
   ·simp [okV,okVs]
 exact key _
theorem P6 (v:Net) {n k:Nat} (h:k<n):(k9 v n k).take k++[dD (bW v (fK v k) [])]++(k9 v n k).drop (k+1)=k9 v n (k+1):=by
 have h1:(k9 v n k).take k++[dD (bW v (fK v k) [])]++(k9 v n k).drop (k+1)=(k9 v n k).set k (dD (bW v (fK v k) [])):=by
  rw [List.set_eq_take_append_cons_drop,if_pos (by rw [pL];exact h)];simp
 rw [h1]
 refine List.ext_getElem? fun j=>?_
 by_cases hj:j<n
 ·rw [List.getElem?_set]
  by_cases e:k=j
  ·subst e;simp [pL,hj,k9]
  ·rw [if_neg e]
   simp only [k9,List.getElem?_map,List.getElem?_range hj,Option.map_some]
   by_cases h2:j<k
   ·simp [h2,show j<k+1 by omega]
   ·simp [h2,show ¬j<k+1 by omega]
 ·rw [List.getElem?_eq_none (by rw [List.length_set,pL];omega),List.getElem?_eq_none (by rw [pL];omega)]
theorem FL (v:Net) (hf:Fits v):eC T 30 [dH v] (t9 (oU v)):=by
 refine bA (af:=a30) rfl (by simp [a30]) dd ?_
 (repeat (first|simp only [↓QA,QB,Nat.reduceLT,reduceIte,Nat.reduceEqDiff,Nat.reduceAdd,Nat.reduceLeDiff,Nat.reduceMul,Nat.reduceBEq,cR,a30]|refine rd0 rfl ?_))
 by_cases h0:fG v=0
 ·obtain ⟨hv,hne⟩:=rN h0
  have hnt:=hv.ntr
  have her:=vC [.cells (aB v)] v [] (.inl rfl) hf (by rw [kP];exact h0)
  have hsome:∀ p,pK v (bZ v [])=some p→oU v=(p,lE v p,0):=fun p hp=>by rw [oU,if_pos h0,hp]
  have hnone:pK v (bZ v [])=none→oU v=([],[],9):=fun hp=>by rw [oU,if_pos h0,hp]
  have hbp:=SX hv
  obtain ⟨MO,hMO⟩:∃ MO,oU v=MO:=⟨_,rfl⟩
  rw [hMO] at hnone
  simp only [hMO] at hsome
  rw [hMO]
  obtain ⟨W,hW⟩:∃ W,pK v (bZ v [])=W:=⟨_,rfl⟩
  rw [hW] at hbp hnone
  simp only [hW] at hsome
  simp only [j3,List.map_nil] at her
  simp only [aK] at her
  try simp only [↓QA,QB,Nat.reduceLT,reduceIte,Nat.reduceEqDiff,Nat.reduceAdd,Nat.reduceLeDiff,Nat.reduceMul,Nat.reduceBEq,cR] at her
  have hwi:∀ (n:Nat),n=v.trams.length→True:=fun _ _=>trivial
  have hmk:oF 24 (.int .i64 v.trams.length) (.int .i64 v.trams.length)=some v.trams.length:=by simp [oF,room];omega
  have hok1:∀ A k,aN k (.map (tEs v A)):=fun A k=>pS v A k
  have hok2:∀ (l:List (Option (List Int))) k,aN k (.cells (l.map jI)):=fun l k=>tX l k
  have hok3:∀ k m,aN m (.cells (k9 v v.trams.length k)):=fun k m=>UR v _ k m
  refine cO her ?_
  (repeat (first|simp only [↓QA,QB,Nat.reduceLT,reduceIte,Nat.reduceEqDiff,Nat.reduceAdd,Nat.reduceLeDiff,Nat.reduceMul,Nat.reduceBEq,cR,show ((0:Int)==0)=true from rfl,hmk,qZ,←YN v]|refine rd0 rfl ?_))
  refine sO 3 1 [] rfl ?_
  refine dJ (S:=Nat) 0 (fun k=>k≤v.trams.length) (fun k=>v.trams.length-k)
   (fun k=>[(1,.ptr 0 0),(3,.lit [] false (some 8)),(5,.ptr 5 0),(6,.ptr 7 0),(27,.lit (v.trams.map bX) false none),(28,.int .i64 v.trams.length),(29,.int .i64 k)])
   (fun k=>[.cells (aB v),.cells (aB v),.cells (aB v),.map (tEs v (nS v)),.cells (db v 0 3),.cells [.ptr 4 0],.cells (k9 v v.trams.length k),.cells [.ref 6 0 v.trams.length 1],.tok 1 0 false]) (Nat.zero_le _) (by simp [aB,ints]) ?_ fun k hk=>?_
  ·try simp only [aD,QE,Nat.reduceLT,reduceIte,Nat.reduceEqDiff,Nat.reduceAdd,Nat.reduceLeDiff,Nat.reduceMul,Nat.reduceBEq,cR]
   try simp
  ·(repeat (first|simp only [↓QA,QB,Nat.reduceLT,reduceIte,Nat.reduceEqDiff,Nat.reduceAdd,Nat.reduceLeDiff,Nat.reduceMul,Nat.reduceBEq,cR,UY]|refine rd0 rfl ?_))
   refine aI (fun hd=>?_) fun hd=>?_
   ·have hk1:k<v.trams.length:=by simpa using hd
    have hw:=cM hk1 (by omega)
    have hfr:=w8 hk1
    have hto:=(wC hv hk1).frm
    obtain ⟨z,hz⟩:∃ z,v.trams[k]=z:=⟨_,rfl⟩
    rw [hz] at hfr hto
    obtain ⟨S,hS⟩:∃ S:Nat,z.frm=(S:Int):=⟨z.frm.toNat,by omega⟩
    have hst:=hv.st
    have hpw:=yJ v hv S (by omega) (-1)
    have hb1:nU (-1)=[]:=rfl
    have hfs:=P6 v hk1
    rw [hb1,←hS,←hfr] at hpw
    rw [hfr,hS] at hpw
    rw [hfr,hS] at hfs
    obtain ⟨Y,hY⟩:∃ Y,bW v (S:Int) []=Y:=⟨_,rfl⟩
    rw [hY] at hpw hfs
    have iA:(0:Int)≤(k:Int)∧(k:Int)<(v.trams.length:Int)∧1=1:=⟨by omega,by omega,rfl⟩
    have hfl:=pL v v.trams.length k
    have c8:k+1≤v.trams.length:=hk1
    simp only [bF] at hpw hfs
    (repeat (first|simp only [↓QA,QB,Nat.reduceLT,reduceIte,Nat.reduceEqDiff,Nat.reduceAdd,Nat.reduceLeDiff,Nat.reduceMul,Nat.reduceBEq,cR,hk1,hz,hS]|refine rd0 rfl ?_))
    ((first|refine aF (hpw) rfl dd ?_|refine aH (hpw) rfl dd ?_);(repeat (first|simp only [↓QA,QB,Nat.reduceLT,reduceIte,Nat.reduceEqDiff,Nat.reduceAdd,Nat.reduceLeDiff,Nat.reduceMul,Nat.reduceBEq,cR,hk1,hz,hS,iA,hfl,c8,hfs,hw]|refine rd0 rfl ?_)))
    refine ⟨k+1,by omega,by omega,?_⟩
    try simp only [aD,QE,Nat.reduceLT,reduceIte,Nat.reduceEqDiff,Nat.reduceAdd,Nat.reduceLeDiff,Nat.reduceMul,Nat.reduceBEq,cR,hw]
    try simp only [hok3,or_true,true_or,and_self,true_and]
   ·have hk1:k=v.trams.length:=by
     have:¬k<v.trams.length:=by simpa using hd
     omega
    rw [hk1,NL]
    have hwn:IntKind.i64.wrap ((v.trams.length:Int)+1)=((v.trams.length+1:Nat):Int):=by rw [dZ ⟨by omega,by omega⟩];omega
    have hrep:List.replicate v.trams.length (AV.lit [] true none)=(List.replicate v.trams.length none).map jI:=by simp [jI]
    have hF0:Fnd v [] 0 v.trams.length (List.replicate v.trams.length none,nS v):=⟨by simp,by simp⟩
    (repeat (first|simp only [↓QA,QB,Nat.reduceLT,reduceIte,Nat.reduceEqDiff,Nat.reduceAdd,Nat.reduceLeDiff,Nat.reduceMul,Nat.reduceBEq,cR,hmk,qZ,hrep,hwn]|refine rd0 rfl ?_))
    refine dJ (S:=Nat×PS) (0,(List.replicate v.trams.length none,nS v)) (fun a=>a.1≤v.trams.length+1∧Fnd v [] 0 v.trams.length a.2∧sJ v (mM v) (v.trams.length+1-a.1) a.1=W) (fun a=>v.trams.length+1-a.1)
     (fun a=>[(1,.ptr 0 0),(3,.lit [] false (some 8)),(9,.ptr 10 0),(10,.ptr 11 0),(49,.int .i64 ((v.trams.length+1:Nat):Int)),(50,.int .i64 a.1)])
     (fun a=>mvS v a.2) ⟨Nat.zero_le _,hF0,hbp.symm⟩ (by simp [mvS,gU,aB,ints]) ?_ fun a ha=>?_
    ·try simp only [aD,QE,Nat.reduceLT,reduceIte,Nat.reduceEqDiff,Nat.reduceAdd,Nat.reduceLeDiff,Nat.reduceMul,Nat.reduceBEq,cR]
     try simp [clr,clrs]
    ·obtain ⟨m,y⟩:=a
     obtain ⟨hm,hF,hq⟩:=ha
     simp only at hm hF hq
     cases hml:decide ((m:Int)<((v.trams.length+1:Nat):Int))
     ·have hm1:m=v.trams.length+1:=by
       have:¬(m:Int)<((v.trams.length+1:Nat):Int):=by simpa using hml
       omega
      rw [hm1,Nat.sub_self,sJ] at hq
      have hres:=hnone hq.symm
      subst hres
      simp only [mvS,gU]
      (repeat (first|simp only [↓QA,QB,Nat.reduceLT,reduceIte,Nat.reduceEqDiff,Nat.reduceAdd,Nat.reduceLeDiff,Nat.reduceMul,Nat.reduceBEq,cR,P2,hml,t9,bF,List.map_nil]|refine rd0 rfl ?_))
      try try simp only [QS,QC,Nat.reduceLT,reduceIte,Nat.reduceEqDiff,Nat.reduceAdd,Nat.reduceLeDiff,Nat.reduceMul,Nat.reduceBEq,cR]
     ·have hm1:m<v.trams.length+1:=by
       have:(m:Int)<((v.trams.length+1:Nat):Int):=by simpa using hml
       omega
      have hwm:=cM hm1 (by omega)
      rw [show v.trams.length+1-m=(v.trams.length+1-(m+1))+1 by omega,sJ] at hq
      have hfd:=u6 v hv v.trams.length 0 m y [] (by omega) (by omega) rfl hF (fun w hw=>by cases hw)
      obtain ⟨l1,l2,l3⟩:=xC v v.trams.length 0 m y [] rfl hF
      obtain ⟨⟨Rb,Ry⟩,hRe⟩:∃ R,fnd v v.trams.length 0 m y=R:=⟨_,rfl⟩
      rw [hRe] at l1 l2 l3 hfd
      simp only at l1 l2 l3 hfd
      simp only [mvS,gU] at hfd ⊢
      try simp only [↓QA,QB,Nat.reduceLT,reduceIte,Nat.reduceEqDiff,Nat.reduceAdd,Nat.reduceLeDiff,Nat.reduceMul,Nat.reduceBEq,cR] at hfd
      have h00:((0:Nat):Int)=0:=rfl
      rw [h00] at hfd
      (repeat (first|simp only [↓QA,QB,Nat.reduceLT,reduceIte,Nat.reduceEqDiff,Nat.reduceAdd,Nat.reduceLeDiff,Nat.reduceMul,Nat.reduceBEq,cR,P2,hml]|refine rd0 rfl ?_))
      refine cO hfd ?_
      cases hdf:dfs v (mM v) v.trams.length [] m with
      |none =>
       rw [hdf] at l1 hq
       simp only [Option.isSome_none] at l1 hq
       subst l1
       (repeat (first|simp only [↓QA,QB,Nat.reduceLT,reduceIte,Nat.reduceEqDiff,Nat.reduceAdd,Nat.reduceLeDiff,Nat.reduceMul,Nat.reduceBEq,cR,hwm]|refine rd0 rfl ?_))
       refine ⟨(m+1,Ry),⟨by simp only;omega,l3,hq⟩,by simp only;omega,?_⟩
       try simp only [aD,QE,Nat.reduceLT,reduceIte,Nat.reduceEqDiff,Nat.reduceAdd,Nat.reduceLeDiff,Nat.reduceMul,Nat.reduceBEq,cR,hwm]
       try simp only [hok1,hok2,or_true,true_or,and_self,true_and]
      |some P =>
       rw [hdf] at l1 hq
       have l2:=l2 P hdf
       simp only [Option.isSome_some] at l1 hq
       subst l1
       have hres:=hsome P hq.symm
       subst hres
       obtain ⟨Rl,RA⟩:=Ry
       simp only at l2 l3
       subst l2
       have hPl:P.length=v.trams.length:=by have:=l3.len;simpa using this
       have hPin:∀ w∈P,w.length≤4:=fun w hw=>by
        have h1:=hdf
        rw [y6,←vA] at h1
        exact (R2 (List.mem_of_find?_eq_some h1)).few w hw
       obtain ⟨A,hA⟩:∃ A,lE v P=A:=⟨_,rfl⟩
       have hA':[]++(aO ((0:Nat):Int) ((v.trams.length:Int)-((0:Nat):Int)).toNat).filter (Q3 v P)=A:=by rw [←hA,lE,hPl];simp;rfl
       rw [hA,y5]
       (repeat (first|simp only [↓QA,QB,Nat.reduceLT,reduceIte,Nat.reduceEqDiff,Nat.reduceAdd,Nat.reduceLeDiff,Nat.reduceMul,Nat.reduceBEq,cR,hPl]|refine rd0 rfl ?_))
       refine dJ (S:=Nat×List Int×Bool) (0,[],false) (fun a=>a.1≤v.trams.length∧a.2.1++(aO (a.1:Int) ((v.trams.length:Int)-a.1).toNat).filter (Q3 v P)=A∧a.2.1.length≤a.1) (fun a=>v.trams.length-a.1)
        (fun a=>[(1,.ptr 0 0),(3,.lit (a.2.1.map (.int .i64)) false (some 8)),(9,.ptr 10 0),(57,.ref 9 0 v.trams.length 1),(58,.int .i64 v.trams.length),(59,.int .i64 a.1)])
        (fun a=>[.cells (aB v),.cells (aB v),.cells (aB v),.map (tEs v RA),.cells (db v 0 3),.cells [.ptr 4 0],.cells (nV v v.trams.length),.cells [.ref 6 0 v.trams.length 1],.tok 1 a.2.1.length a.2.2,.cells (P.map ints),.cells [.ref 9 0 v.trams.length 1],.cells [QQ]]) ⟨Nat.zero_le _,hA',by simp⟩ (by simp [aB,ints,gU]) ?_ fun a ha=>?_
       ·try simp only [aD,QE,Nat.reduceLT,reduceIte,Nat.reduceEqDiff,Nat.reduceAdd,Nat.reduceLeDiff,Nat.reduceMul,Nat.reduceBEq,cR,IB (show 9<12 by omega)]
        try simp
       ·obtain ⟨t,acc,ex⟩:=a
        obtain ⟨ht,hacc,hal⟩:=ha
        simp only at ht hacc hal
        (repeat (first|simp only [↓QA,QB,Nat.reduceLT,reduceIte,Nat.reduceEqDiff,Nat.reduceAdd,Nat.reduceLeDiff,Nat.reduceMul,Nat.reduceBEq,cR,V0]|refine rd0 rfl ?_))
        refine aI (fun hd=>?_) fun hd=>?_
        ·have ht1:t<v.trams.length:=by simpa using hd
         have hw:=cM ht1 (by omega)
         have htp:t<P.length:=by omega
         rw [DY ht1] at hacc
         have hmv:Q3 v P (t:Int) = !decide (P[t]=v.trams[t].path):=by rw [Q3,Int.toNat_natCast,JG htp,GF ht1]
         have hpl:=hPin _ (List.getElem_mem htp)
         have htl:=(wC hv ht1).len
         obtain ⟨z,hz⟩:∃ z,v.trams[t]=z:=⟨_,rfl⟩
         obtain ⟨p,hpe⟩:∃ p,P[t]=p:=⟨_,rfl⟩
         rw [hz,hpe] at hmv
         rw [hz] at htl
         rw [hpe] at hpl
         have iA:(0:Int)≤(t:Int)∧(t:Int)<(v.trams.length:Int)∧1=1:=⟨by omega,by omega,rfl⟩
         have heq:=E6 p z.path (by omega) (by omega)
         simp only [n9] at heq
         have hap:=fun (b0 b1 b2 b3 b4 b5 b6 b7:ABlk) (τ:St)=>qE (σ:=b0::b1::b2::b3::b4::b5::b6::b7::.tok 1 acc.length ex::τ) (l:=acc) (a:=(t:Int)) (ex:=ex) (t:=8) (by omega) rfl
         (repeat (first|simp only [↓QA,QB,Nat.reduceLT,reduceIte,Nat.reduceEqDiff,Nat.reduceAdd,Nat.reduceLeDiff,Nat.reduceMul,Nat.reduceBEq,cR,iA,htp,hpe,ht1,hz,n9]|refine rd0 rfl ?_))
         ((first|refine aF (heq) rfl dd ?_|refine aH (heq) rfl dd ?_);(repeat (first|simp only [↓QA,QB,Nat.reduceLT,reduceIte,Nat.reduceEqDiff,Nat.reduceAdd,Nat.reduceLeDiff,Nat.reduceMul,Nat.reduceBEq,cR,iA,htp,hpe,ht1,hz,n9]|refine rd0 rfl ?_)))
         cases q:decide (p=z.path)
         ·rw [hmv,q] at hacc
          simp only [Bool.not_false,rI]
          (repeat (first|simp only [↓QA,QB,Nat.reduceLT,reduceIte,Nat.reduceEqDiff,Nat.reduceAdd,Nat.reduceLeDiff,Nat.reduceMul,Nat.reduceBEq,cR,hap,hw]|refine rd0 rfl ?_))
          refine ⟨(t+1,acc++[(t:Int)],true),⟨by simp only;omega,by simpa using hacc,by simp;omega⟩,by simp only;omega,?_⟩
          try simp only [aD,QE,Nat.reduceLT,reduceIte,Nat.reduceEqDiff,Nat.reduceAdd,Nat.reduceLeDiff,Nat.reduceMul,Nat.reduceBEq,cR,hw,oY,IB (show 9<12 by omega),List.map_append,List.map_cons,List.map_nil]
          try simp [aN]
         ·rw [hmv,q] at hacc
          simp only [Bool.not_true,o0]
          (repeat (first|simp only [↓QA,QB,Nat.reduceLT,reduceIte,Nat.reduceEqDiff,Nat.reduceAdd,Nat.reduceLeDiff,Nat.reduceMul,Nat.reduceBEq,cR,hw]|refine rd0 rfl ?_))
          refine ⟨(t+1,acc,ex),⟨by simp only;omega,by simpa using hacc,by simp only;omega⟩,by simp only;omega,?_⟩
          try simp only [aD,QE,Nat.reduceLT,reduceIte,Nat.reduceEqDiff,Nat.reduceAdd,Nat.reduceLeDiff,Nat.reduceMul,Nat.reduceBEq,cR,hw,oY,IB (show 9<12 by omega)]
          try simp [aN]
        ·have ht1:t=v.trams.length:=by
          have:¬t<v.trams.length:=by simpa using hd
          omega
         rw [NA ht1,List.append_nil] at hacc
         subst hacc
         have hsr:=fun (b0 b1 b2 b3 b4 b5 b6 b7 b8:ABlk) (τ:St)=>ZQ (σ:=b0::b1::b2::b3::b4::b5::b6::b7::b8::.cells (P.map ints)::τ) (m:=0) (id:=9) (n:=v.trams.length) (l:=P) (by omega) hPl.symm rfl
         (repeat (first|simp only [↓QA,QB,Nat.reduceLT,reduceIte,Nat.reduceEqDiff,Nat.reduceAdd,Nat.reduceLeDiff,Nat.reduceMul,Nat.reduceBEq,cR,t9,bF,n9]|refine rd0 rfl ?_))
         try try simp only [QS,QC,Nat.reduceLT,reduceIte,Nat.reduceEqDiff,Nat.reduceAdd,Nat.reduceLeDiff,Nat.reduceMul,Nat.reduceBEq,cR,hsr]
 ·have h0':(fG v==0)=false:=by simpa using h0
  have her:=y9 [.cells (aB v)] v [] (.inl rfl) hf (by rw [kP];exact h0)
  rw [kP] at her
  have hm:oU v=([],[],fG v):=by rw [oU,if_neg h0]
  rw [hm]
  simp only [List.map_nil] at her
  simp only [aK] at her
  refine cO her ?_
  (repeat (first|simp only [↓QA,QB,Nat.reduceLT,reduceIte,Nat.reduceEqDiff,Nat.reduceAdd,Nat.reduceLeDiff,Nat.reduceMul,Nat.reduceBEq,cR,h0',t9,bF,List.map_nil]|refine rd0 rfl ?_))
  try rfl
end Go.Am.Room
set_option maxRecDepth 8000
namespace Go.Am.Room
def m5:=And.intro @aZ (And.intro @aK (And.intro @aR (And.intro @aT (And.intro @aS (And.intro @aQ (And.intro @aY (And.intro @aW (And.intro @aV (And.intro @dL (And.intro @dR (And.intro @Nat.not_lt_zero (And.intro @List.length_append.{0} (And.intro @Nat.zero_add (And.intro @Nat.mul_one (And.intro @Int.toNat_natCast (And.intro @dO (And.intro @eR (And.intro @eQ (And.intro @jY (And.intro @eN (And.intro @Nat.add_lt_add_iff_left (And.intro @Nat.lt_add_right_iff_pos (And.intro @nC (@m8))))))))))))))))))))))))
def pY (x:B64):St:=[.cells [.int .i64 (x.1.1:Nat)],.cells [.int .i64 (x.1.2:Nat)]]
theorem K0 {v:Net} (hv:Vd v) (c:List Int) (x:B64) (B:List K5) (lp:ABlk) (τ:St) (e:Env) (G:Option AJump→St→Prop)
  (e1:Env.get e 1 = .ptr 0 0) (e6:Env.get e 6 = .ptr 5 0) (e7:Env.get e 7 = .ptr 6 0) (e8:Env.get e 8 = .ptr (τ.length+9) 0) (R:B64×Bool) (hRr:nA gY v.rails.length c x=R) :
  wp T QO e (j3 [.cells (aB v)] v B++(pY x++(.cells [.ptr 4 0]::lp::(τ++[.cells (bC 5 (rl c))])))) (fun j e'' σ''=>(R.2=true∧j=none∧∃ τ',σ''=j3 [.cells (aB v)] v B++(pY R.1++(.cells [.ptr 4 0]::lp::(τ++τ'))))∨G j σ''):=by
 have hnt:=hv.nra
 have hR1:R.1.1=dG (gY c) v.rails.length x.1:=by rw [←hRr,u0 gY (by omega)]
 have hR2:R.2=true:=by rw [←hRr];exact zT _ _ _ _
 have hlt:=fun k hk=>oA (gY c) (n:=6) x.2 k hk
 have hta:∀ (b0 b1 b2 b3 b4 b5 b6 b7 b8:ABlk),aG (b0::b1::b2::b3::b4::b5::b6::b7::b8::(τ++[.cells (bC 5 (rl c))])) (τ.length+9)=some (bC 5 (rl c)):=fun b0 b1 b2 b3 b4 b5 b6 b7 b8=>by
  simp only [pG]
  rw [iH];rfl
 simp only [pY,hR1,j3,aK]
 (repeat (first|simp only [↓QA,QB,Nat.reduceLT,reduceIte,Nat.reduceEqDiff,Nat.reduceAdd,Nat.reduceLeDiff,Nat.reduceMul,Nat.reduceBEq,m5,QO,e1]|refine rd0 rfl ?_))
 refine dJ (S:=Nat) 0 (fun k=>k≤v.rails.length) (fun k=>v.rails.length-k)
  (fun k=>[(1,.ptr 0 0),(6,.ptr 5 0),(7,.ptr 6 0),(8,.ptr (τ.length+9) 0),(29,.int .i64 v.rails.length),(30,.int .i64 k)])
  (fun k=>j3 [.cells (aB v)] v B++(.cells [.int .i64 ((dG (gY c) k x.1).1:Nat)]::.cells [.int .i64 ((dG (gY c) k x.1).2:Nat)]::.cells [.ptr 4 0]::lp::(τ++[.cells (bC 5 (rl c))]))) (Nat.zero_le _) (by simp [j3,aB,dG]) ?_ fun k hk=>?_
 ·try simp only [aD,QE,Nat.reduceLT,reduceIte,Nat.reduceEqDiff,Nat.reduceAdd,Nat.reduceLeDiff,Nat.reduceMul,Nat.reduceBEq,m5,e1,e6,e7,e8]
  try simp
 ·(repeat (first|simp only [↓QA,QB,Nat.reduceLT,reduceIte,Nat.reduceEqDiff,Nat.reduceAdd,Nat.reduceLeDiff,Nat.reduceMul,Nat.reduceBEq,m5,V5,j3]|refine rd0 rfl ?_))
  refine aI (fun hd=>?_) fun hd=>?_
  ·have hk1:k<v.rails.length:=by simpa using hd
   have hw:=cM hk1 (by omega)
   have hst:dG (gY c) (k+1) x.1=if gY c k=true then (AD (dG (gY c) k x.1).1 (2^k),(dG (gY c) k x.1).2) else ((dG (gY c) k x.1).1,(dG (gY c) k x.1).2|||2^k):=rfl
   obtain ⟨l1,l2⟩:=hlt k (by omega)
   obtain ⟨⟨Y1,Y2⟩,hY⟩:∃ Y,dG (gY c) k x.1=Y:=⟨_,rfl⟩
   rw [hY] at hst l1 l2
   simp only at hst l1 l2
   have hp2:=i9 (show k≤60 by omega)
   have hsh:=sQ k (by omega)
   have hor:=YJ Y2 (2^k) (by omega) (by omega)
   have han:=EQ Y1 (2^k) (by omega) (by omega)
   have i3:(0:Int)≤(k:Int)∧(k:Int)<((5:Nat):Int):=⟨by omega,by omega⟩
   have hg:=iO 5 (rl c) (i:=k) (by omega)
   have hop:gY c k = !(rl c k==0):=rfl
   rw [hY]
   cases hf:(rl c k==0)
   ·rw [hop,hf] at hst
    simp only [Bool.not_false,if_true] at hst
    (repeat (first|simp only [↓QA,QB,Nat.reduceLT,reduceIte,Nat.reduceEqDiff,Nat.reduceAdd,Nat.reduceLeDiff,Nat.reduceMul,Nat.reduceBEq,m5,hta,i3,hg,hsh,han,hf]|refine rd0 rfl ?_))
    refine ⟨k+1,by omega,by omega,?_⟩
    rw [hst]
    try simp only [aD,QE,Nat.reduceLT,reduceIte,Nat.reduceEqDiff,Nat.reduceAdd,Nat.reduceLeDiff,Nat.reduceMul,Nat.reduceBEq,m5,hw]
    try simp [aN,okVs,okV]
    try omega
   ·rw [hop,hf] at hst
    simp only [Bool.not_true,Bool.false_eq_true,if_false] at hst
    (repeat (first|simp only [↓QA,QB,Nat.reduceLT,reduceIte,Nat.reduceEqDiff,Nat.reduceAdd,Nat.reduceLeDiff,Nat.reduceMul,Nat.reduceBEq,m5,hta,i3,hg,hsh,hor,hf]|refine rd0 rfl ?_))
    refine ⟨k+1,by omega,by omega,?_⟩
    rw [hst]
    try simp only [aD,QE,Nat.reduceLT,reduceIte,Nat.reduceEqDiff,Nat.reduceAdd,Nat.reduceLeDiff,Nat.reduceMul,Nat.reduceBEq,m5,hw]
    try simp [aN,okVs,okV]
    try omega
  ·have hk1:k=v.rails.length:=by
    have:¬k<v.rails.length:=by simpa using hd
    omega
   rw [hk1]
   (repeat (first|simp only [↓QA,QB,Nat.reduceLT,reduceIte,Nat.reduceEqDiff,Nat.reduceAdd,Nat.reduceLeDiff,Nat.reduceMul,Nat.reduceBEq,m5]|refine rd0 rfl ?_))
   exact .inl ⟨hR2,[.cells (bC 5 (rl c))],rfl⟩
end Go.Am.Room
set_option maxRecDepth 8000
namespace Go.Am.Room
def kF:=And.intro @aZ (And.intro @aK (And.intro @aR (And.intro @aT (And.intro @aS (And.intro @aQ (And.intro @aY (And.intro @aW (And.intro @aV (And.intro @dL (And.intro @dR (And.intro @Nat.not_lt_zero (And.intro @List.length_append.{0} (And.intro @Nat.zero_add (And.intro @Nat.mul_one (And.intro @Int.toNat_natCast (And.intro @dO (And.intro @eR (And.intro @eQ (And.intro @jY (And.intro @eN (And.intro @Nat.add_lt_add_iff_left (And.intro @Nat.lt_add_right_iff_pos (And.intro @nC (@m8))))))))))))))))))))))))
theorem EI (v:Net) (hf:Fits v):eC T 32 [dH v] (qU (vJ v)):=by
 refine bA (af:=a32) rfl (by simp [a32]) dd ?_
 (repeat (first|simp only [↓QA,QB,Nat.reduceLT,reduceIte,Nat.reduceEqDiff,Nat.reduceAdd,Nat.reduceLeDiff,Nat.reduceMul,Nat.reduceBEq,kF,a32]|refine rd0 rfl ?_))
 by_cases h0:fG v=0
 ·obtain ⟨hv,hne⟩:=rN h0
  have hnt:=hv.nra
  have h6:v.rails.length≤6:=by omega
  obtain ⟨hl1,hl2⟩:=OU hv h6
  have hit:=BC gY v.rails.length (TL v []) (j4 _ h6)
  obtain ⟨⟨⟨P,Q⟩,hPQ⟩,hY⟩:∃ Y,lB gY v.rails.length (TL v []) (j4 _ h6)=Y:=⟨_,rfl⟩
  rw [hY] at hl1 hl2 hit
  simp only at hl1 hl2 hPQ
  have hm:vJ v=(lst v.rails.length P,lst v.rails.length Q,0):=by rw [vJ,if_pos h0,hl1,hl2]
  have hlo1:=rM P v.rails.length (by omega) (by omega)
  have hlo2:=rM Q v.rails.length (by omega) (by omega)
  have hsh:=sQ v.rails.length (by omega)
  have hp2:=i9 (show v.rails.length≤60 by omega)
  have hw:IntKind.i64.wrap (((2^v.rails.length:Nat):Int)-1)=((2^v.rails.length-1:Nat):Int):=by
   have:=Nat.two_pow_pos v.rails.length
   rw [dZ ⟨by omega,by omega⟩];omega
  have hok:∀ (x:B64) (y:ABlk),y∈pY x→∀ k,5≤k→aN k y:=by
   intro x y hy k hk
   simp only [pY,List.mem_cons,List.not_mem_nil,or_false] at hy
   rcases hy with rfl|rfl<;>simp [aN,okVs,okV]
  have hR:=yI [.cells (aB v)] v
  have hrng:=lH hR hv KQ pY pY 2 (fun _=>rfl) (fun _=>rfl) hok hok .ret (f:=nA gY v.rails.length)
  have her:=fun σ=>vC σ v [] (.inl rfl) hf (by rw [kP];exact h0)
  simp only [List.map_nil] at her
  rw [hm]
  simp only [j3] at hrng her
  simp only [aK] at hrng her
  refine cO (her _) ?_
  (repeat (first|simp only [↓QA,QB,Nat.reduceLT,reduceIte,Nat.reduceEqDiff,Nat.reduceAdd,Nat.reduceLeDiff,Nat.reduceMul,Nat.reduceBEq,kF,show ((0:Int)==0)=true from rfl,hsh,hw]|refine rd0 rfl ?_))
  refine qK rfl (by simp [a80]) ?_
  (repeat (first|simp only [↓QA,QB,Nat.reduceLT,reduceIte,Nat.reduceEqDiff,Nat.reduceAdd,Nat.reduceLeDiff,Nat.reduceMul,Nat.reduceBEq,kF,a80]|refine rd0 rfl ?_))
  refine hrng _ 24 [25,26] _ _ ?_ ?_ (j4 _ h6) (nS v) _ ?_ ?_
  ·try simp only [aD,QE,Nat.reduceLT,reduceIte,Nat.reduceEqDiff,Nat.reduceAdd,Nat.reduceLeDiff,Nat.reduceMul,Nat.reduceBEq,kF]
  ·refine m9 (S:=fun _=>j3 [.cells (aB v)] v) (fun _=>hR) pY pY 2 (fun _=>rfl) (fun _=>rfl) .ret _ _ (nX v) (fun _ _ _=>rfl) _ _ ?_
   intro c _ fl tk x B τ
   simp only [jV,nX]
   obtain ⟨R,hRr⟩:∃ R,nA gY v.rails.length c x=R:=⟨_,rfl⟩
   rw [hRr]
   have lb:=fun lp e G=>K0 hv c x B lp τ e G
   simp only [pY,j3,aK] at lb ⊢
   (repeat (first|simp only [↓QA,QB,Nat.reduceLT,reduceIte,Nat.reduceEqDiff,Nat.reduceAdd,Nat.reduceLeDiff,Nat.reduceMul,Nat.reduceBEq,kF]|refine rd0 rfl ?_))
   refine ⟨[.cells (bC 5 (rl c))],by simp,?_⟩
   refine lb _ _ _ ?_ ?_ ?_ ?_ R hRr
   all_goals try simp only [aD,QE,Nat.reduceLT,reduceIte,Nat.reduceEqDiff,Nat.reduceAdd,Nat.reduceLeDiff,Nat.reduceMul,Nat.reduceBEq,kF]
  ·intro τ h2
   rw [hit]
   simp only [pY]
   (repeat (first|simp only [↓QA,QB,Nat.reduceLT,reduceIte,Nat.reduceEqDiff,Nat.reduceAdd,Nat.reduceLeDiff,Nat.reduceMul,Nat.reduceBEq,kF]|refine rd0 rfl ?_))
   ((first|refine aF (hlo1) rfl dd ?_|refine aH (hlo1) rfl dd ?_);(repeat (first|simp only [↓QA,QB,Nat.reduceLT,reduceIte,Nat.reduceEqDiff,Nat.reduceAdd,Nat.reduceLeDiff,Nat.reduceMul,Nat.reduceBEq,kF]|refine rd0 rfl ?_)))
   ((first|refine aF (hlo2) rfl dd ?_|refine aH (hlo2) rfl dd ?_);(repeat (first|simp only [↓QA,QB,Nat.reduceLT,reduceIte,Nat.reduceEqDiff,Nat.reduceAdd,Nat.reduceLeDiff,Nat.reduceMul,Nat.reduceBEq,kF,qU]|refine rd0 rfl ?_)))
  ·intro τ h2
   rw [hit] at h2
   cases h2
 ·have her:=fun σ=>y9 σ v [] (.inl rfl) hf (by rw [kP];exact h0)
  simp only [List.map_nil,kP] at her
  have h0':(fG v==0)=false:=by simpa using h0
  have hm:vJ v=([],[],fG v):=by rw [vJ,if_neg h0]
  rw [hm]
  refine cO (her _) ?_
  (repeat (first|simp only [↓QA,QB,Nat.reduceLT,reduceIte,Nat.reduceEqDiff,Nat.reduceAdd,Nat.reduceLeDiff,Nat.reduceMul,Nat.reduceBEq,kF,h0',qU]|refine rd0 rfl ?_))
  try rfl
end Go.Am.Room
set_option maxRecDepth 8000
namespace Go.Am.Room
def cY:=And.intro @aZ (And.intro @aK (And.intro @aR (And.intro @aT (And.intro @aS (And.intro @aQ (And.intro @aY (And.intro @aW (And.intro @aV (And.intro @dL (And.intro @dR (And.intro @Nat.not_lt_zero (And.intro @List.length_append.{0} (And.intro @Nat.zero_add (And.intro @Nat.mul_one (@Int.toNat_natCast)))))))))))))))
theorem lR (v:Net) (hf:Fits v):eC T 34 [dH v] (sX (kI v)):=by
 refine bA (af:=a34) rfl (by simp [a34]) dd ?_
 (repeat (first|simp only [↓QA,QB,Nat.reduceLT,reduceIte,Nat.reduceEqDiff,Nat.reduceAdd,Nat.reduceLeDiff,Nat.reduceMul,Nat.reduceBEq,cY,a34]|refine rd0 rfl ?_))
 ((first|refine aF (kN v hf) rfl dd ?_|refine aH (kN v hf) rfl dd ?_);(repeat (first|simp only [↓QA,QB,Nat.reduceLT,reduceIte,Nat.reduceEqDiff,Nat.reduceAdd,Nat.reduceLeDiff,Nat.reduceMul,Nat.reduceBEq,cY,nQ]|refine rd0 rfl ?_)))
 cases h0:((cF v).2.2==0)
 ·have h0':(cF v).2.2≠0:=by simpa using h0
  have hr:kI v=(0,0,(cF v).2.2):=by rw [kI,if_neg h0']
  rw [hr]
  (repeat (first|simp only [↓QA,QB,Nat.reduceLT,reduceIte,Nat.reduceEqDiff,Nat.reduceAdd,Nat.reduceLeDiff,Nat.reduceMul,Nat.reduceBEq,cY,h0,sX]|refine rd0 rfl ?_))
  try rfl
 ·have h0':(cF v).2.2=0:=by simpa using h0
  have hv:=g7 h0'
  have hnr:=hv.nra
  have hnt:=hv.ntr
  obtain ⟨R,hR⟩:∃ R,oP v=R:=⟨_,rfl⟩
  have hr:kI v=if R.1<0 then (0,0,9) else (R.1,R.2,0):=by rw [kI,if_pos h0',hR]
  have hR':nF v (aO ((0:Nat):Int) ((v.rails.length:Int)-((0:Nat):Int)).toNat) (-1,0)=R:=by rw [←hR,oP];simp
  rw [hr]
  (repeat (first|simp only [↓QA,QB,Nat.reduceLT,reduceIte,Nat.reduceEqDiff,Nat.reduceAdd,Nat.reduceLeDiff,Nat.reduceMul,Nat.reduceBEq,cY,h0]|refine rd0 rfl ?_))
  refine dJ (S:=Nat×Int×Int) (0,-1,0) (fun a=>a.1≤v.rails.length∧nF v (aO (a.1:Int) ((v.rails.length:Int)-a.1).toNat) a.2=R) (fun a=>v.rails.length-a.1)
   (fun a=>[(1,.ptr 0 0),(2,.int .i64 a.2.1),(3,.int .i64 a.2.2),(4,.int .i64 (cF v).2.2),(20,.lit (v.rails.map cV) false none),(21,.int .i64 v.rails.length),(22,.int .i64 a.1)]) (fun _=>[.cells (aB v)]) ⟨Nat.zero_le _,hR'⟩ (by simp [aB,ints]) ?_ fun a ha=>?_
  ·try simp only [aD,QE,Nat.reduceLT,reduceIte,Nat.reduceEqDiff,Nat.reduceAdd,Nat.reduceLeDiff,Nat.reduceMul,Nat.reduceBEq,cY]
   try simp
  ·obtain ⟨k,b,c⟩:=a
   obtain ⟨hk,hq⟩:=ha
   simp only at hk hq
   (repeat (first|simp only [↓QA,QB,Nat.reduceLT,reduceIte,Nat.reduceEqDiff,Nat.reduceAdd,Nat.reduceLeDiff,Nat.reduceMul,Nat.reduceBEq,cY,U8]|refine rd0 rfl ?_))
   refine aI (fun h2=>?_) fun h2=>?_
   ·have hk1:k<v.rails.length:=by simpa using h2
    have hw:=cM hk1 (by omega)
    rw [wG hk1] at hq
    obtain ⟨z,hz⟩:∃ z,v.rails[k]=z:=⟨_,rfl⟩
    rw [hz] at hq
    obtain ⟨C,hC⟩:∃ C,eV v k=C:=⟨_,rfl⟩
    rw [hC] at hq
    (repeat (first|simp only [↓QA,QB,Nat.reduceLT,reduceIte,Nat.reduceEqDiff,Nat.reduceAdd,Nat.reduceLeDiff,Nat.reduceMul,Nat.reduceBEq,cY,hk1,hz]|refine rd0 rfl ?_))
    cases q1:(z.shut==1)
    ·have q1':z.shut≠1:=by simpa using q1
     rw [if_neg q1'] at hq
     (repeat (first|simp only [↓QA,QB,Nat.reduceLT,reduceIte,Nat.reduceEqDiff,Nat.reduceAdd,Nat.reduceLeDiff,Nat.reduceMul,Nat.reduceBEq,cY,q1]|refine rd0 rfl ?_))
     refine dJ (S:=Nat) 0 (fun j=>j≤v.trams.length) (fun j=>v.trams.length-j)
      (fun j=>[(1,.ptr 0 0),(2,.int .i64 b),(3,.int .i64 c),(4,.int .i64 (cF v).2.2),(5,.int .i64 k),(7,.int .i64 (mY v k j:Nat)),(20,.lit (v.rails.map cV) false none),(21,.int .i64 v.rails.length),(22,.int .i64 k),(31,.lit (v.trams.map bX) false none),(32,.int .i64 v.trams.length),(33,.int .i64 j)]) (fun _=>[.cells (aB v),.cells (cV z).cells]) (Nat.zero_le _) (by simp [aB,ints,mY,cV,AV.cells]) ?_ fun j hj=>?_
     ·try simp only [aD,QE,Nat.reduceLT,reduceIte,Nat.reduceEqDiff,Nat.reduceAdd,Nat.reduceLeDiff,Nat.reduceMul,Nat.reduceBEq,cY,mY]
      try simp
     ·(repeat (first|simp only [↓QA,QB,Nat.reduceLT,reduceIte,Nat.reduceEqDiff,Nat.reduceAdd,Nat.reduceLeDiff,Nat.reduceMul,Nat.reduceBEq,cY,WL]|refine rd0 rfl ?_))
      refine aI (fun h3=>?_) fun h3=>?_
      ·have hj1:j<v.trams.length:=by simpa using h3
       have hwj:=cM hj1 (by omega)
       have hcl:=DV v k j
       have hs:=xY v k j
       have hwc:=cM (show mY v k j<v.trams.length by omega) (by omega)
       have hwt:=(wC hv hj1).frm
       have hst:=hv.st
       rw [w8 hj1] at hs
       obtain ⟨y,hy⟩:∃ y,v.trams[j]=y:=⟨_,rfl⟩
       rw [hy] at hs hwt
       obtain ⟨f,hf1,hf2⟩:∃ f:Nat,y.frm=f∧f<5:=⟨y.frm.toNat,by omega,by omega⟩
       rw [hf1] at hs
       have hpw:=yJ v hv f hf2 k
       rw [show nU (k:Int)=[(k:Int)] by rw [nU,if_neg (by omega)]] at hpw
       obtain ⟨W,hW⟩:∃ W,bW v f [(k:Int)]=W:=⟨_,rfl⟩
       rw [hW] at hpw hs
       have hwe:(((W.length:Nat):Int)==0)=W.isEmpty:=by cases W<;>simp<;>omega
       (repeat (first|simp only [↓QA,QB,Nat.reduceLT,reduceIte,Nat.reduceEqDiff,Nat.reduceAdd,Nat.reduceLeDiff,Nat.reduceMul,Nat.reduceBEq,cY,hj1,hy,hf1]|refine rd0 rfl ?_))
       ((first|refine aF (hpw) rfl dd ?_|refine aH (hpw) rfl dd ?_);(repeat (first|simp only [↓QA,QB,Nat.reduceLT,reduceIte,Nat.reduceEqDiff,Nat.reduceAdd,Nat.reduceLeDiff,Nat.reduceMul,Nat.reduceBEq,cY,bF,hwe]|refine rd0 rfl ?_)))
       cases hse:W.isEmpty
       ·rw [hse] at hs
        simp only [Bool.false_eq_true,if_false,Nat.add_zero] at hs
        (repeat (first|simp only [↓QA,QB,Nat.reduceLT,reduceIte,Nat.reduceEqDiff,Nat.reduceAdd,Nat.reduceLeDiff,Nat.reduceMul,Nat.reduceBEq,cY,hwj]|refine rd0 rfl ?_))
        refine ⟨j+1,by omega,by omega,?_⟩
        rw [hs]
        try simp only [aD,QE,Nat.reduceLT,reduceIte,Nat.reduceEqDiff,Nat.reduceAdd,Nat.reduceLeDiff,Nat.reduceMul,Nat.reduceBEq,cY,hwj]
        try simp [aN]
       ·rw [hse] at hs
        simp only [if_true] at hs
        (repeat (first|simp only [↓QA,QB,Nat.reduceLT,reduceIte,Nat.reduceEqDiff,Nat.reduceAdd,Nat.reduceLeDiff,Nat.reduceMul,Nat.reduceBEq,cY,hwj,hwc]|refine rd0 rfl ?_))
        refine ⟨j+1,by omega,by omega,?_⟩
        rw [hs]
        try simp only [aD,QE,Nat.reduceLT,reduceIte,Nat.reduceEqDiff,Nat.reduceAdd,Nat.reduceLeDiff,Nat.reduceMul,Nat.reduceBEq,cY,hwj,hwc]
        try simp [aN]
      ·have hj1:j=v.trams.length:=by
        have:¬j<v.trams.length:=by simpa using h3
        omega
       rw [hj1]
       have hCC:((mY v k v.trams.length:Nat):Int)=C:=by rw [←hC];rfl
       rw [hCC]
       (repeat (first|simp only [↓QA,QB,Nat.reduceLT,reduceIte,Nat.reduceEqDiff,Nat.reduceAdd,Nat.reduceLeDiff,Nat.reduceMul,Nat.reduceBEq,cY]|refine rd0 rfl ?_))
       cases q2:decide (b<0)
       ·have q2':¬b<0:=by simpa using q2
        cases q3:decide (c<C)
        ·have q3':¬c<C:=by simpa using q3
         rw [if_neg (by simp only;omega)] at hq
         (repeat (first|simp only [↓QA,QB,Nat.reduceLT,reduceIte,Nat.reduceEqDiff,Nat.reduceAdd,Nat.reduceLeDiff,Nat.reduceMul,Nat.reduceBEq,cY,q2,q3,hw]|refine rd0 rfl ?_))
         refine ⟨(k+1,b,c),⟨by simp only;omega,hq⟩,by simp only;omega,?_⟩
         try simp only [aD,QE,Nat.reduceLT,reduceIte,Nat.reduceEqDiff,Nat.reduceAdd,Nat.reduceLeDiff,Nat.reduceMul,Nat.reduceBEq,cY,hw]
         try simp [aN]
        ·have q3':c<C:=by simpa using q3
         rw [if_pos (.inr q3')] at hq
         (repeat (first|simp only [↓QA,QB,Nat.reduceLT,reduceIte,Nat.reduceEqDiff,Nat.reduceAdd,Nat.reduceLeDiff,Nat.reduceMul,Nat.reduceBEq,cY,q2,q3,hw]|refine rd0 rfl ?_))
         refine ⟨(k+1,(k:Int),C),⟨by simp only;omega,hq⟩,by simp only;omega,?_⟩
         try simp only [aD,QE,Nat.reduceLT,reduceIte,Nat.reduceEqDiff,Nat.reduceAdd,Nat.reduceLeDiff,Nat.reduceMul,Nat.reduceBEq,cY,hw]
         try simp [aN]
       ·have q2':b<0:=by simpa using q2
        rw [if_pos (.inl q2')] at hq
        (repeat (first|simp only [↓QA,QB,Nat.reduceLT,reduceIte,Nat.reduceEqDiff,Nat.reduceAdd,Nat.reduceLeDiff,Nat.reduceMul,Nat.reduceBEq,cY,q2,hw]|refine rd0 rfl ?_))
        refine ⟨(k+1,(k:Int),C),⟨by simp only;omega,hq⟩,by simp only;omega,?_⟩
        try simp only [aD,QE,Nat.reduceLT,reduceIte,Nat.reduceEqDiff,Nat.reduceAdd,Nat.reduceLeDiff,Nat.reduceMul,Nat.reduceBEq,cY,hw]
        try simp [aN]
    ·have q1':z.shut=1:=by simpa using q1
     rw [if_pos q1'] at hq
     (repeat (first|simp only [↓QA,QB,Nat.reduceLT,reduceIte,Nat.reduceEqDiff,Nat.reduceAdd,Nat.reduceLeDiff,Nat.reduceMul,Nat.reduceBEq,cY,q1,hw]|refine rd0 rfl ?_))
     refine ⟨(k+1,b,c),⟨by simp only;omega,hq⟩,by simp only;omega,?_⟩
     try simp only [aD,QE,Nat.reduceLT,reduceIte,Nat.reduceEqDiff,Nat.reduceAdd,Nat.reduceLeDiff,Nat.reduceMul,Nat.reduceBEq,cY,hw]
     try simp [aN]
   ·have hk1:k=v.rails.length:=by
     have:¬k<v.rails.length:=by simpa using h2
     omega
    rw [lL (by omega),nF] at hq
    subst hq
    cases q:decide (b<0)
    ·have q':¬b<0:=by simpa using q
     rw [if_neg (by simpa using q')]
     (repeat (first|simp only [↓QA,QB,Nat.reduceLT,reduceIte,Nat.reduceEqDiff,Nat.reduceAdd,Nat.reduceLeDiff,Nat.reduceMul,Nat.reduceBEq,cY,q,sX]|refine rd0 rfl ?_))
     try rfl
    ·have q':b<0:=by simpa using q
     rw [if_pos (by simpa using q')]
     (repeat (first|simp only [↓QA,QB,Nat.reduceLT,reduceIte,Nat.reduceEqDiff,Nat.reduceAdd,Nat.reduceLeDiff,Nat.reduceMul,Nat.reduceBEq,cY,q,sX]|refine rd0 rfl ?_))
     try rfl
theorem TA {v:Net} (hv:Vd v):eY v.rails []≠[]:=by
 have:v.rails.map (fun r=>if r.shut=1 then 0 else r.mins.lo)∈eY v.rails []:=(i6 _ _ _).2 ⟨_,rfl,by simp,fun i h hr=>by
  have h2:=(hv.ra _ (List.getElem_mem hr)).mins
  rw [List.getElem?_eq_getElem (by simpa using hr),Option.getD_some,List.getElem_map]
  obtain ⟨z,hz⟩:∃ z,v.rails[i]=z:=⟨_,rfl⟩
  rw [hz] at h2 ⊢
  simp only [chP,List.mem_append]
  by_cases q:z.shut=1
  ·rw [if_pos q,if_neg (by omega)]
   exact .inl (by simp)
  ·rw [if_neg q,if_neg q]
   exact .inr (oM.2 ⟨Int.le_refl _,by omega⟩)⟩
 exact List.ne_nil_of_mem this
theorem QG {v:Net} {but:List Int} (h:∀ k,k<v.seen.length→but.contains (k:Int)=true) (cs:List Int):lW v but cs=true:=by
 rw [lW,List.all_eq_true]
 intro k hk
 have hk2:k<v.seen.length:=by simpa using hk
 rw [List.getElem?_eq_getElem hk2]
 simp only [h k hk2,Bool.true_or]
theorem O4 {v:Net} (hv:Vd v) {but:List Int} (h:∀ k,k<v.seen.length→but.contains (k:Int)=true):yF v but=true:=by
 obtain ⟨c,hc⟩:=List.exists_mem_of_ne_nil _ (TA hv)
 have ht:c∈TL v but:=List.mem_filter.2 ⟨hc,QG h _⟩
 obtain ⟨s,hs,_⟩:=rD hv ht
 rw [yF]
 cases hh:bZ v but with
 |nil=>rw [hh] at hs;cases hs
 |cons a b=>rfl
theorem L9 {v:Net} (hv:Vd v):∀ c∈dK v.seen.length v.seen.length,yF v c=true:=fun c hc=>by
 have hl:=hv.nse
 exact O4 hv fun k hk=>C6 ⟨v.seen.length,by omega⟩ c hc ⟨k,by omega⟩ hk
theorem qI (f:List Int→Bool) (n:Nat):∀ k m,dP f n (k+1) m=(dP f n k m).or ((dK n (m+k)).find? f)
 |0,m=>by simp only [dP,Nat.add_zero];cases (dK n m).find? f<;>rfl
 |k+1,m=>by
  rw [dP,qI f n k (m+1)]
  rw [show dP f n (k+1) m=(match (dK n m).find? f with|some l=>some l|none=>dP f n k (m+1)) from rfl]
  rw [show m+1+k=m+(k+1) by omega]
  cases (dK n m).find? f<;>rfl
theorem FV {v:Net} (hv:Vd v):dP (yF v) v.seen.length (v.seen.length+1) 0=some (yO v):=by
 have hl:=hv.nse
 have h1:=FY ⟨v.seen.length,by omega⟩
 simp only at h1
 obtain ⟨w,hw⟩:=List.length_eq_one_iff.1 h1
 have hs:=L9 hv w (by rw [hw];simp)
 rw [qI,yO,Nat.zero_add,hw]
 cases dP (yF v) v.seen.length v.seen.length 0 with
 |some l=>rfl
 |none=>simp [hs]
end Go.Am.Room
set_option maxRecDepth 8000
namespace Go.Am.Room
def bD:=And.intro @aZ (And.intro @aK (And.intro @aR (And.intro @aT (And.intro @aS (And.intro @aQ (And.intro @aY (And.intro @aW (And.intro @aV (And.intro @List.length_append.{0} (And.intro @Nat.mul_one (And.intro @Int.toNat_natCast (And.intro @dL (And.intro @dR (@oY))))))))))))))
def xJ (σ:St) (v:Net) (b:Nat) (A:List K5):St:=σ++[.cells (aB v),.map (tEs v A),.cells (db v b (σ.length+1))]
theorem RB (σ:St) (v:Net) (b:Nat):MemAt (xJ σ v b) (db v b (σ.length+1)) (tEs v) (σ.length+2) (σ.length+1) (σ.length+3) :=
 ⟨fun M=>by simp [xJ],fun M=>by simp [xJ,qQ,pG,MR],fun M=>by rw [xJ,qG];rfl,fun M M'=>by rw [xJ,xJ,nL];rfl,fun A k=>pS v A k,by omega,by omega⟩
theorem B8 (v:Net) (hf:Fits v):eC T 36 [dH v] (JZ (wZ v)):=by
 refine bA (af:=a36) rfl (by simp [a36]) dd ?_
 (repeat (first|simp only [↓QA,QB,Nat.reduceLT,reduceIte,Nat.reduceEqDiff,Nat.reduceAdd,Nat.reduceLeDiff,Nat.reduceMul,Nat.reduceBEq,bD,a36]|refine rd0 rfl ?_))
 ((first|refine aF (kN v hf) rfl dd ?_|refine aH (kN v hf) rfl dd ?_);(repeat (first|simp only [↓QA,QB,Nat.reduceLT,reduceIte,Nat.reduceEqDiff,Nat.reduceAdd,Nat.reduceLeDiff,Nat.reduceMul,Nat.reduceBEq,bD,nQ]|refine rd0 rfl ?_)))
 cases h0:((cF v).2.2==0)
 ·have h0':(cF v).2.2≠0:=by simpa using h0
  have hwo:wZ v=([],(cF v).2.2):=if_neg h0'
  rw [hwo]
  (repeat (first|simp only [↓QA,QB,Nat.reduceLT,reduceIte,Nat.reduceEqDiff,Nat.reduceAdd,Nat.reduceLeDiff,Nat.reduceMul,Nat.reduceBEq,bD,h0,JZ]|refine rd0 rfl ?_))
  try rfl
 ·have h0':(cF v).2.2=0:=by simpa using h0
  have hwo:wZ v=(yO v,0):=if_pos h0'
  have hv:=g7 h0'
  have hnl:=hv.nse
  have hwf:=FV hv
  rw [←YL _ _ (by omega)] at hwf
  rw [hwo]
  obtain ⟨W,hW⟩:∃ W,yO v=W:=⟨_,rfl⟩
  rw [hW] at hwf ⊢
  obtain ⟨n,hn⟩:∃ n,v.seen.length=n:=⟨_,rfl⟩
  rw [hn] at hwf hnl
  have hp:2^n≤2^3:=Nat.pow_le_pow_right (by omega) hnl
  have hshl:=sQ n (by omega)
  obtain ⟨P,hP⟩:∃ P,2^n=P:=⟨_,rfl⟩
  have hbl:∀ s,s<P→ButIs s (lst n s):=fun s hs=>R7 (by omega) (by omega)
  rw [hP] at hp hshl hwf
  obtain ⟨q,hq⟩:∃ q,yF v=q:=⟨_,rfl⟩
  have hqd:∀ l,(!(bZ v l).isEmpty)=q l:=fun l=>by rw [←hq];rfl
  rw [hq] at hwf
  (repeat (first|simp only [↓QA,QB,Nat.reduceLT,reduceIte,Nat.reduceEqDiff,Nat.reduceAdd,Nat.reduceLeDiff,Nat.reduceMul,Nat.reduceBEq,bD,h0,hn,hshl]|refine rd0 rfl ?_))
  refine dJ (S:=Nat×Option (List Int)) (0,none) (fun x=>x.1≤P∧lF q n (P-x.1) x.1 x.2=some W∧(x.2.getD []).length≤n) (fun x=>P-x.1)
   (fun x=>[(1,.ptr 0 0),(2,ints (x.2.getD [])),(4,.bool x.2.isSome),(19,.int .i64 P),(20,.int .i64 x.1)])
   (fun x=>[.cells (aB v)]) ⟨by simp,by simpa using hwf,by simp⟩ (by simp [aB,ints]) ?_ fun x hx=>?_
  ·try simp only [aD,QE,Nat.reduceLT,reduceIte,Nat.reduceEqDiff,Nat.reduceAdd,Nat.reduceLeDiff,Nat.reduceMul,Nat.reduceBEq,bD,ints,Option.getD_none,Option.isSome_none]
   try simp [clr,clrs]
  ·obtain ⟨s,o⟩:=x
   obtain ⟨hs,hfo,hol⟩:=hx
   simp only at hs hfo hol
   (repeat (first|simp only [↓QA,QB,Nat.reduceLT,reduceIte,Nat.reduceEqDiff,Nat.reduceAdd,Nat.reduceLeDiff,Nat.reduceMul,Nat.reduceBEq,bD,V1]|refine rd0 rfl ?_))
   refine aI (fun h=>?_) fun h=>?_
   ·have hs1:s<P:=by simpa using h
    have hw:=cM hs1 (by omega)
    have hll:=I5 n s
    have hlk:=DK [.cells (aB v)] v s
    have hso:=A6 (RB [.cells (aB v)] v s) hv (hbl s hs1) []
    have e0:tEs v []=[]:=rfl
    rw [hqd] at hso
    have hlo:=rM s n (by omega) (by omega)
    rw [show P-s=(P-(s+1))+1 by omega] at hfo
    simp only [lF] at hfo
    obtain ⟨L,hL⟩:∃ L,lst n s=L:=⟨_,rfl⟩
    rw [hL] at hfo hll hlo hso
    obtain ⟨qL,hqL⟩:∃ x,q L=x:=⟨_,rfl⟩
    rw [hqL] at hso
    simp only [xJ,yD,e0] at hso hlk
    try simp only [↓QA,QB,Nat.reduceLT,reduceIte,Nat.reduceEqDiff,Nat.reduceAdd,Nat.reduceLeDiff,Nat.reduceMul,Nat.reduceBEq,bD,List.cons_append,List.nil_append,List.length_cons,List.length_nil] at hso hlk
    (repeat (first|simp only [↓QA,QB,Nat.reduceLT,reduceIte,Nat.reduceEqDiff,Nat.reduceAdd,Nat.reduceLeDiff,Nat.reduceMul,Nat.reduceBEq,bD,hn,Option.getD_some]|refine rd0 rfl ?_))
    ((first|refine aF (hlo) rfl dd ?_|refine aH (hlo) rfl dd ?_);(repeat (first|simp only [↓QA,QB,Nat.reduceLT,reduceIte,Nat.reduceEqDiff,Nat.reduceAdd,Nat.reduceLeDiff,Nat.reduceMul,Nat.reduceBEq,bD]|refine rd0 rfl ?_)))
    cases o with
    |none =>
     have hst:iF q none L=if q L=true then some L else none:=rfl
     (repeat (first|simp only [↓QA,QB,Nat.reduceLT,reduceIte,Nat.reduceEqDiff,Nat.reduceAdd,Nat.reduceLeDiff,Nat.reduceMul,Nat.reduceBEq,bD,Option.isSome_none,Option.getD_none]|refine rd0 rfl ?_))
     refine cO hlk ?_
     (repeat (first|simp only [↓QA,QB,Nat.reduceLT,reduceIte,Nat.reduceEqDiff,Nat.reduceAdd,Nat.reduceLeDiff,Nat.reduceMul,Nat.reduceBEq,bD]|refine rd0 rfl ?_))
     refine cO hso ?_
     (repeat (first|simp only [↓QA,QB,Nat.reduceLT,reduceIte,Nat.reduceEqDiff,Nat.reduceAdd,Nat.reduceLeDiff,Nat.reduceMul,Nat.reduceBEq,bD]|refine rd0 rfl ?_))
     cases qL
     ·rw [hqL] at hst
      simp only [Bool.false_eq_true,if_false] at hst
      rw [hst] at hfo
      (repeat (first|simp only [↓QA,QB,Nat.reduceLT,reduceIte,Nat.reduceEqDiff,Nat.reduceAdd,Nat.reduceLeDiff,Nat.reduceMul,Nat.reduceBEq,bD,hw]|refine rd0 rfl ?_))
      refine ⟨(s+1,none),⟨by simp only;omega,hfo,by simp⟩,by simp only;omega,?_⟩
      try simp only [aD,QE,Nat.reduceLT,reduceIte,Nat.reduceEqDiff,Nat.reduceAdd,Nat.reduceLeDiff,Nat.reduceMul,Nat.reduceBEq,bD,hw,Option.isSome_none,Option.getD_none]
      try simp [ints,aN]
     ·rw [hqL] at hst
      simp only [if_true] at hst
      rw [hst] at hfo
      (repeat (first|simp only [↓QA,QB,Nat.reduceLT,reduceIte,Nat.reduceEqDiff,Nat.reduceAdd,Nat.reduceLeDiff,Nat.reduceMul,Nat.reduceBEq,bD,hw]|refine rd0 rfl ?_))
      refine ⟨(s+1,some L),⟨by simp only;omega,hfo,by simpa using hll⟩,by simp only;omega,?_⟩
      try simp only [aD,QE,Nat.reduceLT,reduceIte,Nat.reduceEqDiff,Nat.reduceAdd,Nat.reduceLeDiff,Nat.reduceMul,Nat.reduceBEq,bD,hw,Option.isSome_some,Option.getD_some]
      try simp [ints,aN]
    |some b =>
     simp only [Option.getD_some] at hol
     simp only [Option.isSome_some,rI]
     (repeat (first|simp only [↓QA,QB,Nat.reduceLT,reduceIte,Nat.reduceEqDiff,Nat.reduceAdd,Nat.reduceLeDiff,Nat.reduceMul,Nat.reduceBEq,bD,Option.isSome_some,Option.getD_some]|refine rd0 rfl ?_))
     have fin:∀ (hfw:fO b L=false),iF q (some b) L=if q L=true then some L else some b:=fun hfw=>by simp only [iF,hfw];rfl
     cases h1:decide ((b.length:Int)<(L.length:Int))
     ·have h1':¬b.length<L.length:=by simpa using h1
      (repeat (first|simp only [↓QA,QB,Nat.reduceLT,reduceIte,Nat.reduceEqDiff,Nat.reduceAdd,Nat.reduceLeDiff,Nat.reduceMul,Nat.reduceBEq,bD,Option.getD_some,h1]|refine rd0 rfl ?_))
      cases h2:((L.length:Int)==(b.length:Int))
      ·have h2':¬b.length=L.length:=by intro h;rw [h] at h2;simp at h2
       have hst:=fin (by simp [fO,h1',h2'])
       (repeat (first|simp only [↓QA,QB,Nat.reduceLT,reduceIte,Nat.reduceEqDiff,Nat.reduceAdd,Nat.reduceLeDiff,Nat.reduceMul,Nat.reduceBEq,bD,h2]|refine rd0 rfl ?_))
       refine cO hlk ?_
       (repeat (first|simp only [↓QA,QB,Nat.reduceLT,reduceIte,Nat.reduceEqDiff,Nat.reduceAdd,Nat.reduceLeDiff,Nat.reduceMul,Nat.reduceBEq,bD]|refine rd0 rfl ?_))
       refine cO hso ?_
       (repeat (first|simp only [↓QA,QB,Nat.reduceLT,reduceIte,Nat.reduceEqDiff,Nat.reduceAdd,Nat.reduceLeDiff,Nat.reduceMul,Nat.reduceBEq,bD]|refine rd0 rfl ?_))
       cases qL
       ·rw [hqL] at hst
        simp only [Bool.false_eq_true,if_false] at hst
        rw [hst] at hfo
        (repeat (first|simp only [↓QA,QB,Nat.reduceLT,reduceIte,Nat.reduceEqDiff,Nat.reduceAdd,Nat.reduceLeDiff,Nat.reduceMul,Nat.reduceBEq,bD,hw]|refine rd0 rfl ?_))
        refine ⟨(s+1,some b),⟨by simp only;omega,hfo,by simpa using hol⟩,by simp only;omega,?_⟩
        try simp only [aD,QE,Nat.reduceLT,reduceIte,Nat.reduceEqDiff,Nat.reduceAdd,Nat.reduceLeDiff,Nat.reduceMul,Nat.reduceBEq,bD,hw,Option.isSome_some,Option.getD_some]
        try simp [ints,aN]
       ·rw [hqL] at hst
        simp only [if_true] at hst
        rw [hst] at hfo
        (repeat (first|simp only [↓QA,QB,Nat.reduceLT,reduceIte,Nat.reduceEqDiff,Nat.reduceAdd,Nat.reduceLeDiff,Nat.reduceMul,Nat.reduceBEq,bD,hw]|refine rd0 rfl ?_))
        refine ⟨(s+1,some L),⟨by simp only;omega,hfo,by simpa using hll⟩,by simp only;omega,?_⟩
        try simp only [aD,QE,Nat.reduceLT,reduceIte,Nat.reduceEqDiff,Nat.reduceAdd,Nat.reduceLeDiff,Nat.reduceMul,Nat.reduceBEq,bD,hw,Option.isSome_some,Option.getD_some]
        try simp [ints,aN]
      ·have h2':b.length=L.length:=by simp at h2;omega
       (repeat (first|simp only [↓QA,QB,Nat.reduceLT,reduceIte,Nat.reduceEqDiff,Nat.reduceAdd,Nat.reduceLeDiff,Nat.reduceMul,Nat.reduceBEq,bD,Option.getD_some,h2]|refine rd0 rfl ?_))
       ((first|refine aF (IT L b (by omega) (by omega)) rfl dd ?_|refine aH (IT L b (by omega) (by omega)) rfl dd ?_);(repeat (first|simp only [↓QA,QB,Nat.reduceLT,reduceIte,Nat.reduceEqDiff,Nat.reduceAdd,Nat.reduceLeDiff,Nat.reduceMul,Nat.reduceBEq,bD,A3,Option.getD_some]|refine rd0 rfl ?_)))
       cases h3:less b L
       ·have hst:=fin (by simp [fO,h2',h3])
        (repeat (first|simp only [↓QA,QB,Nat.reduceLT,reduceIte,Nat.reduceEqDiff,Nat.reduceAdd,Nat.reduceLeDiff,Nat.reduceMul,Nat.reduceBEq,bD,h3]|refine rd0 rfl ?_))
        refine cO hlk ?_
        (repeat (first|simp only [↓QA,QB,Nat.reduceLT,reduceIte,Nat.reduceEqDiff,Nat.reduceAdd,Nat.reduceLeDiff,Nat.reduceMul,Nat.reduceBEq,bD]|refine rd0 rfl ?_))
        refine cO hso ?_
        (repeat (first|simp only [↓QA,QB,Nat.reduceLT,reduceIte,Nat.reduceEqDiff,Nat.reduceAdd,Nat.reduceLeDiff,Nat.reduceMul,Nat.reduceBEq,bD]|refine rd0 rfl ?_))
        cases qL
        ·rw [hqL] at hst
         simp only [Bool.false_eq_true,if_false] at hst
         rw [hst] at hfo
         (repeat (first|simp only [↓QA,QB,Nat.reduceLT,reduceIte,Nat.reduceEqDiff,Nat.reduceAdd,Nat.reduceLeDiff,Nat.reduceMul,Nat.reduceBEq,bD,hw]|refine rd0 rfl ?_))
         refine ⟨(s+1,some b),⟨by simp only;omega,hfo,by simpa using hol⟩,by simp only;omega,?_⟩
         try simp only [aD,QE,Nat.reduceLT,reduceIte,Nat.reduceEqDiff,Nat.reduceAdd,Nat.reduceLeDiff,Nat.reduceMul,Nat.reduceBEq,bD,hw,Option.isSome_some,Option.getD_some]
         try simp [ints,aN]
        ·rw [hqL] at hst
         simp only [if_true] at hst
         rw [hst] at hfo
         (repeat (first|simp only [↓QA,QB,Nat.reduceLT,reduceIte,Nat.reduceEqDiff,Nat.reduceAdd,Nat.reduceLeDiff,Nat.reduceMul,Nat.reduceBEq,bD,hw]|refine rd0 rfl ?_))
         refine ⟨(s+1,some L),⟨by simp only;omega,hfo,by simpa using hll⟩,by simp only;omega,?_⟩
         try simp only [aD,QE,Nat.reduceLT,reduceIte,Nat.reduceEqDiff,Nat.reduceAdd,Nat.reduceLeDiff,Nat.reduceMul,Nat.reduceBEq,bD,hw,Option.isSome_some,Option.getD_some]
         try simp [ints,aN]
       ·have hfw:fO b L=true:=by simp [fO,h2',h3]
        have hst:iF q (some b) L=some b:=by simp only [iF,hfw,if_true]
        rw [hst] at hfo
        (repeat (first|simp only [↓QA,QB,Nat.reduceLT,reduceIte,Nat.reduceEqDiff,Nat.reduceAdd,Nat.reduceLeDiff,Nat.reduceMul,Nat.reduceBEq,bD,h3,hw]|refine rd0 rfl ?_))
        refine ⟨(s+1,some b),⟨by simp only;omega,hfo,by simpa using hol⟩,by simp only;omega,?_⟩
        try simp only [aD,QE,Nat.reduceLT,reduceIte,Nat.reduceEqDiff,Nat.reduceAdd,Nat.reduceLeDiff,Nat.reduceMul,Nat.reduceBEq,bD,hw,Option.isSome_some,Option.getD_some]
        try simp [ints,aN]
     ·have h1':b.length<L.length:=by simpa using h1
      have h2':¬b.length=L.length:=by omega
      have hfw:fO b L=true:=by simp [fO,h1',h2']
      have hst:iF q (some b) L=some b:=by simp only [iF,hfw,if_true]
      rw [hst] at hfo
      (repeat (first|simp only [↓QA,QB,Nat.reduceLT,reduceIte,Nat.reduceEqDiff,Nat.reduceAdd,Nat.reduceLeDiff,Nat.reduceMul,Nat.reduceBEq,bD,h1,hw]|refine rd0 rfl ?_))
      refine ⟨(s+1,some b),⟨by simp only;omega,hfo,by simpa using hol⟩,by simp only;omega,?_⟩
      try simp only [aD,QE,Nat.reduceLT,reduceIte,Nat.reduceEqDiff,Nat.reduceAdd,Nat.reduceLeDiff,Nat.reduceMul,Nat.reduceBEq,bD,hw,Option.isSome_some,Option.getD_some]
      try simp [ints,aN]
   ·have hs1:s=P:=by simp at h;omega
    rw [hs1,Nat.sub_self] at hfo
    simp only [lF] at hfo
    subst hfo
    (repeat (first|simp only [↓QA,QB,Nat.reduceLT,reduceIte,Nat.reduceEqDiff,Nat.reduceAdd,Nat.reduceLeDiff,Nat.reduceMul,Nat.reduceBEq,bD,JZ,Option.getD_some]|refine rd0 rfl ?_))
    try try simp only [QS,QC,Nat.reduceLT,reduceIte,Nat.reduceEqDiff,Nat.reduceAdd,Nat.reduceLeDiff,Nat.reduceMul,Nat.reduceBEq,bD]
end Go.Am.Room
set_option maxRecDepth 8000
namespace Go.Am.Room
def SR:=And.intro @aQ (@List.length_append.{0})
theorem kG (a b:Int):eC T 40 [.int .i64 a,.int .i64 b] (o4 ⟨a,b⟩):=by
 refine bA (af:=a40) rfl (by simp [a40]) dd ?_
 (repeat (first|simp only [↓QA,QB,Nat.reduceLT,reduceIte,Nat.reduceEqDiff,Nat.reduceAdd,Nat.reduceLeDiff,Nat.reduceMul,Nat.reduceBEq,SR,a40]|refine rd0 rfl ?_))
def u8s (l:List Int):AV:=.lit (l.map (.int .u8)) false none
theorem N8 (l:List Int):kQ (u8s l):=iD (c9 .u8) l
instance (l:List Int):Dat (u8s l):=⟨N8 l⟩
end Go.Am.Room
set_option maxRecDepth 8000
namespace Go.Am.Room
def fA:=And.intro @aZ (And.intro @aK (And.intro @aR (And.intro @aT (And.intro @aS (And.intro @aQ (And.intro @aY (And.intro @aW (And.intro @aV (And.intro @dL (@List.length_append.{0}))))))))))
theorem AU (p n:Int):eC T 39 [.int .i64 p,.int .i64 n] (dB ⟨p,n⟩):=by
 refine bA (af:=a39) rfl (by simp [a39]) dd ?_
 (repeat (first|simp only [↓QA,QB,Nat.reduceLT,reduceIte,Nat.reduceEqDiff,Nat.reduceAdd,Nat.reduceLeDiff,Nat.reduceMul,Nat.reduceBEq,fA,a39]|refine rd0 rfl ?_))
theorem uN (o:Bool) (l:List Seen):eC T 38 [.bool o,.lit (l.map dB) false none] (dH (exN o l)):=by
 refine bA (af:=a38) rfl (by simp [a38]) dd ?_
 (repeat (first|simp only [↓QA,QB,Nat.reduceLT,reduceIte,Nat.reduceEqDiff,Nat.reduceAdd,Nat.reduceLeDiff,Nat.reduceMul,Nat.reduceBEq,fA,a38]|refine rd0 rfl ?_))
 ((first|refine aF (kG 5 6) rfl dd ?_|refine aH (kG 5 6) rfl dd ?_);(repeat (first|simp only [↓QA,QB,Nat.reduceLT,reduceIte,Nat.reduceEqDiff,Nat.reduceAdd,Nat.reduceLeDiff,Nat.reduceMul,Nat.reduceBEq,fA]|refine rd0 rfl ?_)))
 ((first|refine aF (kG 4 4) rfl dd ?_|refine aH (kG 4 4) rfl dd ?_);(repeat (first|simp only [↓QA,QB,Nat.reduceLT,reduceIte,Nat.reduceEqDiff,Nat.reduceAdd,Nat.reduceLeDiff,Nat.reduceMul,Nat.reduceBEq,fA]|refine rd0 rfl ?_)))
 ((first|refine aF (kG 12 12) rfl dd ?_|refine aH (kG 12 12) rfl dd ?_);(repeat (first|simp only [↓QA,QB,Nat.reduceLT,reduceIte,Nat.reduceEqDiff,Nat.reduceAdd,Nat.reduceLeDiff,Nat.reduceMul,Nat.reduceBEq,fA]|refine rd0 rfl ?_)))
 ((first|refine aF (kG 3 3) rfl dd ?_|refine aH (kG 3 3) rfl dd ?_);(repeat (first|simp only [↓QA,QB,Nat.reduceLT,reduceIte,Nat.reduceEqDiff,Nat.reduceAdd,Nat.reduceLeDiff,Nat.reduceMul,Nat.reduceBEq,fA]|refine rd0 rfl ?_)))
 cases o
 ·(repeat (first|simp only [↓QA,QB,Nat.reduceLT,reduceIte,Nat.reduceEqDiff,Nat.reduceAdd,Nat.reduceLeDiff,Nat.reduceMul,Nat.reduceBEq,fA,exN,QN,GQ,List.map_cons,List.map_nil]|refine rd0 rfl ?_))
  simp [IY,jH,aG,qN,aM,AV.cells,AV.cell,xS,JA,ON,M8,OR,HC,aV,ints]
 ·have i0:(0:Int)≤0∧(0:Int)<((4:Nat):Int):=by decide
  have i2:(0:Int)≤2∧(2:Int)<((4:Nat):Int):=by decide
  (repeat (first|simp only [↓QA,QB,Nat.reduceLT,reduceIte,Nat.reduceEqDiff,Nat.reduceAdd,Nat.reduceLeDiff,Nat.reduceMul,Nat.reduceBEq,fA,exN,QN,GQ,List.map_cons,List.map_nil,i0,i2,List.flatMap_cons,List.flatMap_nil,AV.cells,Int.toNat_zero,show (2:Int).toNat=2 from rfl]|refine rd0 rfl ?_))
  simp [IY,jH,aG,qN,aM,AV.cells,AV.cell,xS,JA,ON,M8,OR,HC,aV,ints]
theorem dQ (o:Bool) (l:List Seen) (h:l.length≤100:=by decide):Fits (exN o l):=⟨by simp [exN],by simp [exN],by simp [exN];omega,fun k hk=>by
 simp only [exN,List.mem_cons,List.not_mem_nil,or_false] at hk
 rcases hk with rfl|rfl<;>decide,fun k hk=>by
 simp only [exN,List.mem_cons,List.not_mem_nil,or_false] at hk
 rcases hk with rfl|rfl<;>decide⟩
theorem uQ (v:Net) (hf:Fits v):eC T 41 [dH v] (.bool (decide ((cF v).2.2=0))):=by
 refine bA (af:=a41) rfl (by simp [a41]) dd ?_
 (repeat (first|simp only [↓QA,QB,Nat.reduceLT,reduceIte,Nat.reduceEqDiff,Nat.reduceAdd,Nat.reduceLeDiff,Nat.reduceMul,Nat.reduceBEq,fA,a41]|refine rd0 rfl ?_))
 ((first|refine aF (wI v hf) rfl dd ?_|refine aH (wI v hf) rfl dd ?_);(repeat (first|simp only [↓QA,QB,Nat.reduceLT,reduceIte,Nat.reduceEqDiff,Nat.reduceAdd,Nat.reduceLeDiff,Nat.reduceMul,Nat.reduceBEq,fA,nQ]|refine rd0 rfl ?_)))
 try rfl
 try (simp;rfl)
theorem S4 (a b:List (List Int)) (ha:a.length<9223372036854775808) (hb:b.length<9223372036854775808) (hl:∀ r∈a,r.length<9223372036854775808) (hm:∀ r∈b,r.length<9223372036854775808):eC T 21 [dD a,dD b] (.bool (decide (a=b))):=by
 refine bA (af:=a21) rfl (by simp [a21]) dd ?_
 have hlb:=TE a.length b.length
 (repeat (first|simp only [↓QA,QB,Nat.reduceLT,reduceIte,Nat.reduceEqDiff,Nat.reduceAdd,Nat.reduceLeDiff,Nat.reduceMul,Nat.reduceBEq,fA,a21,bF]|refine rd0 rfl ?_))
 refine dJ (S:=Nat×Bool) (0,decide (a.length=b.length)) (fun x=>x.1≤a.length∧(x.2=true→a.length=b.length∧a.take x.1=b.take x.1)∧(x.2=false→a≠b)) (fun x=>a.length+1-x.1-(if x.2=true then 0 else 1))
  (fun x=>[(0,dD a),(1,dD b),(5,.bool x.2),(6,.int .i64 x.1)]) (fun _=>[]) ⟨by simp,by simp,fun h e=>by rw [e] at h;simp at h⟩ rfl ?_ fun x hx=>?_
 ·try simp only [aD,QE,Nat.reduceLT,reduceIte,Nat.reduceEqDiff,Nat.reduceAdd,Nat.reduceLeDiff,Nat.reduceMul,Nat.reduceBEq,fA,bF,hlb]
  try simp
 ·obtain ⟨k,o⟩:=x
  obtain ⟨hk,h1,h2⟩:=hx
  simp only at hk h1 h2
  (repeat (first|simp only [↓QA,QB,Nat.reduceLT,reduceIte,Nat.reduceEqDiff,Nat.reduceAdd,Nat.reduceLeDiff,Nat.reduceMul,Nat.reduceBEq,fA,VH,bF]|refine rd0 rfl ?_))
  cases o
  ·have hne:=h2 rfl
   have:decide (a=b)=false:=by simpa using hne
   rw [this]
   (repeat (first|simp only [↓QA,QB,Nat.reduceLT,reduceIte,Nat.reduceEqDiff,Nat.reduceAdd,Nat.reduceLeDiff,Nat.reduceMul,Nat.reduceBEq,fA]|refine rd0 rfl ?_))
  ·obtain ⟨hle,htk⟩:=h1 rfl
   (repeat (first|simp only [↓QA,QB,Nat.reduceLT,reduceIte,Nat.reduceEqDiff,Nat.reduceAdd,Nat.reduceLeDiff,Nat.reduceMul,Nat.reduceBEq,fA,bF]|refine rd0 rfl ?_))
   refine aI (fun h=>?_) fun h=>?_
   ·have hk1:k<a.length:=by simpa using h
    have hk2:k<b.length:=by omega
    have hw:=cM hk1 ha
    have hio:=lD a[k] b[k] (hl _ (List.getElem_mem hk1)) (hm _ (List.getElem_mem hk2))
    (repeat (first|simp only [↓QA,QB,Nat.reduceLT,reduceIte,Nat.reduceEqDiff,Nat.reduceAdd,Nat.reduceLeDiff,Nat.reduceMul,Nat.reduceBEq,fA,hk1,hk2,bF]|refine rd0 rfl ?_))
    ((first|refine aF (hio) rfl dd ?_|refine aH (hio) rfl dd ?_);(repeat (first|simp only [↓QA,QB,Nat.reduceLT,reduceIte,Nat.reduceEqDiff,Nat.reduceAdd,Nat.reduceLeDiff,Nat.reduceMul,Nat.reduceBEq,fA,hk1,hk2]|refine rd0 rfl ?_)))
    refine ⟨(k+1,decide (a[k]=b[k])),⟨by simp only;omega,fun q=>⟨hle,?_⟩,fun q e=>?_⟩,?_,?_⟩
    ·rw [List.take_succ_eq_append_getElem hk1,List.take_succ_eq_append_getElem hk2,htk]
     simp only [decide_eq_true_eq] at q
     rw [q]
    ·subst e
     simp at q
    ·simp only;split<;>omega
    ·try simp only [aD,QE,Nat.reduceLT,reduceIte,Nat.reduceEqDiff,Nat.reduceAdd,Nat.reduceLeDiff,Nat.reduceMul,Nat.reduceBEq,fA,hw,bF]
   ·have hk1:k=a.length:=by simp at h;omega
    have:a=b:=by
     rw [hk1,List.take_length] at htk
     rw [htk,hle,List.take_length]
    rw [decide_eq_true this]
    (repeat (first|simp only [↓QA,QB,Nat.reduceLT,reduceIte,Nat.reduceEqDiff,Nat.reduceAdd,Nat.reduceLeDiff,Nat.reduceMul,Nat.reduceBEq,fA]|refine rd0 rfl ?_))
end Go.Am.Room
set_option maxRecDepth 8000
namespace Go.Am.Room
def cW:=And.intro @aZ (And.intro @aK (And.intro @aR (And.intro @aT (And.intro @aS (And.intro @aQ (And.intro @aY (And.intro @aW (And.intro @aV (And.intro @dL (And.intro @List.length_append.{0} (@bF)))))))))))
theorem BV (a:List (List Int)) (h:a.length≤1000∧∀ r∈a,r.length≤4):eC T 21 [dD a,dD a] (.bool true):=by
 have:=S4 a a (by omega) (by omega) (fun r hr=>by have:=h.2 r hr;omega) (fun r hr=>by have:=h.2 r hr;omega)
 simpa using this
set_option maxHeartbeats 1000000 in
theorem xU:eC T 22 [] (.bool true):=by
 refine bA (af:=a22) rfl (by simp [a22]) fE ?_
 (repeat (first|simp only [↓QA,QB,Nat.reduceLT,reduceIte,Nat.reduceEqDiff,Nat.reduceAdd,Nat.reduceLeDiff,Nat.reduceMul,Nat.reduceBEq,cW,a22]|refine rd0 rfl ?_))
 refine d5 (uN false []) (by simp [clr,clrs]) (by simp [okV,okVs]) ?_
 (repeat (first|simp only [↓QA,QB,Nat.reduceLT,reduceIte,Nat.reduceEqDiff,Nat.reduceAdd,Nat.reduceLeDiff,Nat.reduceMul,Nat.reduceBEq,cW]|refine rd0 rfl ?_))
 refine d5 (uN true []) (by simp [clr,clrs]) (by simp [okV,okVs]) ?_
 (repeat (first|simp only [↓QA,QB,Nat.reduceLT,reduceIte,Nat.reduceEqDiff,Nat.reduceAdd,Nat.reduceLeDiff,Nat.reduceMul,Nat.reduceBEq,cW]|refine rd0 rfl ?_))
 ((first|refine aF (AU 0 (-1)) rfl dd ?_|refine aH (AU 0 (-1)) rfl dd ?_);(repeat (first|simp only [↓QA,QB,Nat.reduceLT,reduceIte,Nat.reduceEqDiff,Nat.reduceAdd,Nat.reduceLeDiff,Nat.reduceMul,Nat.reduceBEq,cW]|refine rd0 rfl ?_)))
 ((first|refine aF (AU 1 15) rfl dd ?_|refine aH (AU 1 15) rfl dd ?_);(repeat (first|simp only [↓QA,QB,Nat.reduceLT,reduceIte,Nat.reduceEqDiff,Nat.reduceAdd,Nat.reduceLeDiff,Nat.reduceMul,Nat.reduceBEq,cW]|refine rd0 rfl ?_)))
 refine d5 (uN true [⟨0,-1⟩,⟨1,15⟩]) (by simp [clr,clrs,dB]) (by simp [okV,okVs]) ?_
 (repeat (first|simp only [↓QA,QB,Nat.reduceLT,reduceIte,Nat.reduceEqDiff,Nat.reduceAdd,Nat.reduceLeDiff,Nat.reduceMul,Nat.reduceBEq,cW]|refine rd0 rfl ?_))
 ((first|refine aF (AU 0 (-1)) rfl dd ?_|refine aH (AU 0 (-1)) rfl dd ?_);(repeat (first|simp only [↓QA,QB,Nat.reduceLT,reduceIte,Nat.reduceEqDiff,Nat.reduceAdd,Nat.reduceLeDiff,Nat.reduceMul,Nat.reduceBEq,cW]|refine rd0 rfl ?_)))
 refine d5 (uN true [⟨0,-1⟩]) (by simp [clr,clrs,dB]) (by simp [okV,okVs]) ?_
 (repeat (first|simp only [↓QA,QB,Nat.reduceLT,reduceIte,Nat.reduceEqDiff,Nat.reduceAdd,Nat.reduceLeDiff,Nat.reduceMul,Nat.reduceBEq,cW]|refine rd0 rfl ?_))
 ((first|refine aF (jF exH (dQ _ _) 3) rfl dd ?_|refine aH (jF exH (dQ _ _) 3) rfl dd ?_);(repeat (first|simp only [↓QA,QB,Nat.reduceLT,reduceIte,Nat.reduceEqDiff,Nat.reduceAdd,Nat.reduceLeDiff,Nat.reduceMul,Nat.reduceBEq,cW,x1,qJ]|refine rd0 rfl ?_)))
 ((first|refine aF (lS exH (dQ _ _) 1) rfl dd ?_|refine aH (lS exH (dQ _ _) 1) rfl dd ?_);(repeat (first|simp only [↓QA,QB,Nat.reduceLT,reduceIte,Nat.reduceEqDiff,Nat.reduceAdd,Nat.reduceLeDiff,Nat.reduceMul,Nat.reduceBEq,cW,x2,qW]|refine rd0 rfl ?_)))
 ((first|refine aF (lS exK (dQ _ _) 1) rfl dd ?_|refine aH (lS exK (dQ _ _) 1) rfl dd ?_);(repeat (first|simp only [↓QA,QB,Nat.reduceLT,reduceIte,Nat.reduceEqDiff,Nat.reduceAdd,Nat.reduceLeDiff,Nat.reduceMul,Nat.reduceBEq,cW,x3,qW]|refine rd0 rfl ?_)))
 ((first|refine aF (lS exT (dQ _ _) 0) rfl dd ?_|refine aH (lS exT (dQ _ _) 0) rfl dd ?_);(repeat (first|simp only [↓QA,QB,Nat.reduceLT,reduceIte,Nat.reduceEqDiff,Nat.reduceAdd,Nat.reduceLeDiff,Nat.reduceMul,Nat.reduceBEq,cW,x4,qW]|refine rd0 rfl ?_)))
 ((first|refine aF (FT exK (dQ _ _)) rfl dd ?_|refine aH (FT exK (dQ _ _)) rfl dd ?_);(repeat (first|simp only [↓QA,QB,Nat.reduceLT,reduceIte,Nat.reduceEqDiff,Nat.reduceAdd,Nat.reduceLeDiff,Nat.reduceMul,Nat.reduceBEq,cW,x5,qU]|refine rd0 rfl ?_)))
 ((first|refine aF (lP exK (dQ _ _)) rfl dd ?_|refine aH (lP exK (dQ _ _)) rfl dd ?_);(repeat (first|simp only [↓QA,QB,Nat.reduceLT,reduceIte,Nat.reduceEqDiff,Nat.reduceAdd,Nat.reduceLeDiff,Nat.reduceMul,Nat.reduceBEq,cW,x6,zM]|refine rd0 rfl ?_)))
 ((first|refine aF (lP exH (dQ _ _)) rfl dd ?_|refine aH (lP exH (dQ _ _)) rfl dd ?_);(repeat (first|simp only [↓QA,QB,Nat.reduceLT,reduceIte,Nat.reduceEqDiff,Nat.reduceAdd,Nat.reduceLeDiff,Nat.reduceMul,Nat.reduceBEq,cW,x7,zM]|refine rd0 rfl ?_)))
 ((first|refine aF (FL exK (dQ _ _)) rfl dd ?_|refine aH (FL exK (dQ _ _)) rfl dd ?_);(repeat (first|simp only [↓QA,QB,Nat.reduceLT,reduceIte,Nat.reduceEqDiff,Nat.reduceAdd,Nat.reduceLeDiff,Nat.reduceMul,Nat.reduceBEq,cW,x8,t9]|refine rd0 rfl ?_)))
 ((first|refine aF (EI exH (dQ _ _)) rfl dd ?_|refine aH (EI exH (dQ _ _)) rfl dd ?_);(repeat (first|simp only [↓QA,QB,Nat.reduceLT,reduceIte,Nat.reduceEqDiff,Nat.reduceAdd,Nat.reduceLeDiff,Nat.reduceMul,Nat.reduceBEq,cW,x9,qU]|refine rd0 rfl ?_)))
 ((first|refine aF (lR exH (dQ _ _)) rfl dd ?_|refine aH (lR exH (dQ _ _)) rfl dd ?_);(repeat (first|simp only [↓QA,QB,Nat.reduceLT,reduceIte,Nat.reduceEqDiff,Nat.reduceAdd,Nat.reduceLeDiff,Nat.reduceMul,Nat.reduceBEq,cW,x10,sX]|refine rd0 rfl ?_)))
 ((first|refine aF (B8 exS (dQ _ _)) rfl dd ?_|refine aH (B8 exS (dQ _ _)) rfl dd ?_);(repeat (first|simp only [↓QA,QB,Nat.reduceLT,reduceIte,Nat.reduceEqDiff,Nat.reduceAdd,Nat.reduceLeDiff,Nat.reduceMul,Nat.reduceBEq,cW,x11,JZ]|refine rd0 rfl ?_)))
 ((first|refine aF (lP exS (dQ _ _)) rfl dd ?_|refine aH (lP exS (dQ _ _)) rfl dd ?_);(repeat (first|simp only [↓QA,QB,Nat.reduceLT,reduceIte,Nat.reduceEqDiff,Nat.reduceAdd,Nat.reduceLeDiff,Nat.reduceMul,Nat.reduceBEq,cW,x12,zM]|refine rd0 rfl ?_)))
 refine eP (BV [[3,2],[3,1,0]] (by simp)) (by simp [clr,clrs,ints,dD]) (by simp [okV,okVs,ints,dD]) ?_
 (repeat (first|simp only [↓QA,QB,Nat.reduceLT,reduceIte,Nat.reduceEqDiff,Nat.reduceAdd,Nat.reduceLeDiff,Nat.reduceMul,Nat.reduceBEq,cW]|refine rd0 rfl ?_))
 ((first|refine aF (kG 14 16) rfl dd ?_|refine aH (kG 14 16) rfl dd ?_);(repeat (first|simp only [↓QA,QB,Nat.reduceLT,reduceIte,Nat.reduceEqDiff,Nat.reduceAdd,Nat.reduceLeDiff,Nat.reduceMul,Nat.reduceBEq,cW,List.map_nil,List.length_nil,show (((0:Nat):Int)==0)=true from rfl]|refine rd0 rfl ?_)))
 ((first|refine d5 (lD [0,1] [0,1] (by simp) (by simp)) (by simp [clr,clrs,ints]) (by simp [okV,okVs]) ?_|refine eP (lD [0,1] [0,1] (by simp) (by simp)) (by simp [clr,clrs,ints]) (by simp [okV,okVs]) ?_);(repeat (first|simp only [↓QA,QB,Nat.reduceLT,reduceIte,Nat.reduceEqDiff,Nat.reduceAdd,Nat.reduceLeDiff,Nat.reduceMul,Nat.reduceBEq,cW,eq_self,List.map_nil,List.length_nil,show (((0:Nat):Int)==0)=true from rfl]|refine rd0 rfl ?_)))
 refine eP (BV [[2],[3,2]] (by simp)) (by simp [clr,clrs,ints,dD]) (by simp [okV,okVs,ints,dD]) ?_
 (repeat (first|simp only [↓QA,QB,Nat.reduceLT,reduceIte,Nat.reduceEqDiff,Nat.reduceAdd,Nat.reduceLeDiff,Nat.reduceMul,Nat.reduceBEq,cW]|refine rd0 rfl ?_))
 ((first|refine d5 (lD [0,1] [0,1] (by simp) (by simp)) (by simp [clr,clrs,ints]) (by simp [okV,okVs]) ?_|refine eP (lD [0,1] [0,1] (by simp) (by simp)) (by simp [clr,clrs,ints]) (by simp [okV,okVs]) ?_);(repeat (first|simp only [↓QA,QB,Nat.reduceLT,reduceIte,Nat.reduceEqDiff,Nat.reduceAdd,Nat.reduceLeDiff,Nat.reduceMul,Nat.reduceBEq,cW,eq_self,List.map_nil,List.length_nil,show (((0:Nat):Int)==0)=true from rfl]|refine rd0 rfl ?_)))
 ((first|refine d5 (lD [2] [2] (by simp) (by simp)) (by simp [clr,clrs,ints]) (by simp [okV,okVs]) ?_|refine eP (lD [2] [2] (by simp) (by simp)) (by simp [clr,clrs,ints]) (by simp [okV,okVs]) ?_);(repeat (first|simp only [↓QA,QB,Nat.reduceLT,reduceIte,Nat.reduceEqDiff,Nat.reduceAdd,Nat.reduceLeDiff,Nat.reduceMul,Nat.reduceBEq,cW,eq_self]|refine rd0 rfl ?_)))
 ((first|refine d5 (lD [1] [1] (by simp) (by simp)) (by simp [clr,clrs,ints]) (by simp [okV,okVs]) ?_|refine eP (lD [1] [1] (by simp) (by simp)) (by simp [clr,clrs,ints]) (by simp [okV,okVs]) ?_);(repeat (first|simp only [↓QA,QB,Nat.reduceLT,reduceIte,Nat.reduceEqDiff,Nat.reduceAdd,Nat.reduceLeDiff,Nat.reduceMul,Nat.reduceBEq,cW,eq_self]|refine rd0 rfl ?_)))
end Go.Am.Room
set_option maxRecDepth 8000
namespace Go.Am.Room
theorem IW {a:Int} (ha:0≤a) {n:Nat} (hn:0<n):∃ j:Nat,a.tmod (n:Int)=(j:Int)∧j<n:=by
 obtain ⟨k,rfl⟩:∃ k:Nat,a=k:=⟨a.toNat,by omega⟩
 refine ⟨k%n,?_,Nat.mod_lt _ hn⟩
 rw [Int.tmod_eq_emod_of_nonneg (by omega)]
 norm_cast
variable {α:Type}
def jD (c:α→List AV):List α→List AV
 |[]=>[]
 |y::l=>c y++jD c l
structure Cells (enc:α→AV) (c:α→List AV) (sz:Nat):Prop where
 agg:∀ x,enc x = .agg (c x)
 len:∀ x,(c x).length=sz
 one:sz≠1∧sz≠0
 cell:∀ x,(c x).all (·.cell)=true
 data:∀ x,kQ (enc x)
variable {enc:α→AV} {c:α→List AV} {sz:Nat}
theorem vS (h:Cells enc c sz):∀ l,(jD c l).length=l.length*sz
 |[]=>by simp [jD]
 |y::l=>by simp only [jD,List.length_append,h.len,List.length_cons,vS h l,Nat.add_mul];omega
theorem BX (h:Cells enc c sz):∀ l:List α,(l.map enc).flatMap AV.cells=jD c l
 |[]=>rfl
 |y::l=>by rw [List.map_cons,List.flatMap_cons,BX h l,h.agg];rfl
theorem GA (h:Cells enc c sz):∀ (l:List α) (k:Nat) (hk:k<l.length),((jD c l).drop (k*sz)).take sz=c l[k]
 |[],k,hk=>by simp at hk
 |y::l,0,hk=>by
  simp only [jD,Nat.zero_mul,List.drop_zero,List.getElem_cons_zero]
  rw [←h.len y,List.take_left]
 |y::l,k+1,hk=>by
  have:=GA h l k (by simpa using hk)
  have e:(k+1)*sz=(c y).length+k*sz:=by rw [h.len,Nat.add_mul];omega
  simp only [jD,e,List.getElem_cons_succ]
  rw [List.drop_append,List.drop_eq_nil_of_le (by omega),List.nil_append,Nat.add_sub_cancel_left]
  exact this
theorem B2 (h:Cells enc c sz):∀ (l:List α) (k:Nat) (z:α),k<l.length→(jD c l).take (k*sz)++c z++(jD c l).drop (k*sz+sz)=jD c (l.set k z)
 |[],k,z,hk=>by simp at hk
 |y::l,0,z,hk=>by
  simp only [jD,Nat.zero_mul,List.take_zero,List.nil_append,Nat.zero_add,List.set_cons_zero]
  rw [←h.len y,List.drop_left]
 |y::l,k+1,z,hk=>by
  have:=B2 h l k z (by simpa using hk)
  have e:(k+1)*sz=(c y).length+k*sz:=by rw [h.len,Nat.add_mul];omega
  have e2:(k+1)*sz+sz=(c y).length+(k*sz+sz):=by omega
  simp only [jD,List.set_cons_succ]
  rw [e,show (c y).length+k*sz+sz=(c y).length+(k*sz+sz) by omega,List.take_append,List.drop_append,List.drop_eq_nil_of_le (by omega),List.take_of_length_le (by omega),Nat.add_sub_cancel_left,Nat.add_sub_cancel_left,List.nil_append,←this]
  simp only [List.append_assoc]
theorem yV (h:Cells enc c sz):∀ l:List α,qN sz l.length (jD c l)=l.map enc
 |[]=>rfl
 |y::l=>by
  have h1:=h.one.1
  simp only [List.length_cons,qN,jD,List.map_cons,h1,false_and,if_false]
  rw [←h.len y,List.take_left,List.drop_left,h.len y,yV h l,h.agg]
theorem AW (h:Cells enc c sz) (l:List α):aM sz (l.map enc)=true:=vN sz enc l fun y=>by
 rw [h.agg]
 simp only [cC,AV.cells,h.len,beq_self_eq_true,Bool.true_and]
 exact h.cell y
theorem EW (h:Cells enc c sz) {σ:St} {m id d:Nat} {l:List α} (hm:¬id<m) (hl:aG σ id=some (jD c l)):snap σ m (d+1) (.ref id 0 l.length sz)=some (.lit (l.map enc) false none):=by
 have hv:jH σ (.ref id 0 l.length sz)=some (l.map enc):=by
  simp only [jH,hl,vS h,Nat.zero_add,Nat.le_refl,if_true,List.drop_zero,yV h]
 have h0:=h.one.2
 have h1:decide (0<sz)=true:=by simp;omega
 have hs:snaps σ m d (l.map enc)=some (l.map enc):=snaps_ok0 σ m d _ (dE h.data l).1
 simp only [snap,hm,if_false,hv,AW h,h1,Bool.and_self,if_true,hs]
theorem FB (h:Cells enc c sz) {b:Nat} {σ:St} {l:List α} (h0:l≠[]) (hl:l.length*b≤room) (hl2:l.length≤room):m6 sz b σ (.lit [] true none) (.lit (l.map enc) false none)=some (.ref σ.length 0 l.length sz,σ++[.cells (jD c l)]):=by
 have h1:l.length≠0:=fun e=>h0 (List.length_eq_zero_iff.1 e)
 simp only [m6,jH,List.length_map,h1,if_false,List.length_nil,Nat.zero_add,List.nil_append,BX h]
 simp [wL,AW h,hl,hl2]
end Go.Am.Room
namespace Go.Am.Room
def V2 (v:Net) (l:List Seen):Net:={ v with seen:=l }
def more (v:Net) (x:Seen):Net:=V2 v (v.seen++[x])
def YR (C:List Int) (y:Seen):Seen:=⟨y.tram,fL C y.tram⟩
def told (v:Net) (C:List Int):Net:=V2 v (v.seen.map (YR C))
def lX (z:Rail):Rail:=⟨z.a,z.b,z.mins,1⟩
def dW (v:Net) (k:Nat):Net:={ v with rails:=v.rails.set k (lX ((v.rails[k]?).getD ⟨0,0,⟨0,0⟩,0⟩)) }
theorem qY (v:Net) (k:Nat):(dW v k).rails.length=v.rails.length:=by simp [dW]
theorem AP {v:Net} {k:Nat} (hk:k<v.rails.length) (r:Int):cI (dW v k) r=if r.toNat=k then lX (cI v r) else cI v r:=by
 simp only [cI,dW,List.getElem?_eq_getElem hk,Option.getD_some]
 by_cases e:r.toNat=k
 ·rw [if_pos e,e,List.getElem?_set_self hk]
  simp [hk]
 ·rw [if_neg e,List.getElem?_set_ne (fun q=>e q.symm)]
theorem KV {v:Net} {k:Nat} (hk:k<v.rails.length) (r s:Int):bU (cI (dW v k) r) s=bU (cI v r) s:=by
 rw [AP hk]
 split<;>rfl
theorem tE {v:Net} {k:Nat} (hk:k<v.rails.length):∀ (p:List Int) (s:Int) (met:List Int),gL (dW v k) p s met=gL v p s met
 |[],_,_=>rfl
 |r::l,s,met=>by simp only [gL,tE hk l,KV hk]
theorem xQ {v:Net} {k:Nat} (hk:k<v.rails.length) (s:Int) (p:List Int):fH (dW v k) s p=fH v s p:=by
 simp only [fH,tE hk]
theorem Q9 {v:Net} {k:Nat} (hk:k<v.rails.length) (l:List Int) {r:Int} (hr:0≤r∧r<v.rails.length):s8 (dW v k) [] l r=s8 v [(k:Int)] l r:=by
 simp only [s8,AP hk]
 by_cases e:r.toNat=k
 ·have:r=(k:Int):=by omega
  subst this
  simp [lX]
 ·have:¬r=(k:Int):=by omega
  rw [if_neg e]
  simp [this]
theorem OX {v:Net} {k:Nat} (hk:k<v.rails.length) (l:List Int):rZ (dW v k) [] l=rZ v [(k:Int)] l:=by
 simp only [rZ,qY]
 rw [List.filter_congr]
 intro r hr
 rw [cA] at hr
 exact Q9 hk l (by omega)
theorem A9 {v:Net} {k:Nat} (hk:k<v.rails.length):∀ j,eM (dW v k) [] j=eM v [(k:Int)] j
 |0=>rfl
 |j+1=>by
  simp only [eM,A9 hk j]
  exact g9 fun l _=>OX hk l
theorem JY {v:Net} {k:Nat} (hk:k<v.rails.length) (s:Int):∀ j,eD (dW v k) s [] j=eD v s [(k:Int)] j
 |0=>rfl
 |j+1=>by
  simp only [eD,JY hk s j,A9 hk]
  rw [List.filter_congr fun p _=>xQ hk s p]
theorem LM {v:Net} {k:Nat} (hk:k<v.rails.length) (s:Int):bW (dW v k) s []=bW v s [(k:Int)]:=JY hk s 4
theorem JE {v:Net} (hv:Vd v) {k:Nat} (hk:k<v.rails.length):Vd (dW v k):=by
 have hra:∀ r∈(dW v k).rails,RailOk (dW v k) r:=fun r hr=>by
  simp only [dW,List.getElem?_eq_getElem hk,Option.getD_some] at hr
  rcases List.mem_or_eq_of_mem_set hr with h|h
  ·have:=hv.ra r h
   exact ⟨this.a,this.b,this.ne,this.mins,this.shut⟩
  ·have:=hv.ra _ (List.getElem_mem hk)
   subst h
   exact ⟨this.a,this.b,this.ne,this.mins,by simp [lX]⟩
 refine ⟨hv.st,by rw [qY];exact hv.nra,hra,hv.ntr,fun i h=>?_,hv.nse,hv.se⟩
 have e:fP (dW v k) i (dW v k).trams[i]=fP v i v.trams[i]:=by
  simp only [fP,eX,xQ hk,qY];rfl
 rw [e]
 exact hv.tr i h
theorem yA {α β:Type} {f g:α→List β}:∀ {l m:List α},l.Sublist m→(∀ x,(f x).Sublist (g x))→(l.flatMap f).Sublist (m.flatMap g)
 |_,_,.slnil,_=>List.Sublist.slnil
 |_,_,.cons a h,hf=>by
  rw [List.flatMap_cons]
  exact (yA h hf).trans (List.sublist_append_right _ _)
 |_,_,.cons_cons a h,hf=>by
  rw [List.flatMap_cons,List.flatMap_cons]
  exact (hf a).append (yA h hf)
theorem mZ {p q:Int→Bool} (h:∀ r,p r=true→q r=true):∀ l:List Int,(l.filter p).Sublist (l.filter q)
 |[]=>List.Sublist.slnil
 |a::l=>by
  rw [List.filter_cons,List.filter_cons]
  split
  ·rename_i hp
   rw [if_pos (h a hp)]
   exact (mZ h l).cons_cons a
  ·split
   ·exact (mZ h l).cons a
   ·exact mZ h l
theorem AJ (v:Net) (but:List Int):∀ j,(eM v but j).Sublist (eM v [] j)
 |0=>List.Sublist.refl _
 |j+1=>by
  simp only [eM]
  refine yA (AJ v but j) fun l=>?_
  rw [rZ,rZ]
  refine List.Sublist.map _ (mZ (fun r hr=>?_) _)
  simp only [s8,Bool.and_eq_true] at hr ⊢
  exact ⟨⟨hr.1.1,by simp⟩,hr.2⟩
theorem A1 (v:Net) (but:List Int) (s:Int):∀ j,(eD v s but j).Sublist (eD v s [] j)
 |0=>List.Sublist.refl _
 |j+1=>by
  simp only [eD]
  exact (A1 v but s j).append ((AJ v but (j+1)).filter _)
theorem H8 (v:Net) (but:List Int) (s:Int):(bW v s but).length≤(bW v s []).length:=(A1 v but s 4).length_le
def YM (v:Net) (k:Nat) (b:Int×Int):Prop :=
 (b.1<0∧∀ j,j<k→∀ hj:j<v.rails.length,v.rails[j].shut=1) ∨
  ∃ r,r<k∧∃ h:r<v.rails.length,v.rails[r].shut≠1∧b=((r:Int),eV v r)∧∀ j,j<k→∀ hj:j<v.rails.length,v.rails[j].shut≠1→eV v j<eV v r∨(eV v j=eV v r∧r≤j)
theorem F5q {v:Net}:∀ (m k:Nat) (b:Int×Int),k+m=v.rails.length→YM v k b→YM v v.rails.length (nF v (aO (k:Int) ((v.rails.length:Int)-k).toNat) b)
 |0,k,b,hk,h=>by
  rw [lL (by omega),nF]
  rwa [show v.rails.length=k by omega]
 |m+1,k,b,hk,h=>by
  have hk1:k<v.rails.length:=by omega
  rw [wG hk1]
  refine F5q m (k+1) _ (by omega) ?_
  by_cases q:v.rails[k].shut=1
  ·rw [if_pos q]
   rcases h with ⟨h1,h2⟩|⟨r,hr,hr2,h3,h4,h5⟩
   ·refine .inl ⟨h1,fun j hj hj2=>?_⟩
    by_cases e:j=k
    ·subst e;exact q
    ·exact h2 j (by omega) hj2
   ·refine .inr ⟨r,by omega,hr2,h3,h4,fun j hj hj2 hj3=>?_⟩
    by_cases e:j=k
    ·subst e;exact absurd q hj3
    ·exact h5 j (by omega) hj2 hj3
  ·rw [if_neg q]
   rcases h with ⟨h1,h2⟩|⟨r,hr,hr2,h3,h4,h5⟩
   ·rw [if_pos (.inl h1)]
    refine .inr ⟨k,by omega,hk1,q,rfl,fun j hj hj2 hj3=>?_⟩
    by_cases e:j=k
    ·subst e;exact .inr ⟨rfl,Nat.le_refl _⟩
    ·exact absurd (h2 j (by omega) hj2) hj3
   ·subst h4
    simp only
    by_cases c:eV v r<eV v k
    ·rw [if_pos (.inr c)]
     refine .inr ⟨k,by omega,hk1,q,rfl,fun j hj hj2 hj3=>?_⟩
     by_cases e:j=k
     ·subst e;exact .inr ⟨rfl,Nat.le_refl _⟩
     ·rcases h5 j (by omega) hj2 hj3 with h6|h6
      ·exact .inl (by omega)
      ·exact .inl (by omega)
    ·rw [if_neg (by rintro (h|h)<;>omega)]
     refine .inr ⟨r,by omega,hr2,h3,rfl,fun j hj hj2 hj3=>?_⟩
     by_cases e:j=k
     ·subst e
      by_cases c2:eV v j=eV v r
      ·exact .inr ⟨c2,by omega⟩
      ·exact .inl (by omega)
     ·exact h5 j (by omega) hj2 hj3
theorem N5 (v:Net):YM v v.rails.length (oP v):=by
 have:=F5q (v:=v) v.rails.length 0 (-1,0) (by omega) (.inl ⟨by decide,fun j hj=>by omega⟩)
 have e:((v.rails.length:Int)-((0:Nat):Int)).toNat=v.rails.length:=by omega
 rw [e] at this
 exact this
end Go.Am.Room
namespace Go.Am
variable {T:FuncId→Option AFunc}
end Go.Am
namespace Go.Am
variable {T:FuncId→Option AFunc}
def NC:ACode→List ACode→ACode
 |a,[]=>a
 |a,b::l=>.seq a (NC b l)
theorem F7 {R:Env→St→Prop}:∀ (az:List ACode) (a:ACode) (e:Env) (σ:St),wp T (NC a az) e σ (fun j e' σ'=>j=none∧R e' σ')→Run T (.chain (a::az) e σ) fun o=>o.j=none∧R o.env o.σ
 |[],a,e,σ,h=>.chainCons (gK h fun o ho=>ho) (fun o ho _=>.chainNil ⟨rfl,ho.2⟩) fun o ho hj=>absurd ho.1 hj
 |b::l,a,e,σ,h=>by
  refine .chainCons (gK (show wp T a e σ _ from by simpa only [NC,wp] using h) fun o ho=>ho) (fun o ho hj=>?_) fun o ho hj=>?_
  ·rw [hj] at ho
   simp only [pI] at ho
   exact F7 l b _ _ ho
  ·cases hq:o.j with
   |none=>exact absurd hq hj
   |some q=>rw [hq] at ho;simp only [pI] at ho;exact absurd ho.1 (by simp)
theorem Y6 {a c:ACode} (az:List ACode) {e:Env} {σ:St} {Q:Out→Prop} (R S:Env→St→Prop) (h:wp T (NC a az) e σ fun j e' σ'=>j=none∧R e' σ')
  (h2:∀ e' σ',R e' σ'→∃ env1 σ1 env2 σ2,vI σ e' σ' env1 σ1∧((env2=env1∧σ2=σ1)∨I6 σ.length env1 σ1 env2 σ2)∧S env2 σ2)
  (h3:∀ e σ,S e σ→Run T (.code c e σ) Q):Run T (.code (HQ (a::az) c) e σ) Q :=
 Run.chain (a0:=a) (az:=az) (c:=c) (R:=fun o=>o.j=none∧R o.env o.σ) (S:=S) (F7 az a e σ h) (fun o ho hj=>absurd ho.1 hj) (fun o ho _=>h2 _ _ ho.2) h3
end Go.Am
namespace Go.Am
variable {T:FuncId→Option AFunc}
theorem aAY {S:Type} (s0:S) (P:S→Prop) (μ:S→Nat) (IE:S→Env) (IS:S→St) {b:ACode} {e:Env} {σ:St} {K:KJ} (hP:P s0) (hσ:σ=IS s0) (hE:EqW e (IE s0))
  (step:∀ s,P s→Run T (.code b (IE s) (IS s)) fun o=>wH P μ IE IS s K o.j o.env o.σ):rK (K:=⟨K⟩) T (.loop b) e σ:=by
 subst hσ
 refine .weak (zS hE) ?_
 have key:∀ n s,μ s=n→P s→HD T (.loop b) (IE s) (IS s) K:=by
  intro n
  induction n using Nat.strongRecOn with
  |_ n ih =>
   intro s hs hp
   have h1:Run T (.code b (IE s) (IS s)) fun o=>(o.j=none∧∃ s',P s'∧μ s'<μ s∧o.env=IE s'∧o.σ=IS s')∨(o.j≠none∧K o.j o.env o.σ):=by
    refine .trim2 (step s hp) fun o ho=>?_
    cases hj:o.j with
    |none =>
     rw [hj,HT] at ho
     obtain ⟨s',h1,h2,h3⟩:=ho
     exact .inr ⟨_,_,FE h3,.inl ⟨rfl,s',h1,h2,rfl,rfl⟩⟩
    |some j =>
     rw [hj,PU] at ho
     exact .inl (.inr ⟨by simp,ho⟩)
   refine .loop h1 (fun o ho hj=>?_) fun o ho hj=>?_
   ·rcases ho with ⟨_,s',q1,q2,q3,q4⟩|⟨q1,_⟩
    ·rw [q3,q4];exact ih _ (by omega) s' rfl q1
    ·exact absurd hj q1
   ·rcases ho with ⟨q,_⟩|⟨_,q⟩
    ·exact absurd q hj
    ·exact q
 exact key _ s0 rfl hP
end Go.Am
set_option maxRecDepth 8000
namespace Go.Am.Room
def eA:=And.intro @aZ (And.intro @aK (And.intro @aR (And.intro @aT (And.intro @aS (And.intro @aQ (And.intro @aY (And.intro @aW (And.intro @aV (And.intro @dL (And.intro @List.length_append.{0} (And.intro @Int.toNat_natCast (@bF))))))))))))
def BI (z:Rail):List AV:=[.int .i64 z.a,.int .i64 z.b,.int .i64 z.mins.lo,.int .i64 z.mins.hi,.int .i64 z.shut]
theorem qR:Cells cV BI 5:=⟨fun x=>by simp only [cV,BI],fun x=>rfl,by decide,fun x=>rfl,oB⟩
def IN (v:Net) (n:Nat):List AV:=[.int .i64 v.stations,.ref 3 0 n 5,.lit (v.trams.map bX) false none,.lit (v.seen.map dB) false none]
theorem LB (v:Net) {k:Nat} (hk:k<v.rails.length) (b0 b1 b2:ABlk) (τ:St):I2 (b0::b1::b2::.cells (jD BI (dW v k).rails)::τ) 3 (IN v v.rails.length) (aB (dW v k)):=by
 have h2:okV 3 (.lit (v.trams.map bX) false none):=okV_up _ (iD oE v.trams).1
 have h3:okV 3 (.lit (v.seen.map dB) false none):=okV_up _ (iD nW v.seen).1
 refine ⟨.inl ⟨rfl,trivial⟩,.inr ⟨20,_,?_,.inl rfl⟩,.inl ⟨rfl,h2⟩,.inl ⟨rfl,h3⟩,trivial⟩
 rw [←qY v k]
 exact EW qR (by omega) (by simp [aG])
theorem zI {v:Net} (hv:Vd v) {k:Nat} (hk:k<v.rails.length) {s:Int} (hs:0≤s∧s<v.stations):iJ (dW v k) s=(bW v s [(k:Int)],0):=by
 have h1:kK (dW v k) s=true:=jM.2 hs
 rw [iJ,qO (JE hv hk),if_pos rfl,if_pos h1,LM hk]
theorem J1 {v:Net} (hv:Vd v) {s:Int} (hs:0≤s∧s<v.stations):iJ v s=(bW v s [],0):=by
 rw [iJ,qO hv,if_pos rfl,if_pos (jM.2 hs)]
theorem LD {v:Net} (hf:Fits v) (k:Nat):Fits (dW v k):=⟨by rw [qY];exact hf.rails,hf.trams,hf.seen,hf.names,hf.paths⟩
def kV (v:Net) (k:Nat):Nat:=((v.rails.take k).filter fun r=>!decide (r.shut=1)).length
theorem FG {v:Net} {k:Nat} (h:k<v.rails.length):kV v (k+1)=kV v k+(if v.rails[k].shut=1 then 0 else 1):=by
 rw [kV,kV,List.take_succ_eq_append_getElem h,List.filter_append,List.length_append]
 by_cases q:v.rails[k].shut=1<;>simp [q]
theorem KA (v:Net) (k:Nat):kV v k≤k:=by
 have h1:=List.length_filter_le (fun r:Rail=>!decide (r.shut=1)) (v.rails.take k)
 rw [List.length_take] at h1
 rw [kV];omega
theorem ER (v:Net) (hf:Fits v) (hv:Vd v) (X0 X1:Int) (st:Nat) (hX:0≤X1∧X1<256) (hst:X1.tmod v.stations=(st:Int)) (hstl:(st:Int)<v.stations) (rail ρ:Nat) (many:Int) (wl:List Int) (k:Nat) (hk:k<wl.length) (hwl:wl.length≤2) (hwk:wl[k]=(ρ:Int)) (hρ:ρ<v.rails.length)
    (h0:k=0→eV v ρ=many) (h1:v.rails[ρ].shut≠1→eV v ρ<many∨(eV v ρ=many∧rail≤ρ)) (K:KJ) (P:Nat→Prop) (hP:P (k+1)) :
    Run T (.code I0q [(2,.ptr 0 0),(3,.ptr 1 0),(5,.int .i64 rail),(6,.int .i64 many),(10,ints wl),(11,.int .i64 k)] [.cells (aB v),.cells [.int .u8 X0,.int .u8 X1]])
      fun o=>wH P (fun k=>2-k) (fun k=>[(2,.ptr 0 0),(3,.ptr 1 0),(5,.int .i64 rail),(6,.int .i64 many),(10,ints wl),(11,.int .i64 k)]) (fun _=>[.cells (aB v),.cells [.int .u8 X0,.int .u8 X1]]) k K o.j o.env o.σ:=by
  have hd:decide ((k:Int)<(wl.length:Int))=true:=by simp;omega
  have hw:=cM hk (by omega)
  have hnr:=hv.nra
  have hnt:=hv.ntr
  have hne:v.rails≠[]:=fun e=>by rw [e] at hρ;simp at hρ
  have hap:=fun σ:St=>FB qR (b:=40) (σ:=σ) hne (by simp [room];omega) (by simp [room];omega)
  have hfl:(jD BI v.rails).length=v.rails.length*5:=vS qR v.rails
  have i1:(0:Int)≤(ρ:Int)∧(ρ:Int)<((v.rails.length:Nat):Int)∧5=5:=⟨by omega,by omega,rfl⟩
  have c1:ρ*5+5≤v.rails.length*5:=by omega
  have hat:=GA qR v.rails ρ hρ
  have hset:=B2 qR v.rails ρ (lX v.rails[ρ]) hρ
  have hsr:(dW v ρ).rails=v.rails.set ρ (lX v.rails[ρ]):=by simp [dW,hρ]
  rw [←hsr] at hset
  obtain ⟨z,hz⟩:∃ z,v.rails[ρ]=z:=⟨_,rfl⟩
  rw [hz] at hat hset h1
  simp only [BI,lX] at hat hset
  obtain ⟨op,hop⟩:∃ b,(!(z.shut==1))=b:=⟨_,rfl⟩
  simp only [I0q]
  refine .seq (R:=fun o=>o.j=none∧Env.get o.env 2 = .ptr 0 0∧Env.get o.env 3 = .ptr 1 0∧Env.get o.env 5 = .int .i64 rail∧Env.get o.env 6 = .int .i64 many∧Env.get o.env 10=ints wl∧Env.get o.env 11 = .int .i64 k∧o.σ=[.cells (aB v),.cells [.int .u8 X0,.int .u8 X1]]) (uK (K:=fun j e σ=>j=none∧Env.get e 2 = .ptr 0 0∧Env.get e 3 = .ptr 1 0∧Env.get e 5 = .int .i64 rail∧Env.get e 6 = .int .i64 many∧Env.get e 10=ints wl∧Env.get e 11 = .int .i64 k∧σ=[.cells (aB v),.cells [.int .u8 X0,.int .u8 X1]]) ?_) (fun o ho _=>?_) fun o ho hj=>absurd ho.1 hj
  · (repeat (first|simp only [↓QA,QB,Nat.reduceLT,reduceIte,Nat.reduceEqDiff,Nat.reduceAdd,Nat.reduceLeDiff,Nat.reduceMul,Nat.reduceBEq,eA,hd]|refine rd0 rfl ?_))
  · obtain ⟨_,e2,e3,e5,e6,e10,e11,hσ⟩:=ho
    rw [hσ]
    obtain ⟨ev,hev⟩:∃ ev,o.env=ev:=⟨_,rfl⟩
    rw [hev] at e2 e3 e5 e6 e10 e11 ⊢
    refine .seq (R:=fun o=>o.j=none∧Env.get o.env 2 = .ptr 0 0∧Env.get o.env 3 = .ptr 1 0∧Env.get o.env 5 = .int .i64 rail∧Env.get o.env 6 = .int .i64 many∧Env.get o.env 10=ints wl∧Env.get o.env 11 = .int .i64 k∧∃ τ,o.σ = .cells (aB v)::.cells [.int .u8 X0,.int .u8 X1]::τ) (.block (R:=fun o=>o.j=none∧Env.get o.env 2 = .ptr 0 0∧Env.get o.env 3 = .ptr 1 0∧Env.get o.env 5 = .int .i64 rail∧Env.get o.env 6 = .int .i64 many∧Env.get o.env 10=ints wl∧Env.get o.env 11 = .int .i64 k∧∃ τ,o.σ = .cells (aB v)::.cells [.int .u8 X0,.int .u8 X1]::τ) ?_ fun o ho=>?_) (fun o ho _=>?_) fun o ho hj=>absurd ho.1 hj
    · refine Y6 [_,_,_,_,_] (fun e σ=>Env.get e 2 = .ptr 0 0∧Env.get e 3 = .ptr 1 0∧Env.get e 5 = .int .i64 rail∧Env.get e 6 = .int .i64 many∧Env.get e 10=ints wl∧Env.get e 11 = .int .i64 k∧Env.get e 12 = .ptr 2 0∧Env.get e 14 = .bool op∧∃ τ,σ = .cells (aB v)::.cells [.int .u8 X0,.int .u8 X1]::.cells (IN v v.rails.length)::.cells (jD BI (dW v ρ).rails)::τ)
        (fun e σ=>Env.get e 2 = .ptr 0 0∧Env.get e 3 = .ptr 1 0∧Env.get e 5 = .int .i64 rail∧Env.get e 6 = .int .i64 many∧Env.get e 10=ints wl∧Env.get e 11 = .int .i64 k∧Env.get e 12 = .ptr 2 0∧Env.get e 14 = .bool op∧σ=[.cells (aB v),.cells [.int .u8 X0,.int .u8 X1],.cells (aB (dW v ρ))]) ?_ ?_ ?_
      · (repeat (first|simp only [↓QA,QB,Nat.reduceLT,reduceIte,Nat.reduceEqDiff,Nat.reduceAdd,Nat.reduceLeDiff,Nat.reduceMul,Nat.reduceBEq,eA,NC,e2,e3,e5,e6,e10,e11,hap,IN]|refine rd0 rfl ?_))
        refine rE [.cells [.int .i64 0,.int .i64 0,.int .i64 0,.int .i64 0,.int .i64 0]] rfl ?_
        (repeat (first|simp only [↓QA,QB,Nat.reduceLT,reduceIte,Nat.reduceEqDiff,Nat.reduceAdd,Nat.reduceLeDiff,Nat.reduceMul,Nat.reduceBEq,eA,e2,e3,e5,e6,e10,e11,hk,hwk,i1,c1,hfl,hat,hset,hop,IN]|refine rd0 rfl ?_))
        exact ⟨_,rfl⟩
      · rintro e σ ⟨q2,q3,q5,q6,q10,q11,q12,q14,τ,rfl⟩
        refine ⟨[(2,.ptr 0 0),(3,.ptr 1 0),(5,.int .i64 rail),(6,.int .i64 many),(10,ints wl),(11,.int .i64 k),(12,.ptr 2 0),(14,.bool op)],[.cells (aB v),.cells [.int .u8 X0,.int .u8 X1],.cells (aB (dW v ρ))],_,_,⟨by simp,by simp,⟨.inl ⟨q2.symm,by rw [q2];simp [okV]⟩,.inl ⟨q3.symm,by rw [q3];simp [okV]⟩,.inl ⟨q5.symm,by rw [q5];simp [okV]⟩,.inl ⟨q6.symm,by rw [q6];simp [okV]⟩,.inl ⟨q10.symm,by rw [q10];exact okV_up _ (jA wl).1⟩,.inl ⟨q11.symm,by rw [q11];simp [okV]⟩,.inl ⟨q12.symm,by rw [q12];simp [okV]⟩,.inl ⟨q14.symm,by rw [q14];simp [okV]⟩,trivial⟩,fun i hi=>?_⟩,.inl ⟨rfl,rfl⟩,rfl,rfl,rfl,rfl,rfl,rfl,rfl,rfl,rfl⟩
        match i,hi with
        |0,_=>exact ⟨_,rfl,.inl ⟨by simp,.inl rfl,rfl⟩⟩
        |1,_=>exact ⟨_,rfl,.inl ⟨by simp,.inl rfl,rfl⟩⟩
        |2,_=>exact ⟨_,rfl,.inr (.inr ⟨_,_,rfl,rfl,LB v hρ _ _ _ τ,.inl (by simp)⟩)⟩
        |i+3,h=>simp at h;omega
      · rintro e σ ⟨q2,q3,q5,q6,q10,q11,q12,q14,rfl⟩
        have hvl:=JE hv hρ
        have hfl2:=LD hf ρ
        have hck:=qO hvl
        have okz:((0:Int)==0)=true:=rfl
        have hco:((mY v ρ v.trams.length:Nat):Int)=eV v ρ:=rfl
        have hwst:=H8 v [(ρ:Int)] st
        have pst:=J1 hv (s:=(st:Int)) ⟨by omega,hstl⟩
        have plt:=zI hv hρ (s:=(st:Int)) ⟨by omega,hstl⟩
        obtain ⟨D,hD⟩:∃ D,dW v ρ=D:=⟨_,rfl⟩
        rw [hD] at hvl hfl2 plt
        rw [hD]
        have hps:∀ s:Int,0≤s→s<v.stations→iJ D s=(bW v s [(ρ:Int)],0):=fun s a b=>by rw [←hD];exact zI hv hρ ⟨a,b⟩
        obtain ⟨DC,hDC⟩:∃ c,aB D=c:=⟨_,rfl⟩
        have hDe:dH D = .agg DC:=by rw [←hDC];rfl
        have hwx:IntKind.i64.wrap X1=X1:=dZ ⟨by omega,by omega⟩
        have hsz:v.stations≠0:=by have:=hv.st;omega
        have j1:(0:Int)≤1∧(1:Int)<((2:Nat):Int):=⟨by omega,by omega⟩
        have t1:Int.toNat 1=1:=rfl
        refine (uK (K:=fun j e σ=>j=none∧Env.get e 2 = .ptr 0 0∧Env.get e 3 = .ptr 1 0∧Env.get e 5 = .int .i64 rail∧Env.get e 6 = .int .i64 many∧Env.get e 10=ints wl∧Env.get e 11 = .int .i64 k∧∃ τ,σ = .cells (aB v)::.cells [.int .u8 X0,.int .u8 X1]::τ) ?_)
        (repeat (first|simp only [↓QA,QB,Nat.reduceLT,reduceIte,Nat.reduceEqDiff,Nat.reduceAdd,Nat.reduceLeDiff,Nat.reduceMul,Nat.reduceBEq,eA,q2,q3,q5,q6,q10,q11,q12,q14]|refine rd0 rfl ?_))
        refine dJ (S:=Nat) 0 (fun t=>t≤v.trams.length) (fun t=>v.trams.length-t)
          (fun t=>[(2,.ptr 0 0),(3,.ptr 1 0),(5,.int .i64 rail),(6,.int .i64 many),(10,ints wl),(11,.int .i64 k),(12,.ptr 2 0),(14,.bool op),(15,.int .i64 (mY v ρ t:Nat)),(16,.int .i64 t)]) (fun _=>[.cells (aB v),.cells [.int .u8 X0,.int .u8 X1],.cells (aB D)]) (Nat.zero_le _) (by simp [aB,ints]) ?_ fun t ht=>?_
        · try simp only [aD,QE,Nat.reduceLT,reduceIte,Nat.reduceEqDiff,Nat.reduceAdd,Nat.reduceLeDiff,Nat.reduceMul,Nat.reduceBEq,eA,q2,q3,q5,q6,q10,q11,q12,q14]
          try simp [mY]
        · (repeat (first|simp only [↓QA,QB,Nat.reduceLT,reduceIte,Nat.reduceEqDiff,Nat.reduceAdd,Nat.reduceLeDiff,Nat.reduceMul,Nat.reduceBEq,eA,WH]|refine rd0 rfl ?_))
          refine aI (fun hd2=>?_) fun hd2=>?_
          · have ht1:t<v.trams.length:=by simpa using hd2
            have hw2:=cM ht1 (by omega)
            have hcl:=DV v ρ t
            have hcs:=xY v ρ t
            have hwc:=cM (show mY v ρ t<v.trams.length by omega) (by omega)
            have hto:=(wC hv ht1).frm
            rw [w8 ht1] at hcs
            obtain ⟨y,hy⟩:∃ y,v.trams[t]=y:=⟨_,rfl⟩
            rw [hy] at hcs hto
            have hpy:=hps y.frm hto.1 hto.2
            obtain ⟨W,hW⟩:∃ W,bW v y.frm [(ρ:Int)]=W:=⟨_,rfl⟩
            rw [hW] at hpy hcs
            have hwe:(((W.length:Nat):Int)==0)=W.isEmpty:=by cases W<;>simp<;>omega
            (repeat (first|simp only [↓QA,QB,Nat.reduceLT,reduceIte,Nat.reduceEqDiff,Nat.reduceAdd,Nat.reduceLeDiff,Nat.reduceMul,Nat.reduceBEq,eA,ht1,hy]|refine rd0 rfl ?_))
            ((first|refine aF (jF D hfl2 y.frm) rfl dd ?_|refine aH (jF D hfl2 y.frm) rfl dd ?_);(repeat (first|simp only [↓QA,QB,Nat.reduceLT,reduceIte,Nat.reduceEqDiff,Nat.reduceAdd,Nat.reduceLeDiff,Nat.reduceMul,Nat.reduceBEq,eA,hpy,qJ,ht1,hy,okz,hwe]|refine rd0 rfl ?_)))
            cases hse:W.isEmpty
            · rw [hse] at hcs
              simp only [Bool.false_eq_true,if_false,Nat.add_zero] at hcs
              (repeat (first|simp only [↓QA,QB,Nat.reduceLT,reduceIte,Nat.reduceEqDiff,Nat.reduceAdd,Nat.reduceLeDiff,Nat.reduceMul,Nat.reduceBEq,eA,hw2]|refine rd0 rfl ?_))
              refine ⟨t+1,by omega,by omega,?_⟩
              rw [hcs]
              try simp only [aD,QE,Nat.reduceLT,reduceIte,Nat.reduceEqDiff,Nat.reduceAdd,Nat.reduceLeDiff,Nat.reduceMul,Nat.reduceBEq,eA,hw2]
              try simp [aN]
            · rw [hse] at hcs
              simp only [if_true] at hcs
              (repeat (first|simp only [↓QA,QB,Nat.reduceLT,reduceIte,Nat.reduceEqDiff,Nat.reduceAdd,Nat.reduceLeDiff,Nat.reduceMul,Nat.reduceBEq,eA,hw2,hwc]|refine rd0 rfl ?_))
              refine ⟨t+1,by omega,by omega,?_⟩
              rw [hcs]
              try simp only [aD,QE,Nat.reduceLT,reduceIte,Nat.reduceEqDiff,Nat.reduceAdd,Nat.reduceLeDiff,Nat.reduceMul,Nat.reduceBEq,eA,hw2,hwc]
              try simp [aN]
          · have ht1:t=v.trams.length:=by
              have:¬t<v.trams.length:=by simpa using hd2
              omega
            rw [ht1,hco]
            obtain ⟨C,hC⟩:∃ C,eV v ρ=C:=⟨_,rfl⟩
            rw [hC] at h0 h1
            rw [hC]
            obtain ⟨W1,hW1⟩:∃ W,bW v (st:Int) []=W:=⟨_,rfl⟩
            obtain ⟨W2,hW2⟩:∃ W,bW v (st:Int) [(ρ:Int)]=W:=⟨_,rfl⟩
            rw [hW1] at pst hwst
            rw [hW2] at plt hwst
            have d1:decide ((W1.length:Int)<(W2.length:Int))=false:=by simp;omega
            have hk0:(((k:Nat):Int)==0)=decide (k=0):=by rw [Bool.eq_iff_iff];simp
            (repeat (first|simp only [↓QA,QB,Nat.reduceLT,reduceIte,Nat.reduceEqDiff,Nat.reduceAdd,Nat.reduceLeDiff,Nat.reduceMul,Nat.reduceBEq,eA,j1,t1,Nat.zero_mul,Nat.one_mul,hwx,U1 _ _ _ hsz,hst]|refine rd0 rfl ?_))
            ((first|refine aF (jF v hf st) rfl dd ?_|refine aH (jF v hf st) rfl dd ?_);(repeat (first|simp only [↓QA,QB,Nat.reduceLT,reduceIte,Nat.reduceEqDiff,Nat.reduceAdd,Nat.reduceLeDiff,Nat.reduceMul,Nat.reduceBEq,eA,pst,qJ]|refine rd0 rfl ?_)))
            ((first|refine aF (jF D hfl2 st) rfl dd ?_|refine aH (jF D hfl2 st) rfl dd ?_);(repeat (first|simp only [↓QA,QB,Nat.reduceLT,reduceIte,Nat.reduceEqDiff,Nat.reduceAdd,Nat.reduceLeDiff,Nat.reduceMul,Nat.reduceBEq,eA,plt,qJ,okz,d1,hk0]|refine rd0 rfl ?_)))
            have hopn:op=true→z.shut≠1:=fun e=>by rw [e] at hop;simpa using hop
            have fin:op=true→decide (many<C)=false∧((C==many)=false∨((C==many)=true∧decide ((ρ:Int)<(rail:Int))=false)):=fun e=>by
              rcases h1 (hopn e) with h|⟨h,h'⟩
              · exact ⟨by simp;omega,.inl (by rw [beq_eq_false_iff_ne];omega)⟩
              · exact ⟨by simp;omega,.inr ⟨by simpa using h,by simp;omega⟩⟩
            have hcm:decide (k=0)=true→(C==many)=true:=fun e=>by simpa using h0 (by simpa using e)
            cases hz0:decide (k=0)
            case' true=>have hc0:=hcm hz0
            all_goals
              cases op
              case' true=>obtain ⟨f1,f2⟩:=fin rfl
            case false.false =>
              (repeat (first|simp only [↓QA,QB,Nat.reduceLT,reduceIte,Nat.reduceEqDiff,Nat.reduceAdd,Nat.reduceLeDiff,Nat.reduceMul,Nat.reduceBEq,eA,okz,d1,hk0,hz0]|refine rd0 rfl ?_))
              exact ⟨_,rfl⟩
            case true.false =>
              (repeat (first|simp only [↓QA,QB,Nat.reduceLT,reduceIte,Nat.reduceEqDiff,Nat.reduceAdd,Nat.reduceLeDiff,Nat.reduceMul,Nat.reduceBEq,eA,okz,d1,hk0,hz0,hc0]|refine rd0 rfl ?_))
              exact ⟨_,rfl⟩
            case false.true =>
              rcases f2 with f2|⟨f2,f3⟩
              · (repeat (first|simp only [↓QA,QB,Nat.reduceLT,reduceIte,Nat.reduceEqDiff,Nat.reduceAdd,Nat.reduceLeDiff,Nat.reduceMul,Nat.reduceBEq,eA,okz,d1,hk0,hz0,f1,f2,hk,hwk]|refine rd0 rfl ?_))
                exact ⟨_,rfl⟩
              · (repeat (first|simp only [↓QA,QB,Nat.reduceLT,reduceIte,Nat.reduceEqDiff,Nat.reduceAdd,Nat.reduceLeDiff,Nat.reduceMul,Nat.reduceBEq,eA,okz,d1,hk0,hz0,f1,f2,f3,hk,hwk]|refine rd0 rfl ?_))
                exact ⟨_,rfl⟩
            case true.true =>
              rcases f2 with f2|⟨f2,f3⟩
              · rw [hc0] at f2;cases f2
              · (repeat (first|simp only [↓QA,QB,Nat.reduceLT,reduceIte,Nat.reduceEqDiff,Nat.reduceAdd,Nat.reduceLeDiff,Nat.reduceMul,Nat.reduceBEq,eA,okz,d1,hk0,hz0,f1,f2,f3,hc0,hk,hwk]|refine rd0 rfl ?_))
                exact ⟨_,rfl⟩
    · obtain ⟨a,b⟩:=ho
      rw [if_neg (by rw [a];simp)]
      exact ⟨a,b⟩
    · obtain ⟨_,g2,g3,g5,g6,g10,g11,τ,hσ2⟩:=ho
      rw [hσ2]
      obtain ⟨ev2,hev2⟩:∃ ev,o.env=ev:=⟨_,rfl⟩
      rw [hev2] at g2 g3 g5 g6 g10 g11 ⊢
      refine uK ?_
      (repeat (first|simp only [↓QA,QB,Nat.reduceLT,reduceIte,Nat.reduceEqDiff,Nat.reduceAdd,Nat.reduceLeDiff,Nat.reduceMul,Nat.reduceBEq,eA,g2,g3,g5,g6,g10,g11]|refine rd0 rfl ?_))
      refine ⟨k+1,hP,by omega,?_⟩
      try simp only [aD,QE,Nat.reduceLT,reduceIte,Nat.reduceEqDiff,Nat.reduceAdd,Nat.reduceLeDiff,Nat.reduceMul,Nat.reduceBEq,eA,hw,g2,g3,g5,g6,g10,g11]
      try simp [aN]
end Go.Am.Room
set_option maxRecDepth 8000
namespace Go.Am.Room
def eI:=And.intro @aZ (And.intro @aK (And.intro @aR (And.intro @aT (And.intro @aS (And.intro @aQ (And.intro @aY (And.intro @aW (And.intro @aV (And.intro @dL (And.intro @List.length_append.{0} (And.intro @Int.toNat_natCast (@bF))))))))))))
theorem LZ {v:Net} (h:∀ j,∀ hj:j<v.rails.length,v.rails[j].shut=1):kV v v.rails.length=0:=by
 rw [kV,List.take_length,List.length_eq_zero_iff,List.filter_eq_nil_iff]
 intro r hr
 obtain ⟨j,hj,rfl⟩:=List.getElem_of_mem hr
 simp [h j hj]
set_option maxHeartbeats 2000000 in
theorem CX (v:Net) (b c:Nat) (hf:Fits v) (hb:b<256) (hcc:c<256):eC T 15 [dH v,.agg [.int .u8 b,.int .u8 c]] (.bool true):=by
 refine bA (af:=a15) rfl (by simp [a15]) dd ?_
 have okz:((0:Int)==0)=true:=rfl
 have g90:((9:Int)==0)=false:=rfl
 have g99:((9:Int)==9)=true:=rfl
 cases hs:decide ((cF v).2.2=0)
 ·have hc:(cF v).2.2≠0:=by simpa using hs
  have e1:kI v=(0,0,(cF v).2.2):=if_neg hc
  have g:((cF v).2.2==0)=false:=by simpa using hc
  (repeat (first|simp only [↓QA,QB,Nat.reduceLT,reduceIte,Nat.reduceEqDiff,Nat.reduceAdd,Nat.reduceLeDiff,Nat.reduceMul,Nat.reduceBEq,eI,a15]|refine rd0 rfl ?_))
  ((first|refine aF (lR v hf) rfl dd ?_|refine aH (lR v hf) rfl dd ?_);(repeat (first|simp only [↓QA,QB,Nat.reduceLT,reduceIte,Nat.reduceEqDiff,Nat.reduceAdd,Nat.reduceLeDiff,Nat.reduceMul,Nat.reduceBEq,eI,sX,e1]|refine rd0 rfl ?_)))
  ((first|refine aF (uQ v hf) rfl dd ?_|refine aH (uQ v hf) rfl dd ?_);(repeat (first|simp only [↓QA,QB,Nat.reduceLT,reduceIte,Nat.reduceEqDiff,Nat.reduceAdd,Nat.reduceLeDiff,Nat.reduceMul,Nat.reduceBEq,eI,hs,g,okz]|refine rd0 rfl ?_)))
  refine aF xU rfl fE ?_
  (repeat (first|simp only [↓QA,QB,Nat.reduceLT,reduceIte,Nat.reduceEqDiff,Nat.reduceAdd,Nat.reduceLeDiff,Nat.reduceMul,Nat.reduceBEq,eI]|refine rd0 rfl ?_))
 ·have hc:(cF v).2.2=0:=by simpa using hs
  have hv:=g7 hc
  have hnr:=hv.nra
  have hnt:=hv.ntr
  have hlaw:=N5 v
  obtain ⟨RR,hRR⟩:∃ R,oP v=R:=⟨_,rfl⟩
  have e1:kI v=if RR.1<0 then (0,0,9) else (RR.1,RR.2,0):=by rw [kI,if_pos hc,hRR]
  rw [hRR] at hlaw
  obtain ⟨A,M,E,hmv⟩:∃ a b c,kI v=(a,b,c):=⟨_,_,_,rfl⟩
  have hfacts:(A=0∧M=0∧E=9∧kV v v.rails.length=0)∨(E=0∧∃ r:Nat,∃ h:r<v.rails.length,A=(r:Int)∧M=eV v r∧v.rails[r].shut≠1∧∀ j,∀ hj:j<v.rails.length,v.rails[j].shut≠1→eV v j<eV v r∨(eV v j=eV v r∧r≤j)):=by
   rw [hmv] at e1
   rcases hlaw with ⟨h1,h2⟩|⟨r,h1,h2,h3,h4,h5⟩
   ·rw [if_pos h1] at e1
    simp only [Prod.mk.injEq] at e1
    exact .inl ⟨e1.1,e1.2.1,e1.2.2,LZ fun j hj=>h2 j hj hj⟩
   ·rw [h4] at e1
    simp only at e1
    rw [if_neg (by omega)] at e1
    simp only [Prod.mk.injEq] at e1
    exact .inr ⟨e1.2.2,r,h2,e1.1,e1.2.1,h3,fun j hj=>h5 j hj hj⟩
  (repeat (first|simp only [↓QA,QB,Nat.reduceLT,reduceIte,Nat.reduceEqDiff,Nat.reduceAdd,Nat.reduceLeDiff,Nat.reduceMul,Nat.reduceBEq,eI,a15]|refine rd0 rfl ?_))
  ((first|refine aF (lR v hf) rfl dd ?_|refine aH (lR v hf) rfl dd ?_);(repeat (first|simp only [↓QA,QB,Nat.reduceLT,reduceIte,Nat.reduceEqDiff,Nat.reduceAdd,Nat.reduceLeDiff,Nat.reduceMul,Nat.reduceBEq,eI,sX,hmv]|refine rd0 rfl ?_)))
  ((first|refine aF (uQ v hf) rfl dd ?_|refine aH (uQ v hf) rfl dd ?_);(repeat (first|simp only [↓QA,QB,Nat.reduceLT,reduceIte,Nat.reduceEqDiff,Nat.reduceAdd,Nat.reduceLeDiff,Nat.reduceMul,Nat.reduceBEq,eI,hs]|refine rd0 rfl ?_)))
  refine dJ (S:=Nat) 0 (fun k=>k≤v.rails.length) (fun k=>v.rails.length-k)
   (fun k=>[(2,.ptr 0 0),(3,.ptr 1 0),(5,.int .i64 A),(6,.int .i64 M),(7,.int .i64 E),(8,.int .i64 (kV v k:Nat)),(9,.int .i64 k)]) (fun _=>[.cells (aB v),.cells [.int .u8 b,.int .u8 c]]) (Nat.zero_le _) (by simp [aB,ints]) ?_ fun k hk=>?_
  ·try simp only [aD,QE,Nat.reduceLT,reduceIte,Nat.reduceEqDiff,Nat.reduceAdd,Nat.reduceLeDiff,Nat.reduceMul,Nat.reduceBEq,eI]
   try simp [kV]
  ·(repeat (first|simp only [↓QA,QB,Nat.reduceLT,reduceIte,Nat.reduceEqDiff,Nat.reduceAdd,Nat.reduceLeDiff,Nat.reduceMul,Nat.reduceBEq,eI,VX]|refine rd0 rfl ?_))
   refine aI (fun hd=>?_) fun hd=>?_
   ·have hk1:k<v.rails.length:=by simpa using hd
    have hw:=cM hk1 (by omega)
    have hle:=KA v k
    have hls:=FG hk1
    have hwl:=cM (show kV v k<v.rails.length by omega) (by omega)
    obtain ⟨z,hz⟩:∃ z,v.rails[k]=z:=⟨_,rfl⟩
    rw [hz] at hls
    (repeat (first|simp only [↓QA,QB,Nat.reduceLT,reduceIte,Nat.reduceEqDiff,Nat.reduceAdd,Nat.reduceLeDiff,Nat.reduceMul,Nat.reduceBEq,eI,hk1,hz]|refine rd0 rfl ?_))
    cases q:(z.shut==1)
    ·rw [if_neg (by simpa using q)] at hls
     (repeat (first|simp only [↓QA,QB,Nat.reduceLT,reduceIte,Nat.reduceEqDiff,Nat.reduceAdd,Nat.reduceLeDiff,Nat.reduceMul,Nat.reduceBEq,eI,q,hk1,hz,hwl]|refine rd0 rfl ?_))
     refine ⟨k+1,by omega,by omega,?_⟩
     rw [hls]
     try simp only [aD,QE,Nat.reduceLT,reduceIte,Nat.reduceEqDiff,Nat.reduceAdd,Nat.reduceLeDiff,Nat.reduceMul,Nat.reduceBEq,eI,hw,hwl]
     try simp [aN]
    ·rw [if_pos (by simpa using q)] at hls
     (repeat (first|simp only [↓QA,QB,Nat.reduceLT,reduceIte,Nat.reduceEqDiff,Nat.reduceAdd,Nat.reduceLeDiff,Nat.reduceMul,Nat.reduceBEq,eI,q,hk1,hz]|refine rd0 rfl ?_))
     refine ⟨k+1,by omega,by omega,?_⟩
     rw [hls]
     try simp only [aD,QE,Nat.reduceLT,reduceIte,Nat.reduceEqDiff,Nat.reduceAdd,Nat.reduceLeDiff,Nat.reduceMul,Nat.reduceBEq,eI,hw]
     try simp [aN]
   ·have hk1:k=v.rails.length:=by
     have:¬k<v.rails.length:=by simpa using hd
     omega
    rw [hk1]
    rcases hfacts with ⟨rfl,rfl,rfl,hl0⟩|⟨rfl,r,hr,rfl,rfl,hsh,hbest⟩
    ·rw [hl0]
     have z0:(((0:Nat):Int)==0)=true:=rfl
     (repeat (first|simp only [↓QA,QB,Nat.reduceLT,reduceIte,Nat.reduceEqDiff,Nat.reduceAdd,Nat.reduceLeDiff,Nat.reduceMul,Nat.reduceBEq,eI,g90,g99,z0]|refine rd0 rfl ?_))
     refine aF xU rfl fE ?_
     (repeat (first|simp only [↓QA,QB,Nat.reduceLT,reduceIte,Nat.reduceEqDiff,Nat.reduceAdd,Nat.reduceLeDiff,Nat.reduceMul,Nat.reduceBEq,eI]|refine rd0 rfl ?_))
    ·have hrz:((v.rails.length:Nat):Int)≠0:=by omega
     obtain ⟨r1,hr1,hr1l⟩:=IW (a:=(b:Int)) (by omega) (show 0<v.rails.length by omega)
     obtain ⟨s,hst,hstl⟩:=IW (a:=(c:Int)) (by omega) (show 0<v.stations.toNat by have:=hv.st;omega)
     have hsn:((v.stations.toNat:Nat):Int)=v.stations:=by have:=hv.st;omega
     rw [hsn] at hst
     have hwb:IntKind.i64.wrap (b:Int)=b:=dZ ⟨by omega,by omega⟩
     have hw1:IntKind.i64.wrap ((v.rails.length:Int)-1)=(v.rails.length:Int)-1:=dZ ⟨by omega,by omega⟩
     have hin:inR (r:Int) 0 ((v.rails.length:Int)-1)=true:=cX.2 (by omega)
     have j0:(0:Int)≤0∧(0:Int)<((2:Nat):Int):=⟨by omega,by omega⟩
     have t0:Int.toNat 0=0:=rfl
     obtain ⟨z,hz⟩:∃ z,v.rails[r]=z:=⟨_,rfl⟩
     have hsh2:(z.shut==1)=false:=by rw [←hz];simpa using hsh
     obtain ⟨wl,hwle⟩:∃ wl:List Int,[(r:Int),(r1:Int)]=wl:=⟨_,rfl⟩
     have hwm:AV.lit [AV.int .i64 (r:Int),AV.int .i64 (r1:Int)] false none=ints wl:=by rw [←hwle];rfl
     obtain ⟨many,hmany⟩:∃ m,eV v r=m:=⟨_,rfl⟩
     rw [hmany] at hbest
     rw [hmany]
     (repeat (first|simp only [↓QA,QB,Nat.reduceLT,reduceIte,Nat.reduceEqDiff,Nat.reduceAdd,Nat.reduceLeDiff,Nat.reduceMul,Nat.reduceBEq,eI,okz,hw1]|refine rd0 rfl ?_))
     ((first|refine aF (eW (r:Int) 0 ((v.rails.length:Int)-1)) rfl dd ?_|refine aH (eW (r:Int) 0 ((v.rails.length:Int)-1)) rfl dd ?_);(repeat (first|simp only [↓QA,QB,Nat.reduceLT,reduceIte,Nat.reduceEqDiff,Nat.reduceAdd,Nat.reduceLeDiff,Nat.reduceMul,Nat.reduceBEq,eI,hin,hr,hz,hsh2,j0,t0,Nat.zero_mul,hwb,U1 _ _ _ hrz,hr1]|refine rd0 rfl ?_)))
     refine aAY (S:=Nat) 0 (fun k=>k≤2) (fun k=>2-k) (fun k=>[(2,.ptr 0 0),(3,.ptr 1 0),(5,.int .i64 r),(6,.int .i64 many),(10,ints wl),(11,.int .i64 k)]) (fun _=>[.cells (aB v),.cells [.int .u8 b,.int .u8 c]]) (by omega) (by simp [aB,ints]) ?_ fun k hk=>?_
     ·try simp only [aD,QE,Nat.reduceLT,reduceIte,Nat.reduceEqDiff,Nat.reduceAdd,Nat.reduceLeDiff,Nat.reduceMul,Nat.reduceBEq,eI,←hwle]
      try simp [ints,clr,clrs]
     ·have hwl2:wl.length=2:=by rw [←hwle];rfl
      by_cases hk2:k<2
      ·obtain ⟨ρ,hρ,hwk⟩:∃ ρ:Nat,ρ<v.rails.length∧wl[k]'(by omega)=(ρ:Int):=by
        match k,hk2 with
        |0,_=>exact ⟨r,hr,by simp [←hwle]⟩
        |1,_=>exact ⟨r1,hr1l,by simp [←hwle]⟩
       refine ER v hf hv b c s ⟨by omega,by omega⟩ hst (by omega) r ρ many wl k (by omega) (by omega) hwk hρ (fun e=>?_) (fun h=>hbest ρ hρ h) _ _ (by omega)
       subst e
       have:(r:Int)=(ρ:Int):=by rw [←hwk];simp [←hwle]
       have e2:r=ρ:=by omega
       rw [←e2];exact hmany
      ·have hk3:k=2:=by omega
       subst hk3
       refine uK ?_
       have hd2:decide (((2:Nat):Int)<((2:Nat):Int))=false:=rfl
       (repeat (first|simp only [↓QA,QB,Nat.reduceLT,reduceIte,Nat.reduceEqDiff,Nat.reduceAdd,Nat.reduceLeDiff,Nat.reduceMul,Nat.reduceBEq,eI,I0q,hwl2,hd2]|refine rd0 rfl ?_))
       refine aF xU rfl fE ?_
       (repeat (first|simp only [↓QA,QB,Nat.reduceLT,reduceIte,Nat.reduceEqDiff,Nat.reduceAdd,Nat.reduceLeDiff,Nat.reduceMul,Nat.reduceBEq,eI]|refine rd0 rfl ?_))
end Go.Am.Room
