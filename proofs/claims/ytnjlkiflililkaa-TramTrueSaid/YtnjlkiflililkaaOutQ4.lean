/- A part of the proofs: an abstract machine, or what functions come to on it. -/
import Derived.Test.YtnjlkiflililkaaOutQ3
set_option linter.unusedVariables false
set_option linter.unusedSimpArgs false
set_option linter.defProp false
set_option maxRecDepth 4000
namespace Go.Am.Room
def bM:=And.intro @bH (And.intro @aI (And.intro @aW (And.intro @aT (And.intro @aS (And.intro @aR (And.intro @bF (And.intro @bC (@bA))))))))
theorem lH (v:Net) (s:Int) (hst:2≤v.stations∧v.stations≤5):dR T 78 [bI v,.int .i64 s] (.bool (nT v s)):=by
 refine bE (af:=a78) rfl (by simp [a78]) dd ?_
 have hw:IntKind.i64.wrap (v.stations-1)=v.stations-1:=dU ⟨by omega,by omega⟩
 (repeat (first|simp only [↓QA,QB,Nat.reduceLT,reduceIte,Nat.reduceEqDiff,Nat.reduceAdd,Nat.reduceLeDiff,Nat.reduceMul,Nat.reduceBEq,bM,a78,hw]|refine rd0 rfl ?_))
 ((first|refine aC (gU s 0 (v.stations-1)) rfl dd ?_|refine aD (gU s 0 (v.stations-1)) rfl dd ?_);(repeat (first|simp only [↓QA,QB,Nat.reduceLT,reduceIte,Nat.reduceEqDiff,Nat.reduceAdd,Nat.reduceLeDiff,Nat.reduceMul,Nat.reduceBEq,bM,nT]|refine rd0 rfl ?_)))
theorem R5 (r:Rail) (s:Int):dR T 97 [cF r,.int .i64 s] (.int .i64 (dI r s)):=by
 refine bE (af:=a97) rfl (by simp [a97]) dd ?_
 (repeat (first|simp only [↓QA,QB,Nat.reduceLT,reduceIte,Nat.reduceEqDiff,Nat.reduceAdd,Nat.reduceLeDiff,Nat.reduceMul,Nat.reduceBEq,bM,a97]|refine rd0 rfl ?_))
 cases h1:(s==r.a)
 ·have h1':s≠r.a:=by simpa using h1
  (repeat (first|simp only [↓QA,QB,Nat.reduceLT,reduceIte,Nat.reduceEqDiff,Nat.reduceAdd,Nat.reduceLeDiff,Nat.reduceMul,Nat.reduceBEq,bM,h1]|refine rd0 rfl ?_))
  cases h2:(s==r.b)
  ·have h2':s≠r.b:=by simpa using h2
   (repeat (first|simp only [↓QA,QB,Nat.reduceLT,reduceIte,Nat.reduceEqDiff,Nat.reduceAdd,Nat.reduceLeDiff,Nat.reduceMul,Nat.reduceBEq,bM,h2]|refine rd0 rfl ?_))
   simp [dI,h1',h2']
  ·have h2':s=r.b:=by simpa using h2
   (repeat (first|simp only [↓QA,QB,Nat.reduceLT,reduceIte,Nat.reduceEqDiff,Nat.reduceAdd,Nat.reduceLeDiff,Nat.reduceMul,Nat.reduceBEq,bM,h2]|refine rd0 rfl ?_))
   simp only [dI,if_neg h1',if_pos h2']
 ·have h1':s=r.a:=by simpa using h1
  (repeat (first|simp only [↓QA,QB,Nat.reduceLT,reduceIte,Nat.reduceEqDiff,Nat.reduceAdd,Nat.reduceLeDiff,Nat.reduceMul,Nat.reduceBEq,bM,h1]|refine rd0 rfl ?_))
  simp only [dI,if_pos h1']
theorem T5 (v:Net) (r:Rail) (hst:2≤v.stations∧v.stations≤5):dR T 74 [bI v,cF r] (.int .i64 (dA v r)):=by
 refine bE (af:=a74) rfl (by simp [a74]) dd ?_
 (repeat (first|simp only [↓QA,QB,Nat.reduceLT,reduceIte,Nat.reduceEqDiff,Nat.reduceAdd,Nat.reduceLeDiff,Nat.reduceMul,Nat.reduceBEq,bM,a74]|refine rd0 rfl ?_))
 ((first|refine aC (lH v r.a hst) rfl dd ?_|refine aD (lH v r.a hst) rfl dd ?_);(repeat (first|simp only [↓QA,QB,Nat.reduceLT,reduceIte,Nat.reduceEqDiff,Nat.reduceAdd,Nat.reduceLeDiff,Nat.reduceMul,Nat.reduceBEq,bM]|refine rd0 rfl ?_)))
 cases h1:nT v r.a
 ·(repeat (first|simp only [↓QA,QB,Nat.reduceLT,reduceIte,Nat.reduceEqDiff,Nat.reduceAdd,Nat.reduceLeDiff,Nat.reduceMul,Nat.reduceBEq,bM]|refine rd0 rfl ?_))
  simp [dA,h1]
 ·(repeat (first|simp only [↓QA,QB,Nat.reduceLT,reduceIte,Nat.reduceEqDiff,Nat.reduceAdd,Nat.reduceLeDiff,Nat.reduceMul,Nat.reduceBEq,bM]|refine rd0 rfl ?_))
  ((first|refine aC (lH v r.b hst) rfl dd ?_|refine aD (lH v r.b hst) rfl dd ?_);(repeat (first|simp only [↓QA,QB,Nat.reduceLT,reduceIte,Nat.reduceEqDiff,Nat.reduceAdd,Nat.reduceLeDiff,Nat.reduceMul,Nat.reduceBEq,bM]|refine rd0 rfl ?_)))
  cases h2:nT v r.b
  ·(repeat (first|simp only [↓QA,QB,Nat.reduceLT,reduceIte,Nat.reduceEqDiff,Nat.reduceAdd,Nat.reduceLeDiff,Nat.reduceMul,Nat.reduceBEq,bM]|refine rd0 rfl ?_))
   simp [dA,h2]
  ·(repeat (first|simp only [↓QA,QB,Nat.reduceLT,reduceIte,Nat.reduceEqDiff,Nat.reduceAdd,Nat.reduceLeDiff,Nat.reduceMul,Nat.reduceBEq,bM]|refine rd0 rfl ?_))
   cases h3:(r.a==r.b)
   ·have h3':r.a≠r.b:=by simpa using h3
    (repeat (first|simp only [↓QA,QB,Nat.reduceLT,reduceIte,Nat.reduceEqDiff,Nat.reduceAdd,Nat.reduceLeDiff,Nat.reduceMul,Nat.reduceBEq,bM,h3]|refine rd0 rfl ?_))
    ((first|refine aC (NW r.mins 1 20) rfl dd ?_|refine aD (NW r.mins 1 20) rfl dd ?_);(repeat (first|simp only [↓QA,QB,Nat.reduceLT,reduceIte,Nat.reduceEqDiff,Nat.reduceAdd,Nat.reduceLeDiff,Nat.reduceMul,Nat.reduceBEq,bM]|refine rd0 rfl ?_)))
    cases h4:(pK r.mins 1 20==7)
    ·have h4':pK r.mins 1 20≠7:=by simpa using h4
     (repeat (first|simp only [↓QA,QB,Nat.reduceLT,reduceIte,Nat.reduceEqDiff,Nat.reduceAdd,Nat.reduceLeDiff,Nat.reduceMul,Nat.reduceBEq,bM,h4]|refine rd0 rfl ?_))
     ((first|refine aC (gU r.shut 0 2) rfl dd ?_|refine aD (gU r.shut 0 2) rfl dd ?_);(repeat (first|simp only [↓QA,QB,Nat.reduceLT,reduceIte,Nat.reduceEqDiff,Nat.reduceAdd,Nat.reduceLeDiff,Nat.reduceMul,Nat.reduceBEq,bM]|refine rd0 rfl ?_)))
     cases h5:inR r.shut 0 2
     ·(repeat (first|simp only [↓QA,QB,Nat.reduceLT,reduceIte,Nat.reduceEqDiff,Nat.reduceAdd,Nat.reduceLeDiff,Nat.reduceMul,Nat.reduceBEq,bM]|refine rd0 rfl ?_))
      simp [dA,h1,h2,h3',h5]
     ·cases h6:(pK r.mins 1 20==0)
      ·have h6':pK r.mins 1 20≠0:=by simpa using h6
       (repeat (first|simp only [↓QA,QB,Nat.reduceLT,reduceIte,Nat.reduceEqDiff,Nat.reduceAdd,Nat.reduceLeDiff,Nat.reduceMul,Nat.reduceBEq,bM,h6]|refine rd0 rfl ?_))
       simp [dA,h1,h2,h3',h4',h5,h6']
      ·have h6':pK r.mins 1 20=0:=by simpa using h6
       have hb:=DY h6'
       have hw:IntKind.i64.wrap (r.mins.lo+1)=r.mins.lo+1:=dU ⟨by omega,by omega⟩
       cases h7:decide (r.mins.lo+1<r.mins.hi)
       ·have h7':¬r.mins.lo+1<r.mins.hi:=by simpa using h7
        (repeat (first|simp only [↓QA,QB,Nat.reduceLT,reduceIte,Nat.reduceEqDiff,Nat.reduceAdd,Nat.reduceLeDiff,Nat.reduceMul,Nat.reduceBEq,bM,h6,hw,h7]|refine rd0 rfl ?_))
        simp [dA,h1,h2,h3',h5,h6',h7']
       ·have h7':r.mins.lo+1<r.mins.hi:=by simpa using h7
        (repeat (first|simp only [↓QA,QB,Nat.reduceLT,reduceIte,Nat.reduceEqDiff,Nat.reduceAdd,Nat.reduceLeDiff,Nat.reduceMul,Nat.reduceBEq,bM,h6,hw,h7]|refine rd0 rfl ?_))
        simp [dA,h1,h2,h3',h5,h6',h7']
    ·have h4':pK r.mins 1 20=7:=by simpa using h4
     (repeat (first|simp only [↓QA,QB,Nat.reduceLT,reduceIte,Nat.reduceEqDiff,Nat.reduceAdd,Nat.reduceLeDiff,Nat.reduceMul,Nat.reduceBEq,bM,h4]|refine rd0 rfl ?_))
     simp [dA,h1,h2,h3',h4']
   ·have h3':r.a=r.b:=by simpa using h3
    (repeat (first|simp only [↓QA,QB,Nat.reduceLT,reduceIte,Nat.reduceEqDiff,Nat.reduceAdd,Nat.reduceLeDiff,Nat.reduceMul,Nat.reduceBEq,bM,h3]|refine rd0 rfl ?_))
    rw [dA,if_neg (by simp [h1,h2]),if_pos h3']
theorem MP {v:Net} {p:List Int} {k:Nat} (hk:k<p.length) (s:Int) (met:List Int):jC v (p.drop k) s met=if dI (bS v p[k]) s<0∨met.contains (dI (bS v p[k]) s)=true∨(dI (bS v p[k]) s=0∧k+1<p.length) then false
  else jC v (p.drop (k+1)) (dI (bS v p[k]) s) (met++[dI (bS v p[k]) s]):=by
 rw [List.drop_eq_getElem_cons hk,jC]
 have:p.drop (k+1)≠[]↔k+1<p.length:=by
  rw [Ne,List.drop_eq_nil_iff];omega
 simp only [this]
theorem E0 (v:Net) (s:Int) (p:List Int) (hp:∀ r∈p,0≤r∧r<v.rails.length) (hl:p.length<9223372036854775808):dR T 61 [bI v,.int .i64 s,ints p] (.bool (gY v s p)):=by
 refine bE (af:=a61) rfl (by simp [a61]) dd ?_
 (repeat (first|simp only [↓QA,QB,Nat.reduceLT,reduceIte,Nat.reduceEqDiff,Nat.reduceAdd,Nat.reduceLeDiff,Nat.reduceMul,Nat.reduceBEq,bM,a61]|refine rd0 rfl ?_))
 ((first|refine aC (gU p.length 1 4) rfl dd ?_|refine aD (gU p.length 1 4) rfl dd ?_);(repeat (first|simp only [↓QA,QB,Nat.reduceLT,reduceIte,Nat.reduceEqDiff,Nat.reduceAdd,Nat.reduceLeDiff,Nat.reduceMul,Nat.reduceBEq,bM]|refine rd0 rfl ?_)))
 cases h1:inR p.length 1 4
 ·(repeat (first|simp only [↓QA,QB,Nat.reduceLT,reduceIte,Nat.reduceEqDiff,Nat.reduceAdd,Nat.reduceLeDiff,Nat.reduceMul,Nat.reduceBEq,bM]|refine rd0 rfl ?_))
  simp [gY,h1]
 ·have hpl:=d5.1 h1
  cases h2:(s==0)
  case' true =>
   have h2':s=0:=by simpa using h2
   (repeat (first|simp only [↓QA,QB,Nat.reduceLT,reduceIte,Nat.reduceEqDiff,Nat.reduceAdd,Nat.reduceLeDiff,Nat.reduceMul,Nat.reduceBEq,bM,h2]|refine rd0 rfl ?_))
   simp [gY,h1,h2']
  have h2':s≠0:=by simpa using h2
  obtain ⟨B,hB⟩:∃ B,gY v s p=B:=⟨_,rfl⟩
  have hB2:jC v p s [s]=B:=by rw [←hB,gY,if_neg (by simp [h1,h2'])]
  rw [hB]
  (repeat (first|simp only [↓QA,QB,Nat.reduceLT,reduceIte,Nat.reduceEqDiff,Nat.reduceAdd,Nat.reduceLeDiff,Nat.reduceMul,Nat.reduceBEq,bM,h2]|refine rd0 rfl ?_))
  refine mM 7 1 [.int .i64 s] rfl ?_
  refine bY (S:=Nat×Int×List Int×Bool) (0,s,[s],false) (fun a=>a.1≤p.length∧a.2.2.1.length=a.1+1∧jC v (p.drop a.1) a.2.1 a.2.2.1=B) (fun a=>p.length-a.1)
   (fun a=>[(1,.int .i64 a.2.1),(2,ints p),(3,.ptr 0 0),(7,.lit (a.2.2.1.map (.int .i64)) false (some 1)),(8,.int .i64 a.1)]) (fun a=>[.cells (aB v),.tok 1 (a.1+1) a.2.2.2]) ⟨by simp,by simp,by simpa using hB2⟩ (by simp [aB,ints]) ?_ fun a ha=>?_
  ·try simp only [aE,QE,Nat.reduceLT,reduceIte,Nat.reduceEqDiff,Nat.reduceAdd,Nat.reduceLeDiff,Nat.reduceMul,Nat.reduceBEq,bM]
   try simp
  ·obtain ⟨k,c,met,ex⟩:=a
   obtain ⟨hk,hm,hgo⟩:=ha
   simp only at hk hm hgo
   (repeat (first|simp only [↓QA,QB,Nat.reduceLT,reduceIte,Nat.reduceEqDiff,Nat.reduceAdd,Nat.reduceLeDiff,Nat.reduceMul,Nat.reduceBEq,bM,aA7]|refine rd0 rfl ?_))
   refine aG (fun h=>?_) fun h=>?_
   ·have hk1:k<p.length:=by simpa using h
    have hw:=bX hk1 (by omega)
    rw [MP hk1] at hgo
    have hpr:=hp _ (List.getElem_mem hk1)
    obtain ⟨R,hR⟩:∃ R:Nat,p[k]=(R:Int):=⟨p[k].toNat,by omega⟩
    rw [hR] at hpr hgo
    have hRl:R<v.rails.length:=by omega
    rw [AP hRl] at hgo
    obtain ⟨z,hz⟩:∃ z,v.rails[R]=z:=⟨_,rfl⟩
    rw [hz] at hgo
    have hov:=R5 z c
    obtain ⟨o,ho⟩:∃ o,dI z c=o:=⟨_,rfl⟩
    rw [ho] at hgo hov
    have hap:=fun (b0:ABlk) (τ:St)=>pX (σ:=b0::.tok 1 (k+1) ex::τ) (l:=met) (a:=o) (ex:=ex) (t:=1) (by omega) (by rw [hm];rfl)
    rw [hm] at hap
    (repeat (first|simp only [↓QA,QB,Nat.reduceLT,reduceIte,Nat.reduceEqDiff,Nat.reduceAdd,Nat.reduceLeDiff,Nat.reduceMul,Nat.reduceBEq,bM,hk1,hR,hRl,hz]|refine rd0 rfl ?_))
    ((first|refine aC (hov) rfl dd ?_|refine aD (hov) rfl dd ?_);(repeat (first|simp only [↓QA,QB,Nat.reduceLT,reduceIte,Nat.reduceEqDiff,Nat.reduceAdd,Nat.reduceLeDiff,Nat.reduceMul,Nat.reduceBEq,bM,hk1,hR,hRl,hz]|refine rd0 rfl ?_)))
    cases q1:decide (o<0)
    ·have q1':¬o<0:=by simpa using q1
     (repeat (first|simp only [↓QA,QB,Nat.reduceLT,reduceIte,Nat.reduceEqDiff,Nat.reduceAdd,Nat.reduceLeDiff,Nat.reduceMul,Nat.reduceBEq,bM,q1]|refine rd0 rfl ?_))
     ((first|refine xD (iT met o (by omega)) (by try simp only [QS,QC,Nat.reduceLT,reduceIte,Nat.reduceEqDiff,Nat.reduceAdd,Nat.reduceLeDiff,Nat.reduceMul,Nat.reduceBEq,bM]) trivial ?_|refine AF (iT met o (by omega)) (by try simp only [QS,QC,Nat.reduceLT,reduceIte,Nat.reduceEqDiff,Nat.reduceAdd,Nat.reduceLeDiff,Nat.reduceMul,Nat.reduceBEq,bM]) trivial ?_);(repeat (first|simp only [↓QA,QB,Nat.reduceLT,reduceIte,Nat.reduceEqDiff,Nat.reduceAdd,Nat.reduceLeDiff,Nat.reduceMul,Nat.reduceBEq,bM,q1]|refine rd0 rfl ?_)))
     cases q2:met.contains o
     ·cases q3:(o==0)
      ·have q3':o≠0:=by simpa using q3
       rw [if_neg (by rw [q2];simp [q1',q3'])] at hgo
       (repeat (first|simp only [↓QA,QB,Nat.reduceLT,reduceIte,Nat.reduceEqDiff,Nat.reduceAdd,Nat.reduceLeDiff,Nat.reduceMul,Nat.reduceBEq,bM,q3,hap,hw]|refine rd0 rfl ?_))
       refine ⟨(k+1,o,met++[o],true),⟨by simp only;omega,by simp [hm],hgo⟩,by simp only;omega,?_⟩
       try simp only [aE,QE,Nat.reduceLT,reduceIte,Nat.reduceEqDiff,Nat.reduceAdd,Nat.reduceLeDiff,Nat.reduceMul,Nat.reduceBEq,bM,hw,nR,List.map_append,List.map_cons,List.map_nil]
       try simp [aL]
      ·have q3':o=0:=by simpa using q3
       cases q4:decide (((k+1:Nat):Int)<(p.length:Int))
       ·have q4':¬k+1<p.length:=by have:=of_decide_eq_false q4;omega
        rw [if_neg (by rw [q2];simp [q1',q4'])] at hgo
        (repeat (first|simp only [↓QA,QB,Nat.reduceLT,reduceIte,Nat.reduceEqDiff,Nat.reduceAdd,Nat.reduceLeDiff,Nat.reduceMul,Nat.reduceBEq,bM,q3,hap,hw,q4]|refine rd0 rfl ?_))
        refine ⟨(k+1,o,met++[o],true),⟨by simp only;omega,by simp [hm],hgo⟩,by simp only;omega,?_⟩
        try simp only [aE,QE,Nat.reduceLT,reduceIte,Nat.reduceEqDiff,Nat.reduceAdd,Nat.reduceLeDiff,Nat.reduceMul,Nat.reduceBEq,bM,hw,nR,List.map_append,List.map_cons,List.map_nil]
        try simp [aL]
       ·have q4':k+1<p.length:=by
         have:=of_decide_eq_true q4
         omega
        rw [if_pos (.inr (.inr ⟨q3',q4'⟩))] at hgo
        (repeat (first|simp only [↓QA,QB,Nat.reduceLT,reduceIte,Nat.reduceEqDiff,Nat.reduceAdd,Nat.reduceLeDiff,Nat.reduceMul,Nat.reduceBEq,bM,q3,hw,q4,←hgo]|refine rd0 rfl ?_))
     ·rw [if_pos (.inr (.inl q2))] at hgo
      (repeat (first|simp only [↓QA,QB,Nat.reduceLT,reduceIte,Nat.reduceEqDiff,Nat.reduceAdd,Nat.reduceLeDiff,Nat.reduceMul,Nat.reduceBEq,bM,←hgo]|refine rd0 rfl ?_))
    ·have q1':o<0:=by simpa using q1
     rw [if_pos (.inl q1')] at hgo
     (repeat (first|simp only [↓QA,QB,Nat.reduceLT,reduceIte,Nat.reduceEqDiff,Nat.reduceAdd,Nat.reduceLeDiff,Nat.reduceMul,Nat.reduceBEq,bM,q1,←hgo]|refine rd0 rfl ?_))
   ·have hk1:k=p.length:=by simp at h;omega
    rw [hk1,List.drop_length,jC] at hgo
    (repeat (first|simp only [↓QA,QB,Nat.reduceLT,reduceIte,Nat.reduceEqDiff,Nat.reduceAdd,Nat.reduceLeDiff,Nat.reduceMul,Nat.reduceBEq,bM,hgo]|refine rd0 rfl ?_))
end Go.Am.Room
set_option maxRecDepth 4000
namespace Go.Am.Room
def aV:=And.intro @bH (And.intro @aI (And.intro @aW (And.intro @aT (And.intro @aS (And.intro @aR (And.intro @bF (And.intro @bC (@bA))))))))
def qN (x:Int×Int×Int):AV:=.tuple [.int .i64 x.1,.int .i64 x.2.1,.int .i64 x.2.2]
theorem VF (v:Net) (t:Tram) (hst:2≤v.stations∧v.stations≤5) (hnr:v.rails.length≤5):dR T 76 [bI v,aZ t] (.int .i64 (gO v t)):=by
 refine bE (af:=a76) rfl (by simp [a76]) dd ?_
 (repeat (first|simp only [↓QA,QB,Nat.reduceLT,reduceIte,Nat.reduceEqDiff,Nat.reduceAdd,Nat.reduceLeDiff,Nat.reduceMul,Nat.reduceBEq,aV,a76]|refine rd0 rfl ?_))
 ((first|refine aC (lH v t.frm hst) rfl dd ?_|refine aD (lH v t.frm hst) rfl dd ?_);(repeat (first|simp only [↓QA,QB,Nat.reduceLT,reduceIte,Nat.reduceEqDiff,Nat.reduceAdd,Nat.reduceLeDiff,Nat.reduceMul,Nat.reduceBEq,aV]|refine rd0 rfl ?_)))
 cases h1:nT v t.frm
 ·(repeat (first|simp only [↓QA,QB,Nat.reduceLT,reduceIte,Nat.reduceEqDiff,Nat.reduceAdd,Nat.reduceLeDiff,Nat.reduceMul,Nat.reduceBEq,aV]|refine rd0 rfl ?_))
  simp [gO,h1]
 ·(repeat (first|simp only [↓QA,QB,Nat.reduceLT,reduceIte,Nat.reduceEqDiff,Nat.reduceAdd,Nat.reduceLeDiff,Nat.reduceMul,Nat.reduceBEq,aV]|refine rd0 rfl ?_))
  ((first|refine aC (gU t.leaves 0 60) rfl dd ?_|refine aD (gU t.leaves 0 60) rfl dd ?_);(repeat (first|simp only [↓QA,QB,Nat.reduceLT,reduceIte,Nat.reduceEqDiff,Nat.reduceAdd,Nat.reduceLeDiff,Nat.reduceMul,Nat.reduceBEq,aV]|refine rd0 rfl ?_)))
  cases h2:inR t.leaves 0 60
  ·(repeat (first|simp only [↓QA,QB,Nat.reduceLT,reduceIte,Nat.reduceEqDiff,Nat.reduceAdd,Nat.reduceLeDiff,Nat.reduceMul,Nat.reduceBEq,aV]|refine rd0 rfl ?_))
   simp [gO,h1,h2]
  ·(repeat (first|simp only [↓QA,QB,Nat.reduceLT,reduceIte,Nat.reduceEqDiff,Nat.reduceAdd,Nat.reduceLeDiff,Nat.reduceMul,Nat.reduceBEq,aV]|refine rd0 rfl ?_))
   ((first|refine aC (gU t.due 0 400) rfl dd ?_|refine aD (gU t.due 0 400) rfl dd ?_);(repeat (first|simp only [↓QA,QB,Nat.reduceLT,reduceIte,Nat.reduceEqDiff,Nat.reduceAdd,Nat.reduceLeDiff,Nat.reduceMul,Nat.reduceBEq,aV]|refine rd0 rfl ?_)))
   cases h3:inR t.due 0 400
   ·(repeat (first|simp only [↓QA,QB,Nat.reduceLT,reduceIte,Nat.reduceEqDiff,Nat.reduceAdd,Nat.reduceLeDiff,Nat.reduceMul,Nat.reduceBEq,aV]|refine rd0 rfl ?_))
    simp [gO,h1,h2,h3]
   ·(repeat (first|simp only [↓QA,QB,Nat.reduceLT,reduceIte,Nat.reduceEqDiff,Nat.reduceAdd,Nat.reduceLeDiff,Nat.reduceMul,Nat.reduceBEq,aV]|refine rd0 rfl ?_))
    ((first|refine aC (gU t.path.length 1 4) rfl dd ?_|refine aD (gU t.path.length 1 4) rfl dd ?_);(repeat (first|simp only [↓QA,QB,Nat.reduceLT,reduceIte,Nat.reduceEqDiff,Nat.reduceAdd,Nat.reduceLeDiff,Nat.reduceMul,Nat.reduceBEq,aV]|refine rd0 rfl ?_)))
    cases h4:inR t.path.length 1 4
    ·(repeat (first|simp only [↓QA,QB,Nat.reduceLT,reduceIte,Nat.reduceEqDiff,Nat.reduceAdd,Nat.reduceLeDiff,Nat.reduceMul,Nat.reduceBEq,aV]|refine rd0 rfl ?_))
     simp [gO,h1,h2,h3,h4]
    ·have hpl:=d5.1 h4
     have hwl:IntKind.i64.wrap ((v.rails.length:Int)-1)=(v.rails.length:Int)-1:=dU ⟨by omega,by omega⟩
     obtain ⟨q,hq⟩:∃ q:Int→Bool,(fun r=>inR r 0 ((v.rails.length:Int)-1))=q:=⟨_,rfl⟩
     have hqr:∀ r,inR r 0 ((v.rails.length:Int)-1)=q r:=fun r=>by rw [←hq]
     have hE:gO v t=if t.path.all q=false then 4 else if gY v t.frm t.path=false then 2 else 0:=by
      rw [gO,if_neg (by simp [h1]),if_neg (by simp [h2,h3]),if_neg (by simp [h4]),hq]
     rw [hE]
     (repeat (first|simp only [↓QA,QB,Nat.reduceLT,reduceIte,Nat.reduceEqDiff,Nat.reduceAdd,Nat.reduceLeDiff,Nat.reduceMul,Nat.reduceBEq,aV]|refine rd0 rfl ?_))
     refine bY (S:=Nat) 0 (fun k=>k≤t.path.length∧(t.path.drop k).all q=t.path.all q) (fun k=>t.path.length-k)
      (fun k=>[(2,.ptr 0 0),(3,.ptr 1 0),(5,.int .i64 k)]) (fun _=>[.cells (aB v),.cells [.str t.name,.int .i64 t.frm,.int .i64 t.leaves,.int .i64 t.due,ints t.path]]) ⟨by simp,by simp⟩ (by simp [aB,ints]) ?_ fun k hk=>?_
     ·try simp only [aE,QE,Nat.reduceLT,reduceIte,Nat.reduceEqDiff,Nat.reduceAdd,Nat.reduceLeDiff,Nat.reduceMul,Nat.reduceBEq,aV]
      try simp
     ·obtain ⟨hk,hb⟩:=hk
      (repeat (first|simp only [↓QA,QB,Nat.reduceLT,reduceIte,Nat.reduceEqDiff,Nat.reduceAdd,Nat.reduceLeDiff,Nat.reduceMul,Nat.reduceBEq,aV,aB6]|refine rd0 rfl ?_))
      refine aG (fun h=>?_) fun h=>?_
      ·have hk1:k<t.path.length:=by simpa using h
       have hw:=bX hk1 (by omega)
       rw [List.drop_eq_getElem_cons hk1,List.all_cons] at hb
       obtain ⟨r,hr⟩:∃ r,t.path[k]=r:=⟨_,rfl⟩
       rw [hr] at hb
       have hin:=gU r 0 ((v.rails.length:Int)-1)
       rw [hqr r] at hin
       (repeat (first|simp only [↓QA,QB,Nat.reduceLT,reduceIte,Nat.reduceEqDiff,Nat.reduceAdd,Nat.reduceLeDiff,Nat.reduceMul,Nat.reduceBEq,aV,hk1,hr,hwl]|refine rd0 rfl ?_))
       ((first|refine aC (hin) rfl dd ?_|refine aD (hin) rfl dd ?_);(repeat (first|simp only [↓QA,QB,Nat.reduceLT,reduceIte,Nat.reduceEqDiff,Nat.reduceAdd,Nat.reduceLeDiff,Nat.reduceMul,Nat.reduceBEq,aV,hk1,hr,hwl]|refine rd0 rfl ?_)))
       cases h5:q r
       ·rw [h5,Bool.false_and] at hb
        (repeat (first|simp only [↓QA,QB,Nat.reduceLT,reduceIte,Nat.reduceEqDiff,Nat.reduceAdd,Nat.reduceLeDiff,Nat.reduceMul,Nat.reduceBEq,aV,←hb]|refine rd0 rfl ?_))
       ·rw [h5,Bool.true_and] at hb
        (repeat (first|simp only [↓QA,QB,Nat.reduceLT,reduceIte,Nat.reduceEqDiff,Nat.reduceAdd,Nat.reduceLeDiff,Nat.reduceMul,Nat.reduceBEq,aV,hw]|refine rd0 rfl ?_))
        refine ⟨k+1,⟨by omega,hb⟩,by omega,?_⟩
        try simp only [aE,QE,Nat.reduceLT,reduceIte,Nat.reduceEqDiff,Nat.reduceAdd,Nat.reduceLeDiff,Nat.reduceMul,Nat.reduceBEq,aV,hw]
        try simp [aL]
      ·have hk1:k=t.path.length:=by simp at h;omega
       rw [hk1,List.drop_length,List.all_nil] at hb
       have hp:∀ r∈t.path,0≤r∧r<v.rails.length:=fun r hr=>by
        have:=List.all_eq_true.1 hb.symm r hr
        rw [←hqr,d5] at this
        omega
       (repeat (first|simp only [↓QA,QB,Nat.reduceLT,reduceIte,Nat.reduceEqDiff,Nat.reduceAdd,Nat.reduceLeDiff,Nat.reduceMul,Nat.reduceBEq,aV]|refine rd0 rfl ?_))
       ((first|refine aC (E0 v t.frm t.path hp (by omega)) rfl dd ?_|refine aD (E0 v t.frm t.path hp (by omega)) rfl dd ?_);(repeat (first|simp only [↓QA,QB,Nat.reduceLT,reduceIte,Nat.reduceEqDiff,Nat.reduceAdd,Nat.reduceLeDiff,Nat.reduceMul,Nat.reduceBEq,aV]|refine rd0 rfl ?_)))
       cases h6:gY v t.frm t.path
       ·(repeat (first|simp only [↓QA,QB,Nat.reduceLT,reduceIte,Nat.reduceEqDiff,Nat.reduceAdd,Nat.reduceLeDiff,Nat.reduceMul,Nat.reduceBEq,aV,←hb]|refine rd0 rfl ?_))
        rfl
       ·(repeat (first|simp only [↓QA,QB,Nat.reduceLT,reduceIte,Nat.reduceEqDiff,Nat.reduceAdd,Nat.reduceLeDiff,Nat.reduceMul,Nat.reduceBEq,aV,←hb]|refine rd0 rfl ?_))
        rfl
theorem K9 {k:Nat} {ns:List ByteArray} {s:ByteArray} {b:ABlk} {ex:Bool} {τ:St} (hk:ns.length=k) (hn:k<16):dD 1 16 (b::.tok 1 k ex::τ) (.lit (ns.map .str) false (some 1)) (.lit [.str s] true none)=some (.lit ((ns++[s]).map .str) false (some 1),b::.tok 1 (k+1) true::τ):=by
 rw [uG (ex:=ex) ⟨rR 1 _ ns (fun x=>aBD _),by simp [aM,AV.cells,AV.cell],by simp [room,hk];omega,by simp [room,hk];omega⟩ (by simp) (by simp [hk])]
 simp [hk]
theorem P6 {v:Net} {k:Nat} (h:k<v.trams.length):(v.trams.take (k+1)).map Tram.name=(v.trams.take k).map Tram.name++[v.trams[k].name]:=by
 rw [List.take_succ_eq_append_getElem h,List.map_append];rfl
theorem zK (v:Net) (h:Fits v):dR T 18 [bI v] (qN (cA v)):=by
 refine bE (af:=a18) rfl (by simp [a18]) dd ?_
 have hfr:=h.rails
 have hft:=h.trams
 have hfs:=h.seen
 (repeat (first|simp only [↓QA,QB,Nat.reduceLT,reduceIte,Nat.reduceEqDiff,Nat.reduceAdd,Nat.reduceLeDiff,Nat.reduceMul,Nat.reduceBEq,aV,a18]|refine rd0 rfl ?_))
 ((first|refine aC (gU v.stations 2 5) rfl dd ?_|refine aD (gU v.stations 2 5) rfl dd ?_);(repeat (first|simp only [↓QA,QB,Nat.reduceLT,reduceIte,Nat.reduceEqDiff,Nat.reduceAdd,Nat.reduceLeDiff,Nat.reduceMul,Nat.reduceBEq,aV]|refine rd0 rfl ?_)))
 cases h1:inR v.stations 2 5
 ·(repeat (first|simp only [↓QA,QB,Nat.reduceLT,reduceIte,Nat.reduceEqDiff,Nat.reduceAdd,Nat.reduceLeDiff,Nat.reduceMul,Nat.reduceBEq,aV]|refine rd0 rfl ?_))
  simp [cA,h1,qN]
 ·have hst:=d5.1 h1
  have hc:cA v=nU v:=by simp only [cA,h1,Bool.true_eq_false,if_false]
  rw [hc]
  (repeat (first|simp only [↓QA,QB,Nat.reduceLT,reduceIte,Nat.reduceEqDiff,Nat.reduceAdd,Nat.reduceLeDiff,Nat.reduceMul,Nat.reduceBEq,aV]|refine rd0 rfl ?_))
  cases h2:decide ((5:Int)<(v.rails.length:Int))
  case' true =>
   have h2':5<v.rails.length:=by first|(have:=of_decide_eq_false h2;omega)|(have:=of_decide_eq_true h2;omega)
   (repeat (first|simp only [↓QA,QB,Nat.reduceLT,reduceIte,Nat.reduceEqDiff,Nat.reduceAdd,Nat.reduceLeDiff,Nat.reduceMul,Nat.reduceBEq,aV]|refine rd0 rfl ?_))
   simp [nU,h2',qN]
  have h2':¬5<v.rails.length:=by first|(have:=of_decide_eq_false h2;omega)|(have:=of_decide_eq_true h2;omega)
  have hc:nU v=match bK (fun _ r=>dA v r) v.rails 0 with|some (i,e)=>(2,(i:Int),e)|none=>nY v:=by simp only [nU,h2',if_false];try rfl
  rw [hc]
  (repeat (first|simp only [↓QA,QB,Nat.reduceLT,reduceIte,Nat.reduceEqDiff,Nat.reduceAdd,Nat.reduceLeDiff,Nat.reduceMul,Nat.reduceBEq,aV]|refine rd0 rfl ?_))
  refine bY (S:=Nat) 0 (fun k=>k≤v.rails.length∧bK (fun _ r=>dA v r) (v.rails.drop k) k=bK (fun _ r=>dA v r) v.rails 0) (fun k=>v.rails.length-k)
   (fun k=>[(1,.ptr 0 0),(5,.int .i64 k)]) (fun _=>[.cells (aB v)]) ⟨Nat.zero_le _,by simp⟩ (by simp [aB,ints]) ?_ fun k hs=>?_
  ·try simp only [aE,QE,Nat.reduceLT,reduceIte,Nat.reduceEqDiff,Nat.reduceAdd,Nat.reduceLeDiff,Nat.reduceMul,Nat.reduceBEq,aV]
   try simp
  ·obtain ⟨hk,hb⟩:=hs
   (repeat (first|simp only [↓QA,QB,Nat.reduceLT,reduceIte,Nat.reduceEqDiff,Nat.reduceAdd,Nat.reduceLeDiff,Nat.reduceMul,Nat.reduceBEq,aV,aBC]|refine rd0 rfl ?_))
   refine aG (fun hd=>?_) fun hd=>?_
   ·have hk1:k<v.rails.length:=by simpa using hd
    rw [jL hk1] at hb
    have hw:=bX hk1 hfr
    obtain ⟨z,hz⟩:∃ z,v.rails[k]=z:=⟨_,rfl⟩
    rw [hz] at hb
    have hra:=T5 v z hst
    obtain ⟨E,hE⟩:∃ E,dA v z=E:=⟨_,rfl⟩
    rw [hE] at hb hra
    (repeat (first|simp only [↓QA,QB,Nat.reduceLT,reduceIte,Nat.reduceEqDiff,Nat.reduceAdd,Nat.reduceLeDiff,Nat.reduceMul,Nat.reduceBEq,aV,hk1,hz]|refine rd0 rfl ?_))
    ((first|refine aC (hra) rfl dd ?_|refine aD (hra) rfl dd ?_);(repeat (first|simp only [↓QA,QB,Nat.reduceLT,reduceIte,Nat.reduceEqDiff,Nat.reduceAdd,Nat.reduceLeDiff,Nat.reduceMul,Nat.reduceBEq,aV,hk1,hz]|refine rd0 rfl ?_)))
    cases hf:(E==0)
    ·have hf':E≠0:=by simpa using hf
     rw [if_neg hf'] at hb
     rw [←hb]
     (repeat (first|simp only [↓QA,QB,Nat.reduceLT,reduceIte,Nat.reduceEqDiff,Nat.reduceAdd,Nat.reduceLeDiff,Nat.reduceMul,Nat.reduceBEq,aV,hf]|refine rd0 rfl ?_))
     rfl
    ·have hf':E=0:=by simpa using hf
     rw [if_pos hf'] at hb
     (repeat (first|simp only [↓QA,QB,Nat.reduceLT,reduceIte,Nat.reduceEqDiff,Nat.reduceAdd,Nat.reduceLeDiff,Nat.reduceMul,Nat.reduceBEq,aV,hf,hw]|refine rd0 rfl ?_))
     refine ⟨k+1,⟨by omega,hb⟩,by omega,?_⟩
     try simp only [aE,QE,Nat.reduceLT,reduceIte,Nat.reduceEqDiff,Nat.reduceAdd,Nat.reduceLeDiff,Nat.reduceMul,Nat.reduceBEq,aV,hw]
     try simp [aL]
   ·have hk1:k=v.rails.length:=by simp at hd;omega
    rw [kG hk1] at hb
    rw [←hb]
    (repeat (first|simp only [↓QA,QB,Nat.reduceLT,reduceIte,Nat.reduceEqDiff,Nat.reduceAdd,Nat.reduceLeDiff,Nat.reduceMul,Nat.reduceBEq,aV]|refine rd0 rfl ?_))
    cases h6:decide ((3:Int)<(v.trams.length:Int))
    case' true =>
     have h6':3<v.trams.length:=by first|(have:=of_decide_eq_false h6;omega)|(have:=of_decide_eq_true h6;omega)
     (repeat (first|simp only [↓QA,QB,Nat.reduceLT,reduceIte,Nat.reduceEqDiff,Nat.reduceAdd,Nat.reduceLeDiff,Nat.reduceMul,Nat.reduceBEq,aV]|refine rd0 rfl ?_))
     simp [nY,h6',qN]
    have h6':¬3<v.trams.length:=by first|(have:=of_decide_eq_false h6;omega)|(have:=of_decide_eq_true h6;omega)
    have hc:nY v=match bK (iF v) v.trams 0 with|some (i,e)=>(3,(i:Int),e)|none=>nP v:=by simp only [nY,h6',if_false];try rfl
    rw [hc]
    (repeat (first|simp only [↓QA,QB,Nat.reduceLT,reduceIte,Nat.reduceEqDiff,Nat.reduceAdd,Nat.reduceLeDiff,Nat.reduceMul,Nat.reduceBEq,aV]|refine rd0 rfl ?_))
    refine mM 7 1 [] rfl ?_
    refine bY (S:=Nat×Bool) (0,false) (fun s=>s.1≤v.trams.length∧bK (iF v) (v.trams.drop s.1) s.1=bK (iF v) v.trams 0) (fun s=>v.trams.length-s.1)
     (fun s=>[(1,.ptr 0 0),(7,.lit (((v.trams.take s.1).map Tram.name).map .str) false (some 1)),(8,.int .i64 s.1)]) (fun s=>[.cells (aB v),.tok 1 s.1 s.2]) ⟨Nat.zero_le _,by simp⟩ (by simp [aB,ints]) ?_ fun s hs=>?_
    ·try simp only [aE,QE,Nat.reduceLT,reduceIte,Nat.reduceEqDiff,Nat.reduceAdd,Nat.reduceLeDiff,Nat.reduceMul,Nat.reduceBEq,aV]
     try simp
    ·obtain ⟨k,ex⟩:=s
     obtain ⟨hk,hb⟩:=hs
     simp only at hk hb
     have hlen:((v.trams.take k).map Tram.name).length=k:=by simp [hk]
     (repeat (first|simp only [↓QA,QB,Nat.reduceLT,reduceIte,Nat.reduceEqDiff,Nat.reduceAdd,Nat.reduceLeDiff,Nat.reduceMul,Nat.reduceBEq,aV,aB0]|refine rd0 rfl ?_))
     refine aG (fun hd=>?_) fun hd=>?_
     ·have hk1:k<v.trams.length:=by simpa using hd
      rw [jL hk1] at hb
      have hw:=bX hk1 hft
      have hap:=fun (τ:St)=>K9 (k:=k) (ns:=(v.trams.take k).map Tram.name) (s:=v.trams[k].name) (b:=.cells (aB v)) (ex:=ex) (τ:=τ) hlen (by omega)
      simp only [aI] at hap
      have hset:iF v k v.trams[k]=if fresh v.trams[k].name ((v.trams.take k).map Tram.name)=0 then gO v v.trams[k] else fresh v.trams[k].name ((v.trams.take k).map Tram.name):=rfl
      have hfre:=RV v.trams[k].name ((v.trams.take k).map Tram.name) (h.names _ (List.getElem_mem hk1)) (by rw [hlen];omega)
      have htn:=P6 hk1
      obtain ⟨p,hpe⟩:∃ p,v.trams[k]=p:=⟨_,rfl⟩
      rw [hpe] at hset hap hb htn hfre
      obtain ⟨F,hF⟩:∃ F,fresh p.name ((v.trams.take k).map Tram.name)=F:=⟨_,rfl⟩
      rw [hF] at hset hfre
      have htr:=VF v p hst (by omega)
      obtain ⟨E,hE⟩:∃ E,gO v p=E:=⟨_,rfl⟩
      rw [hE] at htr hset
      (repeat (first|simp only [↓QA,QB,Nat.reduceLT,reduceIte,Nat.reduceEqDiff,Nat.reduceAdd,Nat.reduceLeDiff,Nat.reduceMul,Nat.reduceBEq,aV,hk1,hpe]|refine rd0 rfl ?_))
      ((first|refine xD (hfre) (by try simp only [QS,QC,Nat.reduceLT,reduceIte,Nat.reduceEqDiff,Nat.reduceAdd,Nat.reduceLeDiff,Nat.reduceMul,Nat.reduceBEq,aV]) trivial ?_|refine AF (hfre) (by try simp only [QS,QC,Nat.reduceLT,reduceIte,Nat.reduceEqDiff,Nat.reduceAdd,Nat.reduceLeDiff,Nat.reduceMul,Nat.reduceBEq,aV]) trivial ?_);(repeat (first|simp only [↓QA,QB,Nat.reduceLT,reduceIte,Nat.reduceEqDiff,Nat.reduceAdd,Nat.reduceLeDiff,Nat.reduceMul,Nat.reduceBEq,aV,hk1,hpe,hap]|refine rd0 rfl ?_)))
      cases hf:(F==0)
      ·have hf':F≠0:=by simpa using hf
       rw [if_neg hf'] at hset
       rw [hset,if_neg hf'] at hb
       rw [←hb]
       (repeat (first|simp only [↓QA,QB,Nat.reduceLT,reduceIte,Nat.reduceEqDiff,Nat.reduceAdd,Nat.reduceLeDiff,Nat.reduceMul,Nat.reduceBEq,aV,hf]|refine rd0 rfl ?_))
       rfl
      ·have hf':F=0:=by simpa using hf
       rw [if_pos hf'] at hset
       rw [hset] at hb
       (repeat (first|simp only [↓QA,QB,Nat.reduceLT,reduceIte,Nat.reduceEqDiff,Nat.reduceAdd,Nat.reduceLeDiff,Nat.reduceMul,Nat.reduceBEq,aV,hf,hk1,hpe]|refine rd0 rfl ?_))
       ((first|refine aC (htr) rfl dd ?_|refine aD (htr) rfl dd ?_);(repeat (first|simp only [↓QA,QB,Nat.reduceLT,reduceIte,Nat.reduceEqDiff,Nat.reduceAdd,Nat.reduceLeDiff,Nat.reduceMul,Nat.reduceBEq,aV,hk1,hpe]|refine rd0 rfl ?_)))
       cases h9:(E==0)
       ·have h9':E≠0:=by simpa using h9
        rw [if_neg h9'] at hb
        (repeat (first|simp only [↓QA,QB,Nat.reduceLT,reduceIte,Nat.reduceEqDiff,Nat.reduceAdd,Nat.reduceLeDiff,Nat.reduceMul,Nat.reduceBEq,aV,h9]|refine rd0 rfl ?_))
        rw [←hb]
        rfl
       ·have h9':E=0:=by simpa using h9
        rw [if_pos h9'] at hb
        (repeat (first|simp only [↓QA,QB,Nat.reduceLT,reduceIte,Nat.reduceEqDiff,Nat.reduceAdd,Nat.reduceLeDiff,Nat.reduceMul,Nat.reduceBEq,aV,h9,hw]|refine rd0 rfl ?_))
        refine ⟨(k+1,true),⟨by simp only;omega,hb⟩,by simp only;omega,?_⟩
        try simp only [aE,QE,Nat.reduceLT,reduceIte,Nat.reduceEqDiff,Nat.reduceAdd,Nat.reduceLeDiff,Nat.reduceMul,Nat.reduceBEq,aV,htn,hw]
        try simp [aL]
     ·have hk1:k=v.trams.length:=by simp at hd;omega
      rw [kG hk1] at hb
      rw [←hb,hk1]
      (repeat (first|simp only [↓QA,QB,Nat.reduceLT,reduceIte,Nat.reduceEqDiff,Nat.reduceAdd,Nat.reduceLeDiff,Nat.reduceMul,Nat.reduceBEq,aV]|refine rd0 rfl ?_))
      cases h7:decide ((3:Int)<(v.seen.length:Int))
      case' true =>
       have h7':3<v.seen.length:=by first|(have:=of_decide_eq_false h7;omega)|(have:=of_decide_eq_true h7;omega)
       (repeat (first|simp only [↓QA,QB,Nat.reduceLT,reduceIte,Nat.reduceEqDiff,Nat.reduceAdd,Nat.reduceLeDiff,Nat.reduceMul,Nat.reduceBEq,aV]|refine rd0 rfl ?_))
       simp [nP,h7',qN]
      have h7':¬3<v.seen.length:=by first|(have:=of_decide_eq_false h7;omega)|(have:=of_decide_eq_true h7;omega)
      have hc:nP v=match bK (jX v) v.seen 0 with|some (i,e)=>(4,(i:Int),e)|none=>(0,0,0):=by simp only [nP,h7',if_false];try rfl
      rw [hc]
      have hwl:IntKind.i64.wrap ((v.trams.length:Int)-1)=(v.trams.length:Int)-1:=dU ⟨by omega,by omega⟩
      (repeat (first|simp only [↓QA,QB,Nat.reduceLT,reduceIte,Nat.reduceEqDiff,Nat.reduceAdd,Nat.reduceLeDiff,Nat.reduceMul,Nat.reduceBEq,aV]|refine rd0 rfl ?_))
      refine bY (S:=Nat) 0 (fun k=>k≤v.seen.length∧bK (jX v) (v.seen.drop k) k=bK (jX v) v.seen 0) (fun k=>v.seen.length-k)
       (fun k=>[(1,.ptr 0 0),(10,.int .i64 k)]) (fun _=>[.cells (aB v),.tok 1 v.trams.length ex]) ⟨Nat.zero_le _,by simp⟩ (by simp [aB,ints]) ?_ fun m hm=>?_
      ·try simp only [aE,QE,Nat.reduceLT,reduceIte,Nat.reduceEqDiff,Nat.reduceAdd,Nat.reduceLeDiff,Nat.reduceMul,Nat.reduceBEq,aV]
       try simp
      ·obtain ⟨hm,hbm⟩:=hm
       (repeat (first|simp only [↓QA,QB,Nat.reduceLT,reduceIte,Nat.reduceEqDiff,Nat.reduceAdd,Nat.reduceLeDiff,Nat.reduceMul,Nat.reduceBEq,aV,aBP]|refine rd0 rfl ?_))
       refine aG (fun hd3=>?_) fun hd3=>?_
       ·have hm1:m<v.seen.length:=by simpa using hd3
        rw [jL hm1] at hbm
        have hw3:=bX hm1 hfs
        obtain ⟨x,hx⟩:∃ x,v.seen[m]=x:=⟨_,rfl⟩
        rw [hx] at hbm
        have hle:jX v m x=if inR x.tram 0 ((v.trams.length:Int)-1)=false then 4 else if inR x.minute (-1) 400=false then 7 else 0:=rfl
        rw [hle] at hbm
        (repeat (first|simp only [↓QA,QB,Nat.reduceLT,reduceIte,Nat.reduceEqDiff,Nat.reduceAdd,Nat.reduceLeDiff,Nat.reduceMul,Nat.reduceBEq,aV,hm1,hx,hwl]|refine rd0 rfl ?_))
        ((first|refine aC (gU x.tram 0 ((v.trams.length:Int)-1)) rfl dd ?_|refine aD (gU x.tram 0 ((v.trams.length:Int)-1)) rfl dd ?_);(repeat (first|simp only [↓QA,QB,Nat.reduceLT,reduceIte,Nat.reduceEqDiff,Nat.reduceAdd,Nat.reduceLeDiff,Nat.reduceMul,Nat.reduceBEq,aV,hm1,hx,hwl]|refine rd0 rfl ?_)))
        cases hi:inR x.tram 0 ((v.trams.length:Int)-1)
        ·rw [hi] at hbm
         (repeat (first|simp only [↓QA,QB,Nat.reduceLT,reduceIte,Nat.reduceEqDiff,Nat.reduceAdd,Nat.reduceLeDiff,Nat.reduceMul,Nat.reduceBEq,aV,hm1]|refine rd0 rfl ?_))
         rw [←hbm]
         rfl
        ·rw [hi] at hbm
         simp only [Bool.true_eq_false,if_false] at hbm
         (repeat (first|simp only [↓QA,QB,Nat.reduceLT,reduceIte,Nat.reduceEqDiff,Nat.reduceAdd,Nat.reduceLeDiff,Nat.reduceMul,Nat.reduceBEq,aV,hm1,hx]|refine rd0 rfl ?_))
         ((first|refine aC (gU x.minute (-1) 400) rfl dd ?_|refine aD (gU x.minute (-1) 400) rfl dd ?_);(repeat (first|simp only [↓QA,QB,Nat.reduceLT,reduceIte,Nat.reduceEqDiff,Nat.reduceAdd,Nat.reduceLeDiff,Nat.reduceMul,Nat.reduceBEq,aV,hm1,hx]|refine rd0 rfl ?_)))
         cases hi2:inR x.minute (-1) 400
         ·rw [hi2] at hbm
          (repeat (first|simp only [↓QA,QB,Nat.reduceLT,reduceIte,Nat.reduceEqDiff,Nat.reduceAdd,Nat.reduceLeDiff,Nat.reduceMul,Nat.reduceBEq,aV,hm1]|refine rd0 rfl ?_))
          rw [←hbm]
          simp [qN]
         ·rw [hi2] at hbm
          (repeat (first|simp only [↓QA,QB,Nat.reduceLT,reduceIte,Nat.reduceEqDiff,Nat.reduceAdd,Nat.reduceLeDiff,Nat.reduceMul,Nat.reduceBEq,aV,hm1,hw3]|refine rd0 rfl ?_))
          refine ⟨m+1,⟨by omega,by rw [←hbm];rfl⟩,by omega,?_⟩
          try simp only [aE,QE,Nat.reduceLT,reduceIte,Nat.reduceEqDiff,Nat.reduceAdd,Nat.reduceLeDiff,Nat.reduceMul,Nat.reduceBEq,aV,hw3]
          try simp
       ·have hm1:m=v.seen.length:=by simp at hd3;omega
        rw [kG hm1] at hbm
        rw [←hbm]
        (repeat (first|simp only [↓QA,QB,Nat.reduceLT,reduceIte,Nat.reduceEqDiff,Nat.reduceAdd,Nat.reduceLeDiff,Nat.reduceMul,Nat.reduceBEq,aV]|refine rd0 rfl ?_))
        rfl
def gL (v:Net):List Int→Int→List Int→Option Int
 |[],s,_=>some s
 |r::l,s,met=>if s=0∨dI (bS v r) s<0∨met.contains (dI (bS v r) s)=true then none else gL v l (dI (bS v r) s) (met++[dI (bS v r) s])
def jS (v:Net) (s:Int) (p:List Int):Bool:=match gL v p s [s] with|some o=>o==0&&!p.isEmpty|none=>false
def fL (v:Net) (s:Int) (p:List Int):Bool:=match gL v p s [s] with|some o=>!(o==0)|none=>false
theorem w7 (v:Net):∀ (l:List Int) (s:Int) (met:List Int),s≠0→jC v l s met=(match gL v l s met with|some o=>o==0|none=>false)
 |[],s,met,h=>by simp [jC,gL]
 |r::l,s,met,h=>by
  simp only [jC,gL]
  obtain ⟨o,ho⟩:∃ o,dI (bS v r) s=o:=⟨_,rfl⟩
  rw [ho]
  by_cases h1:o<0
  ·simp [h1]
  ·by_cases h2:met.contains o=true
   ·rw [if_pos (.inr (.inl h2)),if_pos (.inr (.inr h2))]
   ·by_cases h3:o=0
    ·subst h3
     rw [if_neg (show ¬(s=0∨(0:Int)<0∨met.contains 0=true) from fun q=>by rcases q with q|q|q;exact h q;omega;exact h2 q)]
     cases l with
     |nil=>rw [if_neg (by simp only [ne_eq,not_true_eq_false,and_false,or_false];exact fun q=>by rcases q with q|q;omega;exact h2 q)];simp [jC,gL]
     |cons x l=>rw [if_pos (.inr (.inr ⟨rfl,by simp⟩))];simp [gL]
    ·rw [if_neg (fun q=>by rcases q with q|q|q;exact h1 q;exact h2 q;exact h3 q.1),if_neg (fun q=>by rcases q with q|q|q;exact h q;exact h1 q;exact h2 q)]
     exact w7 v l o _ h3
theorem zG {v:Net} {s:Int} {p:List Int} (h:1≤p.length∧p.length≤4):gY v s p=jS v s p:=by
 have h1:inR p.length 1 4=true:=d5.2 (by omega)
 have he:p.isEmpty=false:=by cases p<;>simp at h ⊢
 rw [gY,jS,he]
 by_cases hs:s=0
 ·rw [if_pos (.inr hs),hs]
  cases p with
  |nil=>simp at he
  |cons x l=>simp [gL]
 ·rw [if_neg (by simp [h1,hs]),w7 v p s [s] hs]
  cases gL v p s [s]<;>simp
theorem CC (v:Net) (r:Int) (t:List Int):∀ (l:List Int) (s:Int) (met:List Int) (x:Int),gL v (l++r::t) s met=some x→∃ o,gL v l s met=some o∧o≠0
 |[],s,met,x,h=>by
  simp only [List.nil_append,gL] at h
  split at h
  ·cases h
  ·rename_i hn
   exact ⟨s,rfl,fun e=>hn (.inl e)⟩
 |y::l,s,met,x,h=>by
  simp only [List.cons_append,gL] at h ⊢
  split at h
  ·cases h
  ·rename_i hn
   rw [if_neg hn]
   exact CC v r t l _ _ x h
theorem HI {r:Rail} {s:Int} (h:¬dI r s<0):(s=r.a∧dI r s=r.b)∨(s=r.b∧dI r s=r.a):=by
 unfold dI at h ⊢
 split
 ·rename_i h1;exact .inl ⟨h1,rfl⟩
 ·rename_i h1
  rw [if_neg h1] at h
  split
  ·rename_i h2;exact .inr ⟨h2,rfl⟩
  ·rename_i h2
   rw [if_neg h2] at h
   omega
theorem HS (v:Net) (r:Int):∀ (l:List Int) (s:Int) (met:List Int),(bS v r).a∈met→(bS v r).b∈met→r∈l→gL v l s met=none
 |[],s,met,_,_,h=>by cases h
 |y::l,s,met,ha,hb,h=>by
  simp only [gL]
  split
  ·rfl
  ·rename_i hn
   rcases List.mem_cons.1 h with rfl|h
   ·exfalso
    rw [not_or,not_or] at hn
    obtain ⟨h1,h2,h3⟩:=hn
    apply h3
    rw [List.contains_iff_mem]
    rcases HI h2 with ⟨_,e⟩|⟨_,e⟩<;>rw [e]<;>assumption
   ·exact HS v r l _ _ (List.mem_append_left _ ha) (List.mem_append_left _ hb) h
theorem vR (v:Net):∀ (l:List Int) (s:Int) (met:List Int) (x:Int),s∈met→gL v l s met=some x→l.Nodup
 |[],s,met,x,_,_=>List.nodup_nil
 |y::l,s,met,x,hs,h=>by
  simp only [gL] at h
  split at h
  ·cases h
  ·rename_i hn
   rw [not_or,not_or] at hn
   obtain ⟨h1,h2,h3⟩:=hn
   have hm:dI (bS v y) s∈met++[dI (bS v y) s]:=by simp
   have hs':s∈met++[dI (bS v y) s]:=List.mem_append_left _ hs
   refine List.nodup_cons.2 ⟨fun hy=>?_,vR v l _ _ x hm h⟩
   have hab:(bS v y).a∈met++[dI (bS v y) s]∧(bS v y).b∈met++[dI (bS v y) s]:=by
    rcases HI h2 with ⟨e1,e2⟩|⟨e1,e2⟩
    ·rw [←e1,←e2];exact ⟨hs',hm⟩
    ·rw [←e1,←e2];exact ⟨hm,hs'⟩
   rw [HS v y l _ _ hab.1 hab.2 hy] at h
   cases h
def rB (b:Int):List Int:=if b<0 then [] else [b]
def wO (v:Net) (b r:Int):Bool:=!(r==b)&&!decide ((bS v r).shut=1)
def H5 (v:Net) (b:Int) (l:List Int):List (List Int):=((aU 0 v.rails.length).filter (wO v b)).map fun r=>l++[r]
def vB (v:Net) (s b:Int):Nat→List (List Int)
 |0=>[[]]
 |k+1=>(vB v s b k).flatMap fun l=>(H5 v b l).filter (fL v s)
def GF (v:Net) (s b:Int):Nat→List (List Int)
 |0=>[]
 |k+1=>GF v s b k++(vB v s b k).flatMap fun l=>(H5 v b l).filter (jS v s)
theorem yD (v:Net) (but:List Int):∀ k,∀ l∈iC v but k,l.length=k
 |0,l,h=>by simp [iC] at h;simp [h]
 |k+1,l,h=>by
  simp only [iC,List.mem_flatMap,BS,List.mem_map] at h
  obtain ⟨a,ha,r,_,rfl⟩:=h
  simp [yD v but k a ha]
theorem nX {α β:Type} (p:β→Bool) (f:α→List β):∀ l:List α,(l.flatMap f).filter p=l.flatMap fun x=>(f x).filter p
 |[]=>rfl
 |x::l=>by rw [List.flatMap_cons,List.filter_append,nX p f l,List.flatMap_cons]
theorem nQ {α β:Type} (p:α→Bool) (f:α→List β):∀ l:List α,(l.filter p).flatMap f=l.flatMap fun x=>if p x=true then f x else []
 |[]=>rfl
 |x::l=>by
  rw [List.flatMap_cons,List.filter_cons,←nQ p f l]
  split<;>simp
theorem CE {v:Net} {s b:Int} {q:List Int→Bool} {l:List Int} (h:∀ r,q (l++[r])=true→fL v s l=true∧r∉l):(BS v (rB b) l).filter q=if fL v s l=true then (H5 v b l).filter q else []:=by
 have e:(BS v (rB b) l).filter q=(H5 v b l).filter q:=by
  simp only [BS,H5,List.filter_map,List.filter_filter]
  congr 1
  refine List.filter_congr fun r hr=>?_
  have hr0:=(cC _ _ _).1 hr
  simp only [Function.comp_def]
  cases hq:q (l++[r]) with
  |false=>simp
  |true =>
   have hc:l.contains r=false:=by rw [Bool.eq_false_iff,Ne,List.contains_iff_mem];exact (h r hq).2
   have hb:(rB b).contains r=(r==b):=by
    unfold rB
    split
    ·rw [Bool.eq_iff_iff];simp;omega
    ·rw [Bool.eq_iff_iff];simp
   simp only [MD,wO,hc,hb,Bool.true_and,Bool.not_false,Bool.and_true]
   rw [Bool.and_comm]
 rw [e]
 split
 ·rfl
 ·rename_i hb
  rw [List.filter_eq_nil_iff]
  intro x hx
  simp only [H5,List.mem_map] at hx
  obtain ⟨r,_,rfl⟩:=hx
  intro hq
  exact hb (h r hq).1
theorem MI {v:Net} {s:Int} {l:List Int} {r:Int} (h:fL v s (l++[r])=true):fL v s l=true∧r∉l:=by
 unfold fL at h
 split at h
 ·rename_i o ho
  obtain ⟨x,hx,h0⟩:=CC v r [] l s [s] o ho
  refine ⟨by simp [fL,hx,h0],?_⟩
  have:=vR v _ s [s] o (by simp) ho
  rw [List.nodup_append] at this
  intro hm
  exact this.2.2 r hm r (by simp) rfl
 ·cases h
theorem PY {v:Net} {s:Int} {l:List Int} {r:Int} (h:jS v s (l++[r])=true):fL v s l=true∧r∉l:=by
 unfold jS at h
 split at h
 ·rename_i o ho
  obtain ⟨x,hx,h0⟩:=CC v r [] l s [s] o ho
  refine ⟨by simp [fL,hx,h0],?_⟩
  have:=vR v _ s [s] o (by simp) ho
  rw [List.nodup_append] at this
  intro hm
  exact this.2.2 r hm r (by simp) rfl
 ·cases h
theorem xC {v:Net} {s b:Int} (hs:s≠0):∀ k,vB v s b k=(iC v (rB b) k).filter (fL v s)
 |0=>by
  have h:fL v s []=true:=by simp [fL,gL,hs]
  simp only [vB,iC,List.filter_cons,h,if_true,List.filter_nil]
 |k+1=>by
  simp only [vB,iC]
  rw [xC hs k,nX,nQ]
  congr 1
  funext l
  exact (CE fun r=>MI).symm
theorem GK {v:Net} {s b:Int} (hs:s≠0):∀ k,k≤4→GF v s b k=iI v s (rB b) k
 |0,_=>rfl
 |k+1,hk=>by
  simp only [GF,iI,iC]
  rw [GK hs k (by omega),xC hs k,nQ]
  congr 1
  have e:((iC v (rB b) k).flatMap (BS v (rB b))).filter (gY v s)=((iC v (rB b) k).flatMap (BS v (rB b))).filter (jS v s):=by
   refine List.filter_congr fun l hl=>?_
   have:=yD v (rB b) (k+1) l hl
   exact zG (by omega)
  rw [e,nX]
  congr 1
  funext l
  exact (CE fun r=>PY).symm
theorem Q3 (v:Net) (but:List Int):eJ v 0 but=[]:=by
 have key:∀ k,iI v 0 but k=[]:=by
  intro k
  induction k with
  |zero=>rfl
  |succ k ih =>
   rw [iI,ih,List.nil_append,List.filter_eq_nil_iff]
   intro l _
   simp [gY]
 exact key 4
theorem aF0 (v:Net) {s b:Int} (hs:s≠0):GF v s b 4=eJ v s (rB b):=GK hs 4 (Nat.le_refl _)
def vN (ss:List Stay) (rail m s t:Int):Prop:=s≤t∧ss.any (iN rail t m)=false∧∀ y,s≤y→y<t→ss.any (iN rail y m)=true
theorem E3 {ss:List Stay} {rail m s t u:Int} (h:vN ss rail m s t) (k:vN ss rail m s u):t=u:=by
 obtain ⟨h1,h2,h3⟩:=h
 obtain ⟨k1,k2,k3⟩:=k
 by_cases a:t<u
 ·rw [k3 t h1 a] at h2;cases h2
 ·by_cases b:u<t
  ·rw [h3 u k1 b] at k2;cases k2
  ·omega
theorem xY {ss:List Stay} {rail m s B:Int} (hB:∀ x∈ss,x.til≤B) (h:ss.any (iN rail s m)=true):s<B:=by
 rw [List.any_eq_true] at h
 obtain ⟨x,hx,hc⟩:=h
 have:=hB x hx
 simp [iN] at hc
 omega
theorem DV {ss:List Stay} {rail m B:Int} (hB:∀ x∈ss,x.til≤B):∀ (k:Nat) (s:Int),B≤s+k→vN ss rail m s (qI ss rail m k s)
 |0,s,h=>⟨by simp [qI],by
   rw [qI,Bool.eq_false_iff]
   intro hc
   have:=xY hB hc
   omega,fun y h1 h2=>by simp [qI] at h2;omega⟩
 |k+1,s,h=>by
  rw [qI]
  split
  ·rename_i hc
   obtain ⟨h1,h2,h3⟩:=DV hB k (s+1) (by omega)
   refine ⟨by omega,h2,fun y q1 q2=>?_⟩
   by_cases e:y=s
   ·subst e;exact hc
   ·exact h3 y (by omega) q2
  ·rename_i hc
   exact ⟨Int.le_refl _,by simpa using hc,fun y q1 q2=>by omega⟩
theorem yY {ss:List Stay} {rail m B s:Int} (hB:∀ x∈ss,x.til≤B) (h:B≤s+1000):vN ss rail m s (g7 ss rail s m):=DV hB 1000 s h
theorem Z0 {ss:List Stay} {rail m B s t:Int} (hB:∀ x∈ss,x.til≤B) (h:vN ss rail m s t) (hs:s≤B):t≤B:=by
 by_cases e:s=t
 ·omega
 ·have h1:=h.1
  have:=xY hB (h.2.2 (t-1) (by omega) (by omega))
  omega
theorem MY {rail m s:Int} {x:Stay} (h:iN rail s m x=true) {y:Int} (h1:s≤y) (h2:y<x.til):iN rail y m x=true:=by
 simp [iN] at h ⊢
 omega
theorem wF {rail m s:Int} {x:Stay} (h:iN rail s m x=true):s<x.til:=by
 simp [iN] at h
 omega
def sH (ss:List Stay) (rail m s t:Int):Prop:=s≤t∧∀ y,s≤y→y<t→ss.any (iN rail y m)=true
theorem DZ (ss:List Stay) (rail m s:Int):sH ss rail m s s:=⟨Int.le_refl _,fun y h1 h2=>by omega⟩
theorem EZ {ss:List Stay} {rail m s t u:Int} {x:Stay} (h:sH ss rail m s t) (hx:x∈ss) (ht:t≤u) (hc:iN rail u m x=true) (hm:∀ y,t≤y→y<u→ss.any (iN rail y m)=true):sH ss rail m s x.til:=by
 have:=wF hc
 refine ⟨by have:=h.1;omega,fun y h1 h2=>?_⟩
 by_cases a:y<t
 ·exact h.2 y h1 a
 ·by_cases b:y<u
  ·exact hm y (by omega) b
  ·rw [List.any_eq_true]
   exact ⟨x,hx,MY hc (by omega) h2⟩
theorem DR {ss:List Stay} {rail m s t:Int} (h:sH ss rail m s t) (hf:ss.any (iN rail t m)=false):vN ss rail m s t:=⟨h.1,hf,h.2⟩
theorem AA {ss:List Stay} {rail m B s t:Int} (hB:∀ x∈ss,x.til≤B) (h:sH ss rail m s t) (hs:s≤B):t≤B:=by
 by_cases e:s=t
 ·omega
 ·have h1:=h.1
  have:=xY hB (h.2 (t-1) (by omega) (by omega))
  omega
structure RunOk (v:Net) (ps:List (List Int)):Prop where
 len:ps.length=v.trams.length
 few:∀ p∈ps,p.length≤4
 rails:∀ p∈ps,∀ r∈p,0≤r∧r<v.rails.length
def vQ (v:Net) (m:Int→Int):Prop:=∀ r:Int,0≤r→r<v.rails.length→0≤m r∧m r≤20
structure StaysOk (ss:List Stay) (n:Nat):Prop where
 len:ss.length≤n
 til:∀ x∈ss,x.til≤60+20*n
 frm:∀ x∈ss,0≤x.frm
theorem IK {ss:List Stay} {n k:Nat} (h:StaysOk ss n) (hk:n≤k):StaysOk ss k:=⟨by have:=h.len;omega,fun x hx=>by have:=h.til x hx;omega,h.frm⟩
theorem GL {ss:List Stay} {n:Nat} (h:StaysOk ss n) (hn:n≤40) {rail m s:Int} (h0:0≤s) (hs:s≤60+20*n):vN ss rail m s (g7 ss rail s m)∧s≤g7 ss rail s m∧g7 ss rail s m≤60+20*n:=by
 have h1:=yY (rail:=rail) (m:=m) h.til (show (60:Int)+20*n≤s+1000 by omega)
 exact ⟨h1,h1.1,Z0 h.til h1 hs⟩
theorem RL {m:Int→Int} {i:Int}:∀ (l:List Int) (a:Int) (ss:List Stay) (n:Nat),StaysOk ss n→n+l.length≤40→0≤a→a≤60+20*n→(∀ r∈l,0≤m r∧m r≤20) →
  StaysOk (kM m i l a ss).1 (n+l.length)∧a≤(kM m i l a ss).2∧(kM m i l a ss).2≤60+20*(n+l.length:Nat)
 |[],a,ss,n,h,hn,h0,h1,hm=>by simp only [kM,List.length_nil,Nat.add_zero];exact ⟨h,Int.le_refl _,h1⟩
 |r::l,a,ss,n,h,hn,h0,h1,hm=>by
  simp only [List.length_cons] at hn ⊢
  obtain ⟨f1,f2,f3⟩:=GL (rail:=r) (m:=m r) h (by omega) h0 h1
  have hmr:=hm r (by simp)
  simp only [kM]
  obtain ⟨q1,q2,q3⟩:=RL (m:=m) (i:=i) l (g7 ss r a (m r)+m r) (ss++[⟨i,r,g7 ss r a (m r),g7 ss r a (m r)+m r⟩]) (n+1) ⟨by have:=h.len;simp;omega,fun x hx=>by
   rcases List.mem_append.1 hx with hx|hx
   ·have:=h.til x hx;omega
   ·simp only [List.mem_singleton] at hx;subst hx;simp only;omega,fun x hx=>by
   rcases List.mem_append.1 hx with hx|hx
   ·exact h.frm x hx
   ·simp only [List.mem_singleton] at hx;subst hx;simp only;omega⟩ (by omega) (by omega) (by omega) (fun x hx=>hm x (by simp [hx]))
  rw [show n+(l.length+1)=n+1+l.length by omega]
  exact ⟨q1,by omega,q3⟩
theorem uJ {v:Net} {i:Nat} (h:i<v.trams.length):jI v i=v.trams[i].leaves:=by simp [jI,h]
theorem YW {m:Int→Int} {i a:Int} {l:List Int} {ss:List Stay} {n:Nat} (h:StaysOk ss n) (hn:n+l.length≤40) (h0:0≤a) (h1:a≤60) (hm:∀ r∈l,0≤m r∧m r≤20) :
  StaysOk (j3 m i a l ss).1 (n+l.length)∧-1≤(j3 m i a l ss).2∧(j3 m i a l ss).2≤60+20*(n+l.length:Nat):=by
 unfold j3
 split
 ·exact ⟨IK h (by omega),by simp only;omega,by simp only;omega⟩
 ·obtain ⟨q1,q2,q3⟩:=RL (i:=i) l a ss n h hn h0 (by omega) hm
  exact ⟨q1,by omega,q3⟩
theorem mA (v:Net) (m:Int→Int) (ps:List (List Int)):∀ k,(dB v m ps k).2.length=k
 |0=>rfl
 |k+1=>by simp [dB,mA v m ps k]
theorem A9 {v:Net} {ps:List (List Int)} (h:RunOk v ps) {i:Nat} (hi:i<v.trams.length):eI ps i∈ps:=by
 have:i<ps.length:=by rw [h.len];exact hi
 simp [eI,this]
theorem F7 {v:Net} (hv:Vd v) {m:Int→Int} (hm:vQ v m) {ps:List (List Int)} (hp:RunOk v ps):∀ k,k≤v.trams.length→StaysOk (dB v m ps k).1 (4*k)∧∀ c∈(dB v m ps k).2,-1≤c∧c≤300
 |0,_=>⟨⟨by simp [dB],by simp [dB],by simp [dB]⟩,by simp [dB]⟩
 |k+1,hk=>by
  have hn:=hv.ntr
  obtain ⟨h1,h2⟩:=F7 hv hm hp k (by omega)
  have ht:=pU hv (show k<v.trams.length by omega)
  have hpm:=A9 hp (show k<v.trams.length by omega)
  have hpl:=hp.few _ hpm
  have h60:=ht.leaves
  rw [←uJ (show k<v.trams.length by omega)] at h60
  obtain ⟨q1,q2,q3⟩:=YW (m:=m) (i:=k) (a:=jI v k) (l:=eI ps k) h1 (by omega) h60.1 h60.2 (fun r hr=>by
   have:=hp.rails _ hpm r hr
   exact hm r this.1 this.2)
  simp only [dB]
  refine ⟨IK q1 (by omega),fun c hc=>?_⟩
  rcases List.mem_append.1 hc with hc|hc
  ·exact h2 c hc
  ·simp only [List.mem_singleton] at hc
   subst hc
   omega
theorem LD {v:Net} (hv:Vd v):RunOk v (fY v):=by
 have key:∀ p∈fY v,p.length≤4∧∀ r∈p,0≤r∧r<v.rails.length:=by
  intro p hp
  simp only [fY,List.mem_map] at hp
  obtain ⟨t,ht,rfl⟩:=hp
  obtain ⟨i,hi,rfl⟩:=List.getElem_of_mem ht
  have:=pU hv hi
  exact ⟨this.len.2,this.path⟩
 exact ⟨by simp [fY],fun p hp=>(key p hp).1,fun p hp=>(key p hp).2⟩
theorem C5:∀ (l:List Int) (s:Span),s.lo≤s.hi→(l.foldl mN s).lo≤s.lo∧s.hi≤(l.foldl mN s).hi∧(∀ x∈l,(l.foldl mN s).lo≤x∧x≤(l.foldl mN s).hi)∧((l.foldl mN s).lo=s.lo∨(l.foldl mN s).lo∈l)∧((l.foldl mN s).hi=s.hi∨(l.foldl mN s).hi∈l)
 |[],s,h=>⟨Int.le_refl _,Int.le_refl _,fun x hx=>by simp at hx,.inl rfl,.inl rfl⟩
 |y::l,s,h=>by
  have hj:(mN s y).lo≤(mN s y).hi:=by simp only [mN];omega
  obtain ⟨a,b,c,d,e⟩:=C5 l (mN s y) hj
  simp only [List.foldl_cons]
  have h1:(mN s y).lo≤s.lo∧(mN s y).lo≤y∧((mN s y).lo=s.lo∨(mN s y).lo=y):=by simp only [mN];omega
  have h2:s.hi≤(mN s y).hi∧y≤(mN s y).hi∧((mN s y).hi=s.hi∨(mN s y).hi=y):=by simp only [mN];omega
  refine ⟨by omega,by omega,fun x hx=>?_,?_,?_⟩
  ·rcases List.mem_cons.1 hx with rfl|hx
   ·omega
   ·exact c x hx
  ·rcases d with d|d
   ·rcases h1.2.2 with h|h
    ·left;omega
    ·right;rw [d,h];simp
   ·right;simp [d]
  ·rcases e with e|e
   ·rcases h2.2.2 with h|h
    ·left;omega
    ·right;rw [e,h];simp
   ·right;simp [e]
theorem mL {l:List Int} (h:l≠[]):(iE l).lo∈l∧(iE l).hi∈l∧∀ x∈l,(iE l).lo≤x∧x≤(iE l).hi:=by
 cases l with
 |nil=>exact absurd rfl h
 |cons x l =>
  obtain ⟨a,b,c,d,e⟩:=C5 l ⟨x,x⟩ (Int.le_refl _)
  simp only [iE]
  refine ⟨?_,?_,fun y hy=>?_⟩
  ·rcases d with d|d
   ·rw [d];simp
   ·simp [d]
  ·rcases e with e|e
   ·rw [e];simp
   ·simp [e]
  ·rcases List.mem_cons.1 hy with rfl|hy
   ·exact ⟨a,b⟩
   ·exact c y hy
theorem ET {l k:List Int} (hl:l≠[]) (h:∀ x∈l,x∈k):(iE k).lo≤(iE l).lo∧(iE l).hi≤(iE k).hi:=by
 have hk:k≠[]:=by
  intro e;subst e
  exact absurd (h _ (mL hl).1) (by simp)
 have a:=mL hl
 have b:=mL hk
 exact ⟨(b.2.2 _ (h _ a.1)).1,(b.2.2 _ (h _ a.2.1)).2⟩
theorem TE {l k:List Int} (h:∀ x,x∈l↔x∈k):iE l=iE k:=by
 by_cases hl:l=[]
 ·subst hl
  have:k=[]:=by
   cases k with
   |nil=>rfl
   |cons y k=>exact absurd ((h y).2 (by simp)) (by simp)
  rw [this]
 ·have hk:k≠[]:=by
   intro e;subst e
   exact absurd ((h _).1 (mL hl).1) (by simp)
  have a:=ET hl fun x hx=>(h x).1 hx
  have b:=ET hk fun x hx=>(h x).2 hx
  obtain ⟨p,q⟩:(iE l).lo=(iE k).lo∧(iE l).hi=(iE k).hi:=⟨by omega,by omega⟩
  generalize iE l=x at *
  generalize iE k=y at *
  cases x;cases y;simp only at p q;rw [p,q]
theorem BR {α:Type} {p:α→Bool} {l:List α}:(l.filter p).length=l.length↔∀ x∈l,p x=true:=by
 rw [List.length_filter_eq_length_iff]
theorem uC {α:Type} {p:α→Bool} {l:List α}:eP (l.filter p).length l.length=1↔∀ x∈l,p x=true:=by
 rw [←BR]
 unfold eP
 split
 ·rename_i h;simp [h]
 ·rename_i h
  split
  ·simp [h]
  ·simp [h]
theorem sZ {α:Type} {p:α→Bool} {l:List α}:eP (l.filter p).length l.length=2↔l≠[]∧∀ x∈l,p x=false:=by
 unfold eP
 split
 ·rename_i h
  simp only [show ¬(1:Int)=2 by omega,false_iff]
  rintro ⟨h1,h2⟩
  rw [BR] at h
  cases l with
  |nil=>exact h1 rfl
  |cons x l =>
   have a:=h x (by simp)
   have b:=h2 x (by simp)
   rw [a] at b;cases b
 ·rename_i h
  split
  ·rename_i h0
   simp only [true_iff]
   refine ⟨fun e=>?_,fun x hx=>?_⟩
   ·subst e;simp at h
   ·have:=List.eq_nil_of_length_eq_zero h0
    rw [List.filter_eq_nil_iff] at this
    simpa using this x hx
  ·rename_i h0
   simp only [show ¬(0:Int)=2 by omega,false_iff]
   rintro ⟨h1,h2⟩
   apply h0
   rw [List.length_eq_zero_iff,List.filter_eq_nil_iff]
   intro x hx
   simp [h2 x hx]
theorem qG (a b:Nat):eP a b=0∨eP a b=1∨eP a b=2:=by
 unfold eP;split
 ·simp
 ·split<;>simp
theorem K7 {α β:Type} {p:α→Bool} {q:β→Bool} {l:List α} {k:List β} (h1:∀ x∈l,∃ y∈k,q y=p x) (h2:∀ y∈k,∃ x∈l,p x=q y):eP (l.filter p).length l.length=eP (k.filter q).length k.length:=by
 have a:eP (l.filter p).length l.length=1↔eP (k.filter q).length k.length=1:=by
  rw [uC,uC]
  constructor
  ·intro h y hy;obtain ⟨x,hx,e⟩:=h2 y hy;rw [←e];exact h x hx
  ·intro h x hx;obtain ⟨y,hy,e⟩:=h1 x hx;rw [←e];exact h y hy
 have b:eP (l.filter p).length l.length=2↔eP (k.filter q).length k.length=2:=by
  rw [sZ,sZ]
  constructor
  ·rintro ⟨hn,h⟩
   refine ⟨fun e=>?_,fun y hy=>?_⟩
   ·subst e
    obtain ⟨x,hx⟩:=List.exists_mem_of_ne_nil l hn
    obtain ⟨y,hy,_⟩:=h1 x hx
    simp at hy
   ·obtain ⟨x,hx,e⟩:=h2 y hy;rw [←e];exact h x hx
  ·rintro ⟨hn,h⟩
   refine ⟨fun e=>?_,fun x hx=>?_⟩
   ·subst e
    obtain ⟨y,hy⟩:=List.exists_mem_of_ne_nil k hn
    obtain ⟨x,hx,_⟩:=h2 y hy
    simp at hx
   ·obtain ⟨y,hy,e⟩:=h1 x hx;rw [←e];exact h y hy
 rcases qG (l.filter p).length l.length with h|h|h<;>rcases qG (k.filter q).length k.length with h'|h'|h'<;>simp_all
def chP (r:Rail):List Int:=(if r.shut=0 then [] else [0])++(if r.shut=1 then [] else B8 r.mins)
def gC:List Rail→List Int→List (List Int)
 |[],l=>[l]
 |r::rs,l=>(chP r).flatMap fun n=>gC rs (l++[n])
def rlI (c:List Int) (r:Int):Int:=(c[r.toNat]?).getD 0
def tC (s:State):List Int:=(s.closed.zip s.mins).map fun x=>if x.1=true then 0 else x.2
theorem yO {s:State} (h:s.closed.length=s.mins.length):eff s=rlI (tC s):=by
 funext r
 simp only [eff,rlI,tC,List.getElem?_map,List.getElem?_zip_eq_some,List.zip]
 obtain ⟨i,hi⟩:∃ i,r.toNat=i:=⟨_,rfl⟩
 rw [hi]
 by_cases hl:i<s.closed.length
 ·have hm:i<s.mins.length:=by omega
  have e:(List.zipWith Prod.mk s.closed s.mins)[i]? = some (s.closed[i],s.mins[i]):=by
   rw [List.getElem?_zipWith];simp [hl,hm]
  rw [e]
  simp [hl,hm]
 ·have hm:¬i<s.mins.length:=by omega
  have e:(List.zipWith Prod.mk s.closed s.mins)[i]? = none:=by
   rw [List.getElem?_zipWith];simp [show s.closed.length≤i by omega]
  rw [e]
  simp [show s.closed.length≤i by omega,show s.mins.length≤i by omega]
theorem kD {s:Span} {x:Int}:x∈B8 s↔s.lo≤x∧x≤s.hi:=by
 rw [B8,cC];omega
theorem CM {l:List Int} {x:Int} {k:Nat} (h:l.length=k):((l++[x])[k]?).getD 0=x:=by subst h;simp
def VV (rs:List Rail) (k:Nat) (c:List Int):Prop:=c.length=k∧∀ i (h:i<k) (hr:i<rs.length),(c[i]?).getD 0∈chP rs[i]
theorem yB (s:State) (h:s.closed.length=s.mins.length) (c:Bool) (m:Int):tC ⟨s.closed++[c],s.mins++[m]⟩=tC s++[if c=true then 0 else m]:=by
 simp only [tC,List.zip]
 rw [List.zipWith_append h]
 simp
theorem tT {rs:List Rail}:∀ k,k≤rs.length→∀ s∈oH rs k,s.closed.length=k∧s.mins.length=k∧VV rs k (tC s)
 |0,_,s,h=>by
  simp [oH] at h
  subst h
  exact ⟨rfl,rfl,rfl,fun i h=>by omega⟩
 |k+1,hk,s,h=>by
  have hk1:k<rs.length:=by omega
  simp only [oH,List.getElem?_eq_getElem hk1,List.mem_flatMap,zX,List.mem_map,List.mem_filter] at h
  obtain ⟨s0,hs0,m,hm,c,⟨_,hc⟩,rfl⟩:=h
  obtain ⟨h1,h2,h3,h4⟩:=tT k (by omega) s0 hs0
  rw [yB s0 (by omega)]
  refine ⟨by simp [h1],by simp [h2],by simp [h3],fun i hi hr=>?_⟩
  by_cases e:i=k
  ·subst e
   rw [CM h3]
   simp only [chP,List.mem_append]
   simp only [u4,Bool.not_eq_true',Bool.or_eq_false_iff,Bool.and_eq_false_iff,decide_eq_false_iff_not] at hc
   cases c
   ·simp only [Bool.not_false,false_or,Bool.true_eq_false] at hc
    simp only [Bool.false_eq_true,if_false]
    exact .inr (by rw [if_neg hc.2];exact hm)
   ·simp only [Bool.true_eq_false,false_or] at hc
    simp only [if_true]
    exact .inl (by rw [if_neg hc.1];simp)
  ·rw [List.getElem?_append_left (by omega)]
   exact h4 i (by omega) hr
theorem SH {rs:List Rail} (hr:∀ r∈rs,r.mins.lo≤r.mins.hi∧1≤r.mins.lo):∀ k,k≤rs.length→∀ c,VV rs k c→∃ s∈oH rs k,tC s=c
 |0,_,c,h=>⟨⟨[],[]⟩,by simp [oH],by have:=h.1;rw [List.length_eq_zero_iff.1 this];rfl⟩
 |k+1,hk,c,h=>by
  have hk1:k<rs.length:=by omega
  obtain ⟨hl,hc⟩:=h
  obtain ⟨d,x,rfl⟩:∃ d x,c=d++[x]:=by
   rcases List.eq_nil_or_concat c with rfl|⟨d,x,rfl⟩
   ·simp at hl
   ·exact ⟨d,x,by simp⟩
  have hd:d.length=k:=by simpa using hl
  obtain ⟨s,hs,he⟩:=SH hr k (by omega) d ⟨hd,fun i hi hri=>by
   have:=hc i (by omega) hri
   rwa [List.getElem?_append_left (by omega)] at this⟩
  have hsl:=tT k (by omega) s hs
  have hx:=hc k (by omega) hk1
  rw [CM hd] at hx
  simp only [chP,List.mem_append] at hx
  have hrk:=hr _ (List.getElem_mem hk1)
  simp only [oH,List.getElem?_eq_getElem hk1]
  rcases hx with hx|hx
  ·split at hx
   ·cases hx
   ·rename_i h0
    simp only [List.mem_singleton] at hx
    subst hx
    refine ⟨⟨s.closed++[true],s.mins++[rs[k].mins.lo]⟩,?_,by rw [yB s (by omega),he];simp⟩
    simp only [List.mem_flatMap,zX,List.mem_map,List.mem_filter]
    exact ⟨s,hs,rs[k].mins.lo,kD.2 ⟨Int.le_refl _,hrk.1⟩,true,⟨by simp,by simp [u4,h0]⟩,rfl⟩
  ·split at hx
   ·cases hx
   ·rename_i h1
    refine ⟨⟨s.closed++[false],s.mins++[x]⟩,?_,by rw [yB s (by omega),he];simp⟩
    simp only [List.mem_flatMap,zX,List.mem_map,List.mem_filter]
    exact ⟨s,hs,x,hx,false,⟨by simp,by simp [u4,h1]⟩,rfl⟩
theorem jR:∀ (rs:List Rail) (l c:List Int),c∈gC rs l↔∃ t,c=l++t∧VV rs rs.length t
 |[],l,c=>by
  simp only [gC,List.mem_singleton]
  constructor
  ·rintro rfl;exact ⟨[],by simp,rfl,fun i h=>by simp at h⟩
  ·rintro ⟨t,rfl,ht,_⟩
   simp at ht
   simp [ht]
 |r::rs,l,c=>by
  simp only [gC,List.mem_flatMap]
  constructor
  ·rintro ⟨n,hn,hc⟩
   obtain ⟨t,rfl,ht,hx⟩:=(jR rs _ c).1 hc
   refine ⟨n::t,by simp,by simp [ht],fun i h hr=>?_⟩
   cases i with
   |zero=>exact hn
   |succ i=>exact hx i (by simpa using h) (by simpa using hr)
  ·rintro ⟨t,rfl,ht,hx⟩
   cases t with
   |nil=>simp at ht
   |cons n t =>
    refine ⟨n,hx 0 (by simp) (by simp),(jR rs _ _).2 ⟨t,by simp,by simpa using ht,fun i h hr=>?_⟩⟩
    exact hx (i+1) (by simpa using h) (by simpa using hr)
theorem D0 {rs:List Rail} {l c:List Int} (h:c∈gC rs l):c.length=l.length+rs.length:=by
 obtain ⟨t,rfl,ht,_⟩:=(jR rs l c).1 h
 simp [ht]
theorem aC4 {r:Rail} (h:1≤r.mins.lo):(chP r).Pairwise (·≠·):=by
 have hn:∀ (n:Nat) (a:Int),(aU a n).Pairwise (·≠·):=by
  intro n
  induction n with
  |zero=>intro a;exact List.Pairwise.nil
  |succ n ih =>
   intro a
   simp only [aU]
   refine List.Pairwise.cons (fun x hx=>?_) (ih (a+1))
   have:=(cC _ _ _).1 hx
   omega
 unfold chP
 rw [List.pairwise_append]
 refine ⟨by split<;>simp,by split;exact List.Pairwise.nil;exact hn _ _,fun a ha b hb=>?_⟩
 split at ha
 ·cases ha
 ·simp only [List.mem_singleton] at ha
  subst ha
  split at hb
  ·cases hb
  ·have:=kD.1 hb;omega
theorem HJ:∀ (rs:List Rail) (l:List Int),(∀ r∈rs,1≤r.mins.lo)→(gC rs l).Pairwise (·≠·)
 |[],l,_=>by simp [gC]
 |r::rs,l,h=>by
  simp only [gC]
  rw [List.pairwise_flatMap]
  refine ⟨fun n _=>HJ rs _ (fun x hx=>h x (by simp [hx])),List.Pairwise.imp ?_ (aC4 (h r (by simp)))⟩
  intro n m hnm x hx y hy e
  obtain ⟨t,rfl,_⟩:=(jR _ _ _).1 hx
  obtain ⟨u,hu,_⟩:=(jR _ _ _).1 hy
  have e2:=e.trans hu
  rw [List.append_assoc,List.append_assoc] at e2
  have:=List.append_cancel_left e2
  simp at this
  exact hnm this.1
def d7 (v:Net) (c:List Int):List Int:=iO v (fY v) (rlI c)
def sO (v:Net) (but c:List Int):Bool:=jZ v but (d7 v c)
def TL (v:Net) (but:List Int):List (List Int):=(gC v.rails []).filter (sO v but)
theorem qZ {s:State} (h:s.closed.length=s.mins.length) (v:Net):aX v s=d7 v (tC s):=by rw [aX,d7,yO h]
theorem gZ {v:Net} {s:State} (h:s∈bD v):s.closed.length=v.rails.length∧s.mins.length=v.rails.length:=by
 have:=tT v.rails.length (Nat.le_refl _) s h
 exact ⟨this.1,this.2.1⟩
theorem zM {v:Net} {s:State} (h:s∈bD v):tC s∈gC v.rails []:=by
 have:=tT v.rails.length (Nat.le_refl _) s h
 exact (jR _ _ _).2 ⟨tC s,by simp,this.2.2⟩
theorem rP {v:Net} (hv:Vd v) {c:List Int} (h:c∈gC v.rails []):∃ s∈bD v,tC s=c:=by
 obtain ⟨t,e,ht⟩:=(jR _ _ _).1 h
 rw [List.nil_append] at e
 subst e
 exact SH (fun r hr=>by have:=(hv.ra r hr).mins;omega) v.rails.length (Nat.le_refl _) c ht
theorem xS {v:Net} {bl:List Int} {s:State} (h:s∈aJ v bl):tC s∈TL v bl:=by
 obtain ⟨h1,h2⟩:=List.mem_filter.1 h
 have hl:=gZ h1
 refine List.mem_filter.2 ⟨zM h1,?_⟩
 rw [sO,←qZ (by omega)]
 exact h2
theorem uB {v:Net} (hv:Vd v) {bl:List Int} {c:List Int} (h:c∈TL v bl):∃ s∈aJ v bl,tC s=c:=by
 obtain ⟨h1,h2⟩:=List.mem_filter.1 h
 obtain ⟨s,hs,he⟩:=rP hv h1
 have hl:=gZ hs
 refine ⟨s,List.mem_filter.2 ⟨hs,?_⟩,he⟩
 rw [qZ (by omega),he]
 exact h2
theorem uM {v:Net} {bl:List Int} {s:State} (h:s∈aJ v bl):s.closed.length=v.rails.length∧s.mins.length=v.rails.length:=gZ (List.mem_filter.1 h).1
theorem OI {v:Net} (hv:Vd v) (bl:List Int):(TL v bl).isEmpty=(aJ v bl).isEmpty:=by
 rw [Bool.eq_iff_iff,List.isEmpty_iff,List.isEmpty_iff,List.eq_nil_iff_forall_not_mem,List.eq_nil_iff_forall_not_mem]
 constructor
 ·intro h s hs;exact h _ (xS hs)
 ·intro h c hc
  obtain ⟨s,hs,_⟩:=uB hv hc
  exact h s hs
theorem LT {v:Net} (hv:Vd v) (bl:List Int) (p:State→Bool) (q:List Int→Bool) (h:∀ s∈aJ v bl,p s=q (tC s)):(aJ v bl).all p=(TL v bl).all q:=by
 rw [Bool.eq_iff_iff,List.all_eq_true,List.all_eq_true]
 constructor
 ·intro a c hc
  obtain ⟨s,hs,rfl⟩:=uB hv hc
  rw [←h s hs]
  exact a s hs
 ·intro a s hs
  rw [h s hs]
  exact a _ (xS hs)
theorem UM {v:Net} (hv:Vd v) (bl:List Int) (p:State→Bool) (q:List Int→Bool) (h:∀ s∈aJ v bl,p s=q (tC s)):(aJ v bl).any p=(TL v bl).any q:=by
 rw [Bool.eq_iff_iff,List.any_eq_true,List.any_eq_true]
 constructor
 ·rintro ⟨s,hs,a⟩
  exact ⟨_,xS hs,by rw [←h s hs];exact a⟩
 ·rintro ⟨c,hc,a⟩
  obtain ⟨s,hs,rfl⟩:=uB hv hc
  exact ⟨s,hs,by rw [h s hs];exact a⟩
def lR (v:Net):Nat→List (List Int)→List (List (List Int))
 |0,p=>[p]
 |k+1,p=>(eJ v (g8 v p.length) []).flatMap fun w=>lR v k (p++[w])
theorem FH (v:Net):∀ k,∀ p∈oI v k,p.length=k
 |0,p,h=>by simp [oI] at h;simp [h]
 |k+1,p,h=>by
  simp only [oI,List.mem_flatMap,List.mem_map] at h
  obtain ⟨a,ha,w,_,rfl⟩:=h
  simp [FH v k a ha]
theorem lQ {α β:Type} {f g:α→List β}:∀ {l:List α},(∀ x∈l,f x=g x)→l.flatMap f=l.flatMap g
 |[],_=>rfl
 |x::l,h=>by rw [List.flatMap_cons,List.flatMap_cons,h x (by simp),lQ fun y hy=>h y (by simp [hy])]
theorem xE {α:Type}:∀ l:List α,(l.flatMap fun x=>[x])=l
 |[]=>rfl
 |x::l=>by rw [List.flatMap_cons,xE l];rfl
theorem EQ (v:Net):∀ k j,(oI v j).flatMap (lR v k)=oI v (j+k)
 |0,j=>by
  have:lR v 0=fun x=>[x]:=by funext x;rfl
  rw [this,xE];rfl
 |k+1,j=>by
  rw [show j+(k+1)=(j+1)+k by omega,←EQ v k (j+1)]
  simp only [oI]
  rw [List.flatMap_assoc]
  refine lQ fun p hp=>?_
  rw [lR,FH v j p hp,List.flatMap_map]
theorem yJ (v:Net):wI v=lR v v.trams.length []:=by
 have:=EQ v v.trams.length 0
 simp only [oI,List.flatMap_cons,List.flatMap_nil,List.append_nil,Nat.zero_add] at this
 exact this.symm
def iV (v:Net) (t:Nat) (w:List Int):Nat:=if w=eI (fY v) t then 0 else 1
def mvd (v:Net) (p:List (List Int)):Nat:=(oK v p).length
theorem A7 {p:List (List Int)} {t:Nat} (h:t<p.length) (w:List Int):eI (p++[w]) t=eI p t:=by simp [eI,List.getElem?_append_left h]
theorem KU (v:Net) (p:List (List Int)) (w:List Int):oK v (p++[w])=oK v p++(if w=eI (fY v) p.length then [] else [(p.length:Int)]):=by
 simp only [oK,List.length_append,List.length_cons,List.length_nil,Nat.zero_add,wV,List.filter_append,Int.zero_add]
 congr 1
 ·refine List.filter_congr fun t ht=>?_
  have:=(cC _ _ _).1 ht
  rw [A7 (by omega)]
 ·have:eI (p++[w]) p.length=w:=by simp [eI]
  simp only [List.filter_cons,List.filter_nil,Int.toNat_natCast,this]
  split<;>rename_i h
  ·split
   ·rename_i e;simp [e] at h
   ·rfl
  ·split
   ·rfl
   ·rename_i e;simp [e] at h
theorem CQ (v:Net) (p:List (List Int)) (w:List Int):mvd v (p++[w])=mvd v p+iV v p.length w:=by
 rw [mvd,KU,List.length_append,mvd,iV]
 split<;>simp
theorem OH (v:Net):∀ k p,∀ P∈lR v k p,mvd v p≤mvd v P
 |0,p,P,h=>by simp [lR] at h;subst h;exact Nat.le_refl _
 |k+1,p,P,h=>by
  simp only [lR,List.mem_flatMap] at h
  obtain ⟨w,_,hP⟩:=h
  have:=OH v k _ P hP
  rw [CQ] at this
  omega
def dfs (v:Net) (q:List (List Int)→Bool):Nat→List (List Int)→Nat→Option (List (List Int))
 |0,p,left=>if (decide (left=0)&&q p)=true then some p else none
 |k+1,p,left=>(eJ v (g8 v p.length) []).findSome? fun w=>if iV v p.length w≤left then dfs v q k (p++[w]) (left-iV v p.length w) else none
theorem FL {α β:Type} (q:β→Bool) (f:α→List β):∀ l:List α,(l.flatMap f).find? q=l.findSome? fun x=>(f x).find? q
 |[]=>rfl
 |x::l=>by
  rw [List.flatMap_cons,List.find?_append,List.findSome?_cons,FL q f l]
  cases (f x).find? q<;>rfl
theorem sP {α β:Type} {f g:α→Option β}:∀ {l:List α},(∀ x∈l,f x=g x)→l.findSome? f=l.findSome? g
 |[],_=>rfl
 |x::l,h=>by rw [List.findSome?_cons,List.findSome?_cons,h x (by simp),sP fun y hy=>h y (by simp [hy])]
theorem BE (v:Net) (q:List (List Int)→Bool):∀ k p left,dfs v q k p left=(lR v k p).find? fun P=>(mvd v P==mvd v p+left)&&q P
 |0,p,left=>by
  have h:decide (left=0)=(mvd v p==mvd v p+left):=by
   rw [Bool.eq_iff_iff,decide_eq_true_eq,beq_iff_eq];omega
  simp only [dfs,lR,List.find?_cons,List.find?_nil]
  rw [←h]
  cases (decide (left=0)&&q p)<;>rfl
 |k+1,p,left=>by
  simp only [dfs,lR]
  rw [FL]
  refine sP fun w _=>?_
  split
  ·rename_i h
   rw [BE v q k,CQ,show mvd v p+iV v p.length w+(left-iV v p.length w)=mvd v p+left by omega]
  ·rename_i h
   symm
   rw [List.find?_eq_none]
   intro P hP
   have:=OH v k _ P hP
   rw [CQ] at this
   simp only [Bool.and_eq_true,beq_iff_eq]
   omega
def v4 (v:Net) (q:List (List Int)→Bool):Nat→Nat→Option (List (List Int))
 |0,_=>none
 |k+1,m=>match dfs v q v.trams.length [] m with|some p=>some p|none=>v4 v q k (m+1)
theorem N1 {v:Net} {l:List State} {q:List (List Int)→Bool} (h:∀ p∈wI v,SG v l p=q p):∀ k m,xQ v l k m=v4 v q k m
 |0,m=>rfl
 |k+1,m=>by
  have e:(wI v).find? (M3 v l m)=dfs v q v.trams.length [] m:=by
   have hf:∀ (L:List (List (List Int))) (f g:List (List Int)→Bool),(∀ x∈L,f x=g x)→L.find? f=L.find? g:=by
    intro L f g
    induction L with
    |nil=>intro _;rfl
    |cons x L ih =>
     intro hh
     rw [List.find?_cons,List.find?_cons,hh x (by simp),ih fun y hy=>hh y (by simp [hy])]
   rw [BE,←yJ]
   refine hf _ _ _ fun p hp=>?_
   have h0:mvd v []=0:=rfl
   rw [M3,h p hp,h0,Nat.zero_add]
   rfl
  simp only [xQ,v4,e]
  cases dfs v q v.trams.length [] m with
  |none=>exact N1 h k (m+1)
  |some p=>rfl
def JN (v:Net) (ps:List (List Int)) (c:List Int):Bool:=(List.range v.trams.length).all fun t=>jE v t (cT (iO v ps (rlI c)) t)
def oV (v:Net) (ps:List (List Int)):Bool:=(TL v []).all (JN v ps)
theorem ZH {v:Net} (hv:Vd v) (ps:List (List Int)):SG v (aJ v []) ps=oV v ps:=by
 refine LT hv [] _ _ fun s hs=>?_
 have hl:=uM hs
 rw [RU,JN,yO (by omega)]
theorem YK {v:Net} (hv:Vd v):s7 v (aJ v [])=v4 v (oV v) (v.trams.length+1) 0:=N1 (fun p _=>ZH hv p) _ _
theorem B7 (v:Net) (but:List Int):∀ k,∀ l∈iC v but k,∀ r∈l,0≤r∧r<v.rails.length
 |0,l,h,r,hr=>by simp [iC] at h;subst h;cases hr
 |k+1,l,h,r,hr=>by
  simp only [iC,List.mem_flatMap,BS,List.mem_map,List.mem_filter,cC] at h
  obtain ⟨a,ha,x,⟨hx,_⟩,rfl⟩:=h
  rcases List.mem_append.1 hr with hr|hr
  ·exact B7 v but k a ha r hr
  ·simp only [List.mem_singleton] at hr;subst hr;omega
theorem EV {v:Net} {s:Int} {but:List Int}:∀ k,∀ l∈iI v s but k,l.length≤k∧∀ r∈l,0≤r∧r<v.rails.length
 |0,l,h=>by simp [iI] at h
 |k+1,l,h=>by
  simp only [iI,List.mem_append,List.mem_filter] at h
  rcases h with h|⟨h,_⟩
  ·have:=EV k l h
   exact ⟨by omega,this.2⟩
  ·refine ⟨?_,B7 v but (k+1) l h⟩
   have key:∀ k,∀ l∈iC v but k,l.length=k:=by
    intro k
    induction k with
    |zero=>intro l h;simp [iC] at h;simp [h]
    |succ k ih =>
     intro l h
     simp only [iC,List.mem_flatMap,BS,List.mem_map] at h
     obtain ⟨a,ha,r,_,rfl⟩:=h
     simp [ih a ha]
   have:=key (k+1) l h
   omega
theorem HC {v:Net} {s:Int} {but l:List Int} (h:l∈eJ v s but):l.length≤4∧∀ r∈l,0≤r∧r<v.rails.length:=EV 4 l h
theorem oP (v:Net) (but:List Int) (h5:v.rails.length≤5):∀ k,(iC v but k).length≤5^k
 |0=>by simp [iC]
 |k+1=>by
  have h:=AG (BS v but) 5 (iC v but k) fun l _=>by
   have:=List.length_filter_le (MD v but l) (aU 0 v.rails.length)
   rw [lB] at this
   simp only [BS,List.length_map]
   omega
  have:=oP v but h5 k
  rw [Nat.pow_succ]
  simp only [iC]
  exact Nat.le_trans h (Nat.mul_le_mul_right 5 this)
theorem HY {v:Net} (h5:v.rails.length≤5) (s:Int) (but:List Int):(eJ v s but).length≤1000:=by
 have c1:=oP v but h5 1
 have c2:=oP v but h5 2
 have c3:=oP v but h5 3
 have c4:=oP v but h5 4
 have f:=fun (l:List (List Int))=>List.length_filter_le (gY v s) l
 have f1:=f (iC v but 1)
 have f2:=f (iC v but 2)
 have f3:=f (iC v but 3)
 have f4:=f (iC v but 4)
 have e:eJ v s but=((([]++(iC v but 1).filter (gY v s))++(iC v but 2).filter (gY v s))++(iC v but 3).filter (gY v s))++(iC v but 4).filter (gY v s):=rfl
 rw [e]
 simp only [List.length_append,List.length_nil]
 have p1:(5:Nat)^1=5:=rfl
 have p2:(5:Nat)^2=25:=rfl
 have p3:(5:Nat)^3=125:=rfl
 have p4:(5:Nat)^4=625:=rfl
 omega
theorem N0 {v:Net}:∀ k p,∀ P∈lR v k p,P.length=p.length+k∧∀ w∈P,w∈p∨∃ s,w∈eJ v s []
 |0,p,P,h=>by simp [lR] at h;subst h;exact ⟨rfl,fun w hw=>.inl hw⟩
 |k+1,p,P,h=>by
  simp only [lR,List.mem_flatMap] at h
  obtain ⟨w,hw,hP⟩:=h
  obtain ⟨h1,h2⟩:=N0 k _ P hP
  refine ⟨by rw [h1];simp;omega,fun x hx=>?_⟩
  rcases h2 x hx with q|q
  ·rcases List.mem_append.1 q with q|q
   ·exact .inl q
   ·simp only [List.mem_singleton] at q
    subst q
    exact .inr ⟨_,hw⟩
  ·exact .inr q
theorem YO {v:Net} {P:List (List Int)} (h:P∈wI v):RunOk v P:=by
 rw [yJ] at h
 obtain ⟨h1,h2⟩:=N0 _ _ P h
 refine ⟨by simpa using h1,fun p hp=>?_,fun p hp=>?_⟩
 ·rcases h2 p hp with q|⟨s,q⟩
  ·cases q
  ·exact (HC q).1
 ·rcases h2 p hp with q|⟨s,q⟩
  ·cases q
  ·exact (HC q).2
end Go.Am.Room
set_option maxRecDepth 4000
namespace Go.Am.Room
theorem LR {v:Net} (h5:v.rails.length≤5) (s:Int) (but:List Int) {k:Nat} (hk:k≤4):(iI v s but k).length≤1000:=by
 have st:∀ j,(iI v s but j).length≤(iI v s but (j+1)).length:=fun j=>by simp only [iI,List.length_append];omega
 have:=HY h5 s but
 rw [eJ] at this
 have a0:(iI v s but 0).length≤(iI v s but 1).length:=st 0
 have a1:(iI v s but 1).length≤(iI v s but 2).length:=st 1
 have a2:(iI v s but 2).length≤(iI v s but 3).length:=st 2
 have a3:(iI v s but 3).length≤(iI v s but 4).length:=st 3
 have:k=0∨k=1∨k=2∨k=3∨k=4:=by omega
 rcases this with rfl|rfl|rfl|rfl|rfl<;>omega
def BN (x:List (List Int)×Int):AV:=.tuple [bU x.1,.int .i64 x.2]
end Go.Am.Room
set_option maxRecDepth 4000
namespace Go.Am.Room
theorem FG {a b:Int} (h:a≤b):aU a (b+1-a).toNat=a::aU (a+1) (b+1-(a+1)).toNat:=by
 have:(b+1-a).toNat=(b+1-(a+1)).toNat+1:=by omega
 rw [this,aU]
theorem HK {a b:Int} (h:¬a≤b):aU a (b+1-a).toNat=[]:=by
 have:(b+1-a).toNat=0:=by omega
 rw [this,aU]
end Go.Am.Room
set_option maxRecDepth 4000
namespace Go.Am.Room
theorem C3 {α:Type} {p:α→Bool} {l:List α} {k:Nat} (h:k<l.length):(l.take (k+1)).any p=((l.take k).any p||p l[k]):=by
 rw [List.take_succ_eq_append_getElem h,List.any_append];simp
def Q2 (ss:List Stay) (rail m s r:Int) (k:Nat) (n:Int):Prop:=(n=r∧(ss.take k).any (iN rail r m)=false)∨(r<n∧sH ss rail m s n)
end Go.Am.Room
set_option maxRecDepth 4000
namespace Go.Am.Room
theorem JQ (v:Net) (m:Int→Int) (ps:List (List Int)) (k:Nat):dB v m ps (k+1)=((j3 m k (jI v k) (eI ps k) (dB v m ps k).1).1,(dB v m ps k).2++[(j3 m k (jI v k) (eI ps k) (dB v m ps k).1).2]):=rfl
end Go.Am.Room
set_option maxRecDepth 4000
namespace Go.Am.Room
instance (l:List Bool):Dats (l.map .bool):=⟨bL uV l⟩
def pE (v:Net) (but cs:List Int) (n:Nat):Bool:=(List.range n).all fun k=>match v.seen[k]? with|some x=>but.contains (k:Int)||cT cs x.tram==x.minute|none=>true
theorem vI (v:Net) (but cs:List Int):pE v but cs v.seen.length=jZ v but cs:=rfl
theorem zB {v:Net} {k:Nat} (hk:k<v.seen.length) (but cs:List Int):pE v but cs (k+1)=(pE v but cs k&&(but.contains (k:Int)||cT cs v.seen[k].tram==v.seen[k].minute)):=by
 simp [pE,List.range_succ,List.all_append,hk]
theorem uY {a:Nat} (h:a<9223372036854775808):(BitVec.ofInt 64 (a:Int)).toNat=a:=by
 rw [BitVec.toNat_ofInt]
 omega
theorem aD4 (a b:Nat) (ha:a<4611686018427387904) (hb:b<4611686018427387904):gE .or (.int .i64 (a:Int)) (.int .i64 (b:Int))=some (.int .i64 ((a|||b:Nat):Int)):=by
 have h1:(BitVec.ofInt 64 (a:Int)|||BitVec.ofInt 64 (b:Int)).toNat=a|||b:=by rw [BitVec.toNat_or,uY (by omega),uY (by omega)]
 have h2:a|||b<2^62:=Nat.or_lt_two_pow (by omega) (by omega)
 have h3:Go.Am.bits .or .i64 (a:Int) (b:Int)=((a|||b:Nat):Int):=by
  show IntKind.i64.wrap (((BitVec.ofInt 64 (a:Int)|||BitVec.ofInt 64 (b:Int)).toNat:Nat):Int)=_
  rw [h1]
  exact dU ⟨by omega,by omega⟩
 simp [gE,lT,h3]
def DM (a b:Nat):Nat:=a &&& (2^64-(b+1))
theorem JJ {b:Nat} (hb:b<9223372036854775808) (a i:Nat) (ha:a<9223372036854775808):(DM a b).testBit i=(a.testBit i&&!b.testBit i):=by
 rw [DM,Nat.testBit_and,Nat.testBit_two_pow_sub_succ (by omega)]
 by_cases hi:i<64
 ·simp [hi]
 ·have:a.testBit i=false:=Nat.testBit_lt_two_pow (Nat.lt_of_lt_of_le (show a<2^63 by omega) (Nat.pow_le_pow_right (by omega) (by omega)))
  simp [this]
theorem OM (a b:Nat):DM a b≤a:=Nat.and_le_left
theorem HO (a b:Nat) (ha:a<9223372036854775808) (hb:b<9223372036854775808):gE .andNot (.int .i64 (a:Int)) (.int .i64 (b:Int))=some (.int .i64 ((DM a b:Nat):Int)):=by
 have h1:(BitVec.ofInt 64 (a:Int) &&& ~~~BitVec.ofInt 64 (b:Int)).toNat=DM a b:=by
  rw [BitVec.toNat_and,BitVec.toNat_not,uY ha,uY hb,DM]
  congr 1
  omega
 have h2:=OM a b
 have h3:Go.Am.bits .andNot .i64 (a:Int) (b:Int)=((DM a b:Nat):Int):=by
  show IntKind.i64.wrap (((BitVec.ofInt 64 (a:Int) &&& ~~~BitVec.ofInt 64 (b:Int)).toNat:Nat):Int)=_
  rw [h1]
  exact dU ⟨by omega,by omega⟩
 simp [gE,lT,h3]
theorem k9 {i:Nat} (h:i≤60):2^i≤1152921504606846976:=by
 calc 2^i≤2^60:=Nat.pow_le_pow_right (by omega) h
  _=1152921504606846976:=by decide
theorem vJ (i:Nat) (h:i≤60):gE .shl (.int .i64 1) (.int .i64 (i:Int))=some (.int .i64 ((2^i:Nat):Int)):=by
 have hm:Nat.min i 64=i:=Nat.min_eq_left (by omega)
 have h0:¬(i:Int)<0:=by omega
 have hp:=k9 h
 have hc:(1:Int)*2^i=((2^i:Nat):Int):=by rw [Int.one_mul];exact (Int.natCast_pow 2 i).symm
 simp only [gE,h0,if_false,IntKind.bits,Int.toNat_natCast,hm,hc]
 generalize 2^i=q at hp
 rw [dU ⟨by omega,by omega⟩]
theorem xL (a i:Nat):a.testBit i=decide (a/2^i%2=1):=Nat.testBit_eq_decide_div_mod_eq
theorem OB {n s:Nat} {x:Int}:x∈lst n s↔(0≤x∧x<n)∧s.testBit x.toNat=true:=by
 simp only [lst,List.mem_filter,cC,xL]
 constructor
 ·rintro ⟨h1,h2⟩;exact ⟨by omega,h2⟩
 ·rintro ⟨h1,h2⟩;exact ⟨by omega,h2⟩
theorem WP {n s i:Nat} (h:i<n):(lst n s).contains (i:Int)=s.testBit i:=by
 rw [Bool.eq_iff_iff,List.contains_iff_mem,OB]
 simp only [Int.toNat_natCast]
 constructor
 ·rintro ⟨_,h2⟩;exact h2
 ·intro h2;exact ⟨⟨by omega,by omega⟩,h2⟩
theorem GT (a:Nat):((a:Int)==0)=decide (a=0):=by rw [Bool.eq_iff_iff];simp
structure ButIs (b:Nat) (bl:List Int):Prop where
 lt:b<9223372036854775808
 bit:∀ i:Nat,i<5→(((b/2^i%2:Nat):Int)==0) = !bl.contains (i:Int)
theorem PT:ButIs 0 []:=⟨by omega,fun i hi=>by simp⟩
theorem XK {n set:Nat} (hn:n≤5) (hs:set<2^n):ButIs set (lst n set):=by
 have hp:2^n≤2^5:=Nat.pow_le_pow_right (by omega) hn
 refine ⟨by omega,fun i hi=>?_⟩
 have e:(((set/2^i%2:Nat):Int)==0) = !set.testBit i:=by
  rw [xL,GT,Bool.eq_iff_iff]
  simp
 rw [e]
 by_cases h:i<n
 ·rw [WP h]
 ·have h1:set.testBit i=false:=Nat.testBit_lt_two_pow (Nat.lt_of_lt_of_le hs (Nat.pow_le_pow_right (by omega) (by omega)))
  have h2:(lst n set).contains (i:Int)=false:=by
   rw [Bool.eq_false_iff]
   intro hc
   rw [List.contains_iff_mem,OB] at hc
   omega
  rw [h1,h2]
theorem rH {σ:St} {i:Nat} {cs:List AV} (h:aK σ i=some cs):i<σ.length:=by
 unfold aK at h
 by_cases hi:i<σ.length
 ·exact hi
 ·rw [List.getElem?_eq_none (by omega)] at h
  cases h
theorem lG {σ:St} {i:Nat} {cs:List AV} (h:aK σ i=some cs) (τ:St):aK (σ++τ) i=some cs:=by
 have hl:=rH h
 simp only [aK] at h ⊢
 rw [List.getElem?_append_left hl]
 exact h
end Go.Am.Room
namespace Go.Am.Room
structure MemAt {M:Type} (S:M→St) (obj:List AV) (es:M→List (AV×AV)) (p m N:Nat):Prop where
 len:∀ M,(S M).length=N
 at0:∀ M,aK (S M) p=some obj
 map0:∀ M,(S M)[m]? = some (.map (es M))
 mset:∀ M M',(S M).set m (.map (es M'))=S M'
 ok:∀ M k,aL k (.map (es M))
 pl:p<N
 ml:m<N
namespace MemAt
variable {M:Type} {S:M→St} {obj:List AV} {es:M→List (AV×AV)} {p m N:Nat}
theorem base (h:MemAt S obj es p m N) (A:M) (τ:St) (k:Nat):aK (S A++τ) (N+k)=aK τ k:=by rw [←h.len A];exact sW _ _ _
theorem base0 (h:MemAt S obj es p m N) (A:M) (τ:St):aK (S A++τ) N=aK τ 0:=h.base A τ 0
theorem bset (h:MemAt S obj es p m N) (A:M) (τ:St) (k:Nat) (x:ABlk):(S A++τ).set (N+k) x=S A++τ.set k x:=by rw [←h.len A];exact p9 _ _ _ _
theorem bset0 (h:MemAt S obj es p m N) (A:M) (τ:St) (x:ABlk):(S A++τ).set N x=S A++τ.set 0 x:=h.bset A τ 0 x
theorem at1 (h:MemAt S obj es p m N) (A:M) (τ:St):aK (S A++τ) p=some (obj):=by
 have:=h.at0 A
 have hl:=h.pl
 rw [←h.len A] at hl
 simp only [aK] at this ⊢
 rw [List.getElem?_append_left hl]
 exact this
theorem map1 (h:MemAt S obj es p m N) (A:M) (τ:St):(S A++τ)[m]? = some (.map (es A)):=by
 have hl:=h.ml
 rw [←h.len A] at hl
 rw [List.getElem?_append_left hl]
 exact h.map0 A
theorem mset1 (h:MemAt S obj es p m N) (A B:M) (τ:St):(S A++τ).set m (.map (es B))=S B++τ:=by
 have hl:=h.ml
 rw [←h.len A] at hl
 rw [List.set_append_left _ _ hl,h.mset]
theorem keep (h:MemAt S obj es p m N) (A B:M) (i:Nat) (hi:i≠m):(S B)[i]? = (S A)[i]?:=by
 rw [←h.mset A B,List.getElem?_set_ne (fun e=>hi e.symm)]
theorem kept (h:MemAt S obj es p m N) {A B:M} {σ τ:St} (hσ:σ=S B++τ):∀ i,i<(S A).length→fN (S A) σ (S A).length i:=by
 intro i hi
 rw [hσ]
 have hl:i<(S B).length:=by rw [h.len] at hi ⊢;exact hi
 by_cases him:i=m
 ·subst him
  refine .inr (.inl ⟨.map (es B),?_,h.ok B _⟩)
  rw [List.getElem?_append_left hl,h.map0]
 ·refine .inl ?_
  rw [List.getElem?_append_left hl,h.keep A B i him]
theorem app (h:MemAt S obj es p m N) (τ:St):MemAt (fun A=>S A++τ) obj es p m (N+τ.length) :=
 ⟨fun A=>by rw [List.length_append,h.len],fun A=>h.at1 A τ,fun A=>h.map1 A τ,fun A B=>h.mset1 A B τ,h.ok,by have:=h.pl;omega,by have:=h.ml;omega⟩
theorem eqS (h:MemAt S obj es p m N) (k:Nat) (A B:M) (x y z:St):EqS k (S A++x) (S B++y) (S B++z)=EqS k x y z:=by
 rw [←h.mset A B]
 exact NU k _ (h.ok B k) _ _ _ _ _
end MemAt
theorem y0 {M:Type} {S:M→St} {obj:List AV} {es:M→List (AV×AV)} {p m N:Nat} (hR:MemAt S obj es p m N) {f:FuncId} {first cap args:List AV} {af:AFunc} {v:AV} {A B:M} (hf:T f=some af) (hn:(first++args++cap).length≤af.ntmps)
  (h:wp T af.body (gP 0 (first++args++cap)) (S A) (fun j e σ1=>(j=none∨j=some .ret)∧∃ v0 τ,iU af.results e σ1=some v0∧σ1=S B++τ∧cQ σ1 N 20 v0=some v)):BZ T (.func f first cap) args (S A) v (S B):=by
 refine .callf (.call hf hn (iL h fun o ho=>ho) fun o ho=>?_)
 obtain ⟨hj,v0,τ,hres,hσ,h4⟩:=ho
 refine ⟨hj,v0,hres,?_⟩
 unfold cQ at h4
 cases hs:snap o.σ N 20 v0 with
 |none=>rw [hs] at h4;cases h4
 |some v1 =>
  rw [hs] at h4
  simp at h4
  refine .inr ⟨20,v1,v,by rw [hR.len];exact hs,.inr h4.symm,hR.kept hσ,?_,rfl,?_⟩
  ·rw [hσ,List.length_append,hR.len,hR.len];omega
  ·rw [hσ,hR.len,←hR.len B,List.take_left]
def cI {A X:Type} (f:A→X→X×Bool):List A→X→X×Bool
 |[],x=>(x,true)
 |a::az,x=>if (f a x).2=true then cI f az (f a x).1 else ((f a x).1,false)
theorem yG {A X:Type} (f:A→X→X×Bool):∀ (az bs:List A) (x:X),cI f (az++bs) x=if (cI f az x).2=true then cI f bs (cI f az x).1 else ((cI f az x).1,false)
 |[],bs,x=>by simp [cI]
 |a::az,bs,x=>by
  simp only [List.cons_append,cI]
  split
  ·exact yG f az bs _
  ·simp
structure Fam {X:Type} (Z ZD:X→St) (obj:List AV) (p q N:Nat):Prop where
 len:∀ x,(Z x).length=N
 lenD:∀ x,(ZD x).length=N
 at0:∀ x,aK (Z x) p=some obj
 atq0:∀ x,aK (Z x) q=some [.ptr p 0]
 keep:∀ x y k i,N≤k→i<N→fN (Z x) (Z y) k i
 keepD:∀ x y k i,N≤k→i<N→fN (Z x) (ZD y) k i
 pl:p<N
 ql:q<N
namespace Fam
variable {X:Type} {Z ZD:X→St} {obj:List AV} {p q N:Nat}
theorem base (h:Fam Z ZD obj p q N) (x:X) (τ:St) (k:Nat):aK (Z x++τ) (N+k)=aK τ k:=by rw [←h.len x];exact sW _ _ _
theorem base0 (h:Fam Z ZD obj p q N) (x:X) (τ:St):aK (Z x++τ) N=aK τ 0:=h.base x τ 0
theorem bset (h:Fam Z ZD obj p q N) (x:X) (τ:St) (k:Nat) (y:ABlk):(Z x++τ).set (N+k) y=Z x++τ.set k y:=by rw [←h.len x];exact p9 _ _ _ _
theorem bset0 (h:Fam Z ZD obj p q N) (x:X) (τ:St) (y:ABlk):(Z x++τ).set N y=Z x++τ.set 0 y:=h.bset x τ 0 y
theorem at1 (h:Fam Z ZD obj p q N) (x:X) (τ:St):aK (Z x++τ) p=some obj:=by
 have:=h.at0 x
 have hl:=h.pl
 rw [←h.len x] at hl
 simp only [aK] at this ⊢
 rw [List.getElem?_append_left hl]
 exact this
theorem atq1 (h:Fam Z ZD obj p q N) (x:X) (τ:St):aK (Z x++τ) q=some [.ptr p 0]:=by
 have:=h.atq0 x
 have hl:=h.ql
 rw [←h.len x] at hl
 simp only [aK] at this ⊢
 rw [List.getElem?_append_left hl]
 exact this
def out (Z ZD:X→St) (r:X×Bool):St:=if r.2=true then Z r.1 else ZD r.1
end Fam
theorem RF {A X:Type} (f:A→X→X×Bool) (a:A) (x:X):cI f [a] x=f a x:=by
 simp only [cI]
 obtain ⟨y,bb⟩:=f a x
 cases bb<;>simp
structure Fam1 {X:Type} {M:Type} (Z ZD:X→M→St) (obj:List AV) (es:M→List (AV×AV)) (p m q N:Nat):Prop where
 ship:∀ x,MemAt (Z x) obj es p m N
 lenD:∀ x A,(ZD x A).length=N
 atq0:∀ x A,aK (Z x A) q=some [.ptr p 0]
 keep:∀ x A y B k i,N≤k→i<N→fN (Z x A) (Z y B) k i
 keepD:∀ x A y B k i,N≤k→i<N→fN (Z x A) (ZD y B) k i
 ql:q<N
 pl:p<N
namespace Fam1
variable {X:Type} {M:Type} {Z ZD:X→M→St} {obj:List AV} {es:M→List (AV×AV)} {p m q N:Nat}
theorem atq1 (h:Fam1 Z ZD obj es p m q N) (x:X) (A:M) (τ:St):aK (Z x A++τ) q=some [.ptr p 0]:=by
 have:=h.atq0 x A
 have hl:=h.ql
 rw [←(h.ship x).len A] at hl
 simp only [aK] at this ⊢
 rw [List.getElem?_append_left hl]
 exact this
def out (Z ZD:X→M→St) (r:X×Bool) (A:M):St:=if r.2=true then Z r.1 A else ZD r.1 A
end Fam1
def wK {X A M:Type} (Z ZD:X→M→St) (id:Nat) (args:A→Bool→Option Nat→List AV) (P:A→Prop) (f:A→X→X×Bool):Prop :=
 ∀ t,P t→∀ (fl:Bool) (tk:Option Nat) x B τ,Run T (.callv (.yield id) (args t fl tk) (Z x B++τ)) fun o=>o.v = .bool (f t x).2∧∃ τ',o.σ=Fam1.out Z ZD (f t x) B++(τ++τ')
theorem XN {X:Type} {M:Type} {S:M→St} {obj:List AV} {es:M→List (AV×AV)} {p m N:Nat} (hS:MemAt S obj es p m N) (U UD:X→St) (n:Nat) (hU:∀ x,(U x).length=n) (hUD:∀ x,(UD x).length=n) (ok:∀ x y,y∈U x→∀ k,N≤k→aL k y) (okD:∀ x y,y∈UD x→∀ k,N≤k→aL k y)
  (env:Env) (ps:List Nat) (a bb:ACode) (st st':LS) (pe pe':Option AJump) :
  Fam1 (fun x A=>S A++(U x++[.cells [.ptr p 0],.loop st pe env ps a bb])) (fun x A=>S A++(UD x++[.cells [.ptr p 0],.loop st' pe' env ps a bb])) obj es p m (N+n) (N+n+2):=by
 have hpl:=hS.pl
 have low:∀ (A B:M) (C D:St) (k i:Nat),i<N→fN (S A++C) (S B++D) k i:=by
  intro A B C D k i hi
  have e1:(S A++C)[i]? = (S A)[i]?:=List.getElem?_append_left (by rw [hS.len];exact hi)
  have e2:(S B++D)[i]? = (S B)[i]?:=List.getElem?_append_left (by rw [hS.len];exact hi)
  simp only [fN,e1,e2]
  by_cases him:i=m
  ·subst him
   exact .inr (.inl ⟨_,hS.map0 B,hS.ok B k⟩)
  ·exact .inl (hS.keep A B i him)
 have high:∀ (A B:M) (C D:St) (l1 l2:ABlk) (k i:Nat),C.length=n→D.length=n→(∀ y∈D,aL k y)→N≤i→i<N+n+2→(l1=l2∨∃ st pe st' pe' env ps a b,l1 = .loop st pe env ps a b∧l2 = .loop st' pe' env ps a b) →
   fN (S A++(C++[.cells [.ptr p 0],l1])) (S B++(D++[.cells [.ptr p 0],l2])) k i:=by
  intro A B C D l1 l2 k i hA hB hk h1 h2 hl
  have e1:(S A++(C++[.cells [.ptr p 0],l1]))[i]? = (C++[.cells [.ptr p 0],l1])[i-N]?:=by rw [List.getElem?_append_right (by rw [hS.len];exact h1),hS.len]
  have e2:(S B++(D++[.cells [.ptr p 0],l2]))[i]? = (D++[.cells [.ptr p 0],l2])[i-N]?:=by rw [List.getElem?_append_right (by rw [hS.len];exact h1),hS.len]
  simp only [fN,e1,e2]
  obtain ⟨j,hj⟩:∃ j,i-N=j:=⟨_,rfl⟩
  rw [hj]
  by_cases hjn:j<n
  ·right;left
   have hb:j<D.length:=by omega
   refine ⟨D[j],?_,hk _ (List.getElem_mem hb)⟩
   rw [List.getElem?_append_left hb,List.getElem?_eq_getElem hb]
  ·have:j=n∨j=n+1:=by omega
   rcases this with rfl|rfl
   ·left
    rw [List.getElem?_append_right (by omega),List.getElem?_append_right (by omega),hA,hB]
    simp
   ·rw [List.getElem?_append_right (by omega),List.getElem?_append_right (by omega),hA,hB]
    simp only [Nat.add_sub_cancel_left,List.getElem?_cons_succ,List.getElem?_cons_zero]
    rcases hl with rfl|⟨_,_,_,_,_,_,_,_,rfl,rfl⟩
    ·exact .inl rfl
    ·exact .inr (.inr ⟨_,_,_,_,_,_,_,_,rfl,rfl⟩)
 refine ⟨fun x=>?_,fun x A=>?_,fun x A=>?_,fun x A y B k i hk hi=>?_,fun x A y B k i hk hi=>?_,by omega,by omega⟩
 ·have:=hS.app (U x++[.cells [.ptr p 0],.loop st pe env ps a bb])
  rw [List.length_append,hU] at this
  exact this
 ·simp [hS.len,hUD];omega
 ·have e:N+n=(S A).length+n:=by rw [hS.len]
  rw [e,sW]
  have:n=(U x).length:=by rw [hU]
  rw [this]
  exact kF _ _
 ·by_cases h:i<N
  ·exact low _ _ _ _ _ _ h
  ·exact high _ _ _ _ _ _ _ _ (hU x) (hU y) (fun z hz=>ok y z hz k (by omega)) (by omega) hi (.inl rfl)
 ·by_cases h:i<N
  ·exact low _ _ _ _ _ _ h
  ·exact high _ _ _ _ _ _ _ _ (hU x) (hUD y) (fun z hz=>okD y z hz k (by omega)) (by omega) hi (.inr ⟨_,_,_,_,_,_,_,_,rfl,rfl⟩)
theorem UY {X A M:Type} {S:M→St} {obj:List AV} {es:M→List (AV×AV)} {p m N:Nat} (hS:MemAt S obj es p m N) (U UD:X→St) (n:Nat) (hU:∀ x,(U x).length=n) (hUD:∀ x,(UD x).length=n)
  (J:AJump) (e:Env) (k:Nat) (ps:List Nat) (a bb:ACode) (g:FuncId) (ek:Env.get e k = .func g [] [.ptr (N+n) 0]) (r:X×Bool) (B':M) (x:X) (B:M)
  (hrun:Run T (.call g [.yield (N+n+1),.ptr (N+n) 0] (S B++(U x++[.cells [.ptr p 0],.loop .ready none e ps a bb]))) fun o=>∃ τ',o.σ=Fam1.out (fun x A=>S A++(U x++[.cells [.ptr p 0],.loop .ready none e ps a bb])) (fun x A=>S A++(UD x++[.cells [.ptr p 0],.loop .done (some J) e ps a bb])) r B'++τ') (K:KJ)
  (hT:∀ τ,r.2=true→K none e (S B'++(U r.1++(.cells [.ptr p 0]::.dead::τ))))
  (hD:∀ τ,r.2=false→K (some J) e (S B'++(UD r.1++(.cells [.ptr p 0]::.dead::τ)))) :
  rK (K:=⟨K⟩) T (.rangeFunc (.t k) ps a bb) e (S B++(U x++[.cells [.ptr p 0]])):=by
 have hlen:(S B++(U x++[ABlk.cells [.ptr p 0]])).length=N+n+1:=by simp [hS.len,hU];omega
 have hout:∀ (A W:St) (lp:ABlk) (τ':St),A.length=N→W.length=n→(A++(W++[ABlk.cells [.ptr p 0],lp])++τ')[N+n+1]? = some lp∧(A++(W++[ABlk.cells [.ptr p 0],lp])++τ').set (N+n+1) .dead=A++(W++(.cells [.ptr p 0]::.dead::τ')):=by
  intro A W lp τ' hA hW
  have h1:N+n+1=(A++W).length+1:=by simp [hA,hW]
  have h2:A++(W++[ABlk.cells [.ptr p 0],lp])++τ'=(A++W)++(.cells [.ptr p 0]::lp::τ'):=by simp
  rw [h1,h2]
  constructor
  ·rw [sX];rfl
  ·rw [p9];simp
 refine JS (by rw [VK,ek]) (by
  rw [hlen,List.append_assoc (S B),List.append_assoc (U x)]
  exact hrun) fun o ho=>?_
 obtain ⟨τ',hσ⟩:=ho
 rw [hlen,hσ]
 cases hr2:r.2
 ·have hD':=hD τ' hr2
  obtain ⟨g1,g2⟩:=hout (S B') (UD r.1) (.loop .done (some J) e ps a bb) τ' (hS.len _) (hUD _)
  simp only [Fam1.out,hr2,Bool.false_eq_true,if_false]
  rw [g1,g2]
  exact ⟨_,_,_,_,_,_,rfl,by simp,hD'⟩
 ·have hT':=hT τ' hr2
  obtain ⟨g1,g2⟩:=hout (S B') (U r.1) (.loop .ready none e ps a bb) τ' (hS.len _) (hU _)
  simp only [Fam1.out,hr2,if_true]
  rw [g1,g2]
  exact ⟨_,_,_,_,_,_,rfl,by simp,hT'⟩
theorem RC {X A M:Type} {S:M→St} {obj:List AV} {es:M→List (AV×AV)} {p m N:Nat} (hS:MemAt S obj es p m N) (U UD:X→St) (n:Nat) (hU:∀ x,(U x).length=n) (hUD:∀ x,(UD x).length=n) (J:AJump) (e:Env) (ps:List Nat) (args:A→Bool→Option Nat→List AV) (hps:∀ t fl tk,ps.length=(args t fl tk).length) (a bb:ACode) {P:A→Prop} {f:A→X→X×Bool}
  (h:∀ t,P t→∀ (fl:Bool) (tk:Option Nat) x B τ,wp T a (lZ e ps (args t fl tk)) (S B++(U x++(.cells [.ptr p 0]::.loop .ready none e ps a bb::τ))) (fun j e' σ'=>j=none∧σ'=S B++(U x++(.cells [.ptr p 0]::.loop .ready none e ps a bb::τ)) ∧
   wp T bb e' (S B++(U x++(.cells [.ptr p 0]::.loop .busy none e ps a bb::τ))) (fun j e'' σ''=>((f t x).2=true∧j=none∧∃ τ',σ''=S B++(U (f t x).1++(.cells [.ptr p 0]::.loop .busy none e ps a bb::(τ++τ')))) ∨
    ((f t x).2=false∧j=some J∧∃ τ',σ''=S B++(UD (f t x).1++(.cells [.ptr p 0]::.loop .busy none e ps a bb::(τ++τ'))))))) :
  wK (fun x B=>S B++(U x++[.cells [.ptr p 0],.loop .ready none e ps a bb])) (fun x B=>S B++(UD x++[.cells [.ptr p 0],.loop .done (some J) e ps a bb])) (N+n+1) args P f:=by
 intro t ht fl tk x B τ
 have hget:∀ (A W:St) (lp:ABlk) (υ:St),A.length=N→W.length=n→(A++(W++(ABlk.cells [.ptr p 0]::lp::υ)))[N+n+1]? = some lp:=by
  intro A W lp υ hA hW
  have h1:N+n+1=(A++W).length+1:=by simp [hA,hW]
  rw [h1,←List.append_assoc,sX];rfl
 have hset:∀ (A W:St) (lp l2:ABlk) (υ:St),A.length=N→W.length=n→(A++(W++(ABlk.cells [.ptr p 0]::lp::υ))).set (N+n+1) l2=A++(W++(ABlk.cells [.ptr p 0]::l2::υ)):=by
  intro A W lp l2 υ hA hW
  have h1:N+n+1=(A++W).length+1:=by simp [hA,hW]
  rw [h1,←List.append_assoc,p9]
  simp
 obtain ⟨r,hr⟩:∃ r,f t x=r:=⟨_,rfl⟩
 have h:=h t ht fl tk x B τ
 rw [hr] at h ⊢
 have hst:(fun x B=>S B++(U x++[ABlk.cells [.ptr p 0],.loop .ready none e ps a bb])) x B++τ=S B++(U x++(.cells [.ptr p 0]::.loop .ready none e ps a bb::τ)):=by simp
 rw [hst]
 refine .round (env:=e) (ps:=ps) (a:=a) (b:=bb)
  (R:=fun o=>o.j=none∧o.σ=S B++(U x++(.cells [.ptr p 0]::.loop .ready none e ps a bb::τ))∧wp T bb o.env (S B++(U x++(.cells [.ptr p 0]::.loop .busy none e ps a bb::τ))) (fun j e'' σ''=>(r.2=true∧j=none∧∃ τ',σ''=S B++(U r.1++(.cells [.ptr p 0]::.loop .busy none e ps a bb::(τ++τ')))) ∨
    (r.2=false∧j=some J∧∃ τ',σ''=S B++(UD r.1++(.cells [.ptr p 0]::.loop .busy none e ps a bb::(τ++τ'))))))
  (S:=fun o=>(r.2=true∧o.j=none∧∃ τ',o.σ=S B++(U r.1++(.cells [.ptr p 0]::.loop .busy none e ps a bb::(τ++τ'))))∨(r.2=false∧o.j=some J∧∃ τ',o.σ=S B++(UD r.1++(.cells [.ptr p 0]::.loop .busy none e ps a bb::(τ++τ'))))) (hget _ _ _ _ (hS.len _) (hU _)) (by rw [hps t fl tk]) (iL h fun o ho=>ho) ?_ ?_ ?_
 ·rintro o ⟨hj,hσ,_⟩
  exact ⟨hj,by rw [hσ];exact hget _ _ _ _ (hS.len _) (hU _)⟩
 ·rintro o ⟨_,hσ,hw⟩
  rw [hσ,hset _ _ _ _ _ (hS.len _) (hU _)]
  exact iL hw fun o ho=>ho
 ·rintro o (⟨hr2,hj,τ',hσ⟩|⟨hr2,hj,τ',hσ⟩)
  ·rw [hσ,hj,hget _ _ _ _ (hS.len _) (hU _),hset _ _ _ _ _ (hS.len _) (hU _)]
   refine ⟨rfl,by rw [hr2];rfl,τ',?_⟩
   simp [Fam1.out,hr2]
  ·rw [hσ,hj,hget _ _ _ _ (hS.len _) (hUD _),hset _ _ _ _ _ (hS.len _) (hUD _)]
   refine ⟨rfl,by rw [hr2];rfl,τ',?_⟩
   simp [Fam1.out,hr2]
theorem BI {A X:Type} {f:A→X→X×Bool} (h:∀ a x,(f a x).2=true):∀ (l:List A) (x:X),cI f l x=(l.foldl (fun x a=>(f a x).1) x,true)
 |[],x=>rfl
 |a::az,x=>by simp only [cI,h,if_true,List.foldl_cons];exact BI h az _
end Go.Am.Room
namespace Go.Am.Room
def eM (fine:Nat→Bool):Nat→Nat×Nat→Nat×Nat
 |0,x=>x
 |k+1,x=>if fine k=true then (DM (eM fine k x).1 (2^k),(eM fine k x).2) else ((eM fine k x).1,(eM fine k x).2|||2^k)
theorem qW (fine:Nat→Bool) {n:Nat} {x:Nat×Nat} (h:x.1<2^n∧x.2<2^n):∀ k,k≤n→(eM fine k x).1<2^n∧(eM fine k x).2<2^n
 |0,_=>h
 |k+1,hk=>by
  obtain ⟨h1,h2⟩:=qW fine h k (by omega)
  simp only [eM]
  split
  ·exact ⟨Nat.lt_of_le_of_lt (OM _ _) h1,h2⟩
  ·exact ⟨h1,Nat.or_lt_two_pow h2 (Nat.pow_lt_pow_right (by omega) (by omega))⟩
theorem CT (fine:Nat→Bool) {n:Nat} (hn:n≤60) {x:Nat×Nat} (h:x.1<2^n∧x.2<2^n) (i:Nat):∀ k,k≤n→(eM fine k x).1.testBit i=(x.1.testBit i&&!(decide (i<k)&&fine i))∧(eM fine k x).2.testBit i=(x.2.testBit i||(decide (i<k)&&!fine i))
 |0,_=>by simp [eM]
 |k+1,hk=>by
  obtain ⟨h1,h2⟩:=CT fine hn h i k (by omega)
  obtain ⟨l1,l2⟩:=qW fine h k (by omega)
  have hp:=k9 (show k≤60 by omega)
  have hpn:=k9 hn
  simp only [eM]
  by_cases e:i=k
  ·subst e
   cases hf:fine i
   ·simp only [Bool.false_eq_true,if_false]
    rw [Nat.testBit_or,h1,h2,Nat.testBit_two_pow_self]
    simp
   ·simp only [if_true]
    rw [JJ (by omega) _ _ (by omega),h1,h2,Nat.testBit_two_pow_self]
    simp
  ·have hd:decide (i<k+1)=decide (i<k):=by rw [decide_eq_decide];omega
   split
   ·rw [JJ (by omega) _ _ (by omega),h1,h2,Nat.testBit_two_pow_of_ne (Ne.symm e),hd]
    simp
   ·rw [Nat.testBit_or,h1,h2,Nat.testBit_two_pow_of_ne (Ne.symm e),hd]
    simp
abbrev B64:={ x:Nat×Nat // x.1<2^6∧x.2<2^6 }
def pQ {A:Type} (fine:A→Nat→Bool) (n:Nat) (a:A) (x:B64):B64×Bool:=if hn:n≤6 then (⟨eM (fine a) n x.1,qW (fine a) x.2 n hn⟩,true) else (x,true)
theorem CH {A:Type} (fine:A→Nat→Bool) (n:Nat) (a:A) (x:B64):(pQ fine n a x).2=true:=by unfold pQ;split<;>rfl
theorem yI {A:Type} (fine:A→Nat→Bool) {n:Nat} (hn:n≤6) (a:A) (x:B64):(pQ fine n a x).1.1=eM (fine a) n x.1:=by unfold pQ;rw [dif_pos hn]
def n5 {A:Type} (fine:A→Nat→Bool) (n:Nat) (l:List A) (x:B64):B64:=l.foldl (fun x a=>(pQ fine n a x).1) x
theorem yU {A:Type} (fine:A→Nat→Bool) {n:Nat} (hn:n≤6) {i:Nat} (hi:i<n):∀ (l:List A) (x:B64),(n5 fine n l x).1.1.testBit i=(x.1.1.testBit i&&l.all fun a=>!fine a i)∧(n5 fine n l x).1.2.testBit i=(x.1.2.testBit i||l.any fun a=>!fine a i)
 |[],x=>by simp [n5]
 |a::l,x=>by
  obtain ⟨h1,h2⟩:=yU fine hn hi l (pQ fine n a x).1
  obtain ⟨q1,q2⟩:=CT (fine a) (n:=6) (by omega) x.2 i n hn
  simp only [n5,List.foldl_cons,List.all_cons,List.any_cons] at h1 h2 ⊢
  rw [h1,h2,yI fine hn,q1,q2]
  simp only [hi,decide_true,Bool.true_and]
  exact ⟨by rw [Bool.and_assoc],by rw [Bool.or_assoc]⟩
def mJ (n:Nat) (hn:n≤6):B64:=⟨(2^n-1,0),by
 have:2^n≤2^6:=Nat.pow_le_pow_right (by omega) hn
 have:=Nat.two_pow_pos n
 exact ⟨by simp only;omega,by simp⟩⟩
theorem IP {A:Type} (fine:A→Nat→Bool) {n:Nat} (hn:n≤6) (l:List A):lst n (n5 fine n l (mJ n hn)).1.1=(aU 0 n).filter (fun i=>l.all fun a=>!fine a i.toNat)∧lst n (n5 fine n l (mJ n hn)).1.2=(aU 0 n).filter (fun i=>l.any fun a=>!fine a i.toNat):=by
 simp only [lst]
 constructor
 ·refine List.filter_congr fun x hx=>?_
  have hxr:=(cC _ _ _).1 hx
  have hi:x.toNat<n:=by omega
  rw [←xL,(yU fine hn hi l _).1]
  simp only [mJ,Nat.testBit_two_pow_sub_one,hi,decide_true,Bool.true_and]
 ·refine List.filter_congr fun x hx=>?_
  have hxr:=(cC _ _ _).1 hx
  have hi:x.toNat<n:=by omega
  rw [←xL,(yU fine hn hi l _).2]
  simp only [mJ,Nat.zero_testBit,Bool.false_or]
def iM (v:Net) (c:List Int) (t:Nat):Bool:=jE v t (cT (d7 v c) t)
theorem IH {v:Net} {bl:List Int} {t:Nat}:∀ s∈aJ v bl,mF v (t:Int) s = !iM v (tC s) t:=fun s hs=>by
 have hl:=uM hs
 simp only [mF,iM,qZ (show s.closed.length=s.mins.length by omega),Int.toNat_natCast]
theorem HM {v:Net} (hv:Vd v) (h3:v.trams.length≤6):lst v.trams.length (n5 (iM v) v.trams.length (TL v []) (mJ _ h3)).1.1=j8 v (aJ v [])∧lst v.trams.length (n5 (iM v) v.trams.length (TL v []) (mJ _ h3)).1.2=kQ v (aJ v []):=by
 obtain ⟨h1,h2⟩:=IP (iM v) h3 (TL v [])
 rw [h1,h2,j8,kQ]
 constructor
 ·refine List.filter_congr fun x hx=>?_
  have hxr:=(cC _ _ _).1 hx
  obtain ⟨t,rfl⟩:∃ t:Nat,x=t:=⟨x.toNat,by omega⟩
  rw [wX,Int.toNat_natCast]
  exact (LT hv [] _ _ IH).symm
 ·refine List.filter_congr fun x hx=>?_
  have hxr:=(cC _ _ _).1 hx
  obtain ⟨t,rfl⟩:∃ t:Nat,x=t:=⟨x.toNat,by omega⟩
  rw [wT,Int.toNat_natCast]
  exact (UM hv [] _ _ IH).symm
def kC (c:List Int) (r:Nat):Bool:=!((c[r]?).getD 0==0)
theorem AS {v:Net} (hv:Vd v) {bl:List Int} {r:Nat} (hr:r<v.rails.length):∀ s∈aJ v bl,mE (r:Int) s = !kC (tC s) r:=fun s hs=>by
 have hs1:=(List.mem_filter.1 hs).1
 have hl:=gZ hs1
 have hst:∀ k,k≤v.rails.length→∀ s∈oH v.rails k,∀ i,i<k→1≤(s.mins[i]?).getD 0:=by
  intro k
  induction k with
  |zero=>intro _ s _ i hi;omega
  |succ k ih =>
   intro hk s h i hi
   have hk1:k<v.rails.length:=by omega
   simp only [oH,List.getElem?_eq_getElem hk1,List.mem_flatMap,zX,List.mem_map,List.mem_filter] at h
   obtain ⟨s0,hs0,m,hm,c,_,rfl⟩:=h
   have hl0:=(tT k (by omega) s0 hs0).2.1
   by_cases e:i=k
   ·subst e
    rw [CM hl0]
    have:=(hv.ra _ (List.getElem_mem hk1)).mins
    have:=kD.1 hm
    omega
   ·rw [List.getElem?_append_left (by omega)]
    exact ih (by omega) s0 hs0 i (by omega)
 have hm:=hst v.rails.length (Nat.le_refl _) s hs1 r hr
 have he:=congrFun (yO (s:=s) (by omega)) (r:Int)
 simp only [rlI,Int.toNat_natCast] at he
 simp only [kC,←he,eff,mE,Int.toNat_natCast,Bool.not_not]
 split
 ·rename_i h;rw [h];rfl
 ·rename_i h
  rw [Bool.not_eq_true] at h
  rw [h]
  symm
  simp only [beq_eq_false_iff_ne]
  omega
theorem R8 {v:Net} (hv:Vd v) (h6:v.rails.length≤6):lst v.rails.length (n5 kC v.rails.length (TL v []) (mJ _ h6)).1.1=sQ v (aJ v [])∧lst v.rails.length (n5 kC v.rails.length (TL v []) (mJ _ h6)).1.2=zU v (aJ v []):=by
 obtain ⟨h1,h2⟩:=IP kC h6 (TL v [])
 rw [h1,h2,sQ,zU]
 constructor
 ·refine List.filter_congr fun x hx=>?_
  have hxr:=(cC _ _ _).1 hx
  obtain ⟨t,rfl⟩:∃ t:Nat,x=t:=⟨x.toNat,by omega⟩
  rw [Int.toNat_natCast]
  exact (LT hv [] _ _ (AS hv (by omega))).symm
 ·refine List.filter_congr fun x hx=>?_
  have hxr:=(cC _ _ _).1 hx
  obtain ⟨t,rfl⟩:∃ t:Nat,x=t:=⟨x.toNat,by omega⟩
  rw [Int.toNat_natCast]
  exact (UM hv [] _ _ (AS hv (by omega))).symm
def DG (v:Net) (l:List (List Int)) (t:Nat):List Int:=l.map fun c=>cT (d7 v c) t
theorem ZV {v:Net} (hv:Vd v) (bl:List Int) (t:Nat) (x:Int):x∈dY v (aJ v bl) t↔x∈DG v (TL v bl) t:=by
 simp only [dY,DG,List.mem_map]
 constructor
 ·rintro ⟨s,hs,rfl⟩
  have hl:=uM hs
  exact ⟨_,xS hs,by rw [qZ (by omega)]⟩
 ·rintro ⟨c,hc,rfl⟩
  obtain ⟨s,hs,rfl⟩:=uB hv hc
  have hl:=uM hs
  exact ⟨s,hs,by rw [qZ (by omega)]⟩
theorem LO {l k:List Int} (h:∀ x,x∈l↔x∈k):bR l=bR k:=by
 have h1:iE (dF l)=iE (dF k):=TE fun x=>by simp only [dF,List.mem_filter,h]
 have h2:eP (dF l).length l.length=eP (dF k).length k.length:=K7 (fun x hx=>⟨x,(h x).1 hx,rfl⟩) (fun x hx=>⟨x,(h x).2 hx,rfl⟩)
 rw [bR,bR,h1,h2]
def T3 (a:Int) (x:Span×Bool×Bool):Span×Bool×Bool:=if a = -1 then (x.1,x.2.1,true) else if x.2.1=false then (⟨a,a⟩,true,x.2.2) else (mN x.1 a,true,x.2.2)
theorem LP (l:List Int) (a:Int):iE (l++[a])=if l=[] then ⟨a,a⟩ else mN (iE l) a:=by
 cases l with
 |nil=>simp [iE]
 |cons x l=>simp [iE,List.foldl_append]
theorem VX (l:List Int):∀ (k:List Int),l.foldl (fun x a=>T3 a x) (iE (dF k),!(dF k).isEmpty,k.contains (-1))=(iE (dF (k++l)),!(dF (k++l)).isEmpty,(k++l).contains (-1)):=by
 induction l with
 |nil=>intro k;simp
 |cons a l ih =>
  intro k
  rw [List.foldl_cons,show k++a::l=(k++[a])++l by simp,←ih (k++[a])]
  congr 1
  simp only [dF,List.filter_append,T3]
  by_cases h:a = -1
  ·subst h;simp
  ·have hc:(k++[a]).contains (-1)=k.contains (-1):=by
    rw [Bool.eq_iff_iff,List.contains_iff_mem,List.contains_iff_mem]
    simp;omega
   have hf:[a].filter (fun c=>!decide (c = -1))=[a]:=by simp [h]
   rw [hf,hc,LP,if_neg h]
   by_cases h2:k.filter (fun c=>!decide (c = -1))=[]
   ·simp [h2]
   ·have:(k.filter (fun c=>!decide (c = -1))).isEmpty=false:=by simpa using h2
    simp [h2,this]
theorem YU (l:List Int):l.foldl (fun x a=>T3 a x) (⟨0,0⟩,false,false)=(iE (dF l),!(dF l).isEmpty,l.contains (-1)):=VX l []
theorem JO {l:List Int} (h:l≠[]):eP (dF l).length l.length=if l.contains (-1)=false then 1 else if (dF l).isEmpty=true then 2 else 0:=by
 have h1:eP (dF l).length l.length=1↔∀ x∈l,(!decide (x = -1))=true:=uC
 have h2:eP (dF l).length l.length=2↔l≠[]∧∀ x∈l,(!decide (x = -1))=false:=sZ
 have h3:=qG (dF l).length l.length
 have he:(dF l).isEmpty=true↔∀ x∈l,(!decide (x = -1))=false:=by
  rw [List.isEmpty_iff,dF,List.filter_eq_nil_iff]
  simp
 by_cases a:l.contains (-1)=false
 ·rw [if_pos a]
  refine h1.2 fun x hx=>?_
  simp only [Bool.not_eq_true',decide_eq_false_iff_not]
  rintro rfl
  rw [←Bool.not_eq_true,List.contains_iff_mem] at a
  exact a hx
 ·rw [if_neg a]
  have n1:¬eP (dF l).length l.length=1:=by
   rw [h1]
   intro q
   rw [Bool.not_eq_false,List.contains_iff_mem] at a
   have:=q _ a
   simp at this
  by_cases b:(dF l).isEmpty=true
  ·rw [if_pos b]
   exact h2.2 ⟨h,he.1 b⟩
  ·rw [if_neg b]
   rcases h3 with h3|h3|h3
   ·exact h3
   ·exact absurd h3 n1
   ·exact absurd (he.2 (h2.1 h3).2) b
def n4 (f:Nat→Int) (i:Nat) (v:Int):Nat→Int:=fun j=>if j=i then v else f j
def bV (n:Nat) (f:Nat→Int):List AV:=(List.range n).map fun i=>.int .i64 (f i)
theorem eU (n:Nat) (f:Nat→Int):(bV n f).length=n:=by simp [bV]
theorem kR (n:Nat) (f:Nat→Int) {i:Nat} (h:i<n):(bV n f)[i]? = some (.int .i64 (f i)):=by simp [bV,h]
theorem KN {n:Nat} {f g:Nat→Int} (h:∀ i,i<n→f i=g i):bV n f=bV n g:=by
 refine List.map_congr_left fun i hi=>?_
 rw [h i (by simpa using hi)]
theorem tW (n:Nat) (f:Nat→Int) (v:Int) {i:Nat} (h:i<n):(bV n f).take i++[AV.int .i64 v]++(bV n f).drop (i+1)=bV n (n4 f i v):=by
 have h1:(bV n f).take i++[AV.int .i64 v]++(bV n f).drop (i+1)=(bV n f).set i (.int .i64 v):=by
  rw [List.set_eq_take_append_cons_drop,if_pos (by rw [eU];exact h)];simp
 rw [h1]
 refine List.ext_getElem? fun j=>?_
 by_cases hj:j<n
 ·rw [kR n _ hj,List.getElem?_set]
  by_cases e:i=j
  ·subst e;simp [eU,hj,n4]
  ·rw [if_neg e,kR n _ hj];simp [n4,show ¬j=i from fun q=>e q.symm]
 ·rw [List.getElem?_eq_none (by rw [List.length_set,eU];omega),List.getElem?_eq_none (by rw [eU];omega)]
theorem pF (n:Nat) (f:Nat→Int):n8 (bV n f):=bL (enc:=fun i:Nat=>AV.int .i64 (f i)) (fun i=>dC _ _) (List.range n)
instance (n:Nat) (f:Nat→Int):Dats (bV n f):=⟨pF n f⟩
theorem F1 (n:Nat) (f:Nat→Int) (m:Nat):okVs m (bV n f):=IR (pF n f) m
theorem lS (n:Nat) (f:Nat→Int) (σ:St) (m d:Nat):dN σ m d (bV n f)=some (bV n f):=mH (pF n f) σ m d
theorem gI (n:Nat) (f:Nat→Int):cJ (bV n f)=true:=aDU _ _ fun i=>by simp [AV.cell]
theorem gD (n:Nat) (f:Nat→Int):(bV n f).take n=bV n f:=List.take_of_length_le (by rw [eU];exact Nat.le_refl n)
theorem gJ (n:Nat) (f:Nat→Int):(bV n f).drop n=[]:=List.drop_eq_nil_of_le (by rw [eU];exact Nat.le_refl n)
theorem JL (f g:Nat→Int):∀ l:List Nat,bT (List.replicate l.length .i) (l.map fun i=>.int .i64 (f i)) (l.map fun i=>.int .i64 (g i))=some (l.all fun i=>f i==g i)
 |[]=>rfl
 |x::l=>by
  simp only [List.length_cons,List.replicate_succ,List.map_cons,RX,aAC,JL f g l,SI,List.all_cons]
theorem ON (n:Nat) (f g:Nat→Int):bT (List.replicate n .i) (bV n f) (bV n g)=some ((List.range n).all fun i=>f i==g i):=by
 have:=JL f g (List.range n)
 rwa [List.length_range] at this
section
variable {K:Type} [DecidableEq K]
def pC (M:List K) (w:K):List K:=if w∈M then M else M++[w]
structure KeyIs (sh:EqTy) (enc val:K→AV):Prop where
 eq:∀ w x,k6 sh (enc w) (enc x)=some (decide (w=x))
 dk:∀ w,mD (enc w)
 dv:∀ w,mD (val w)
variable {sh:EqTy} {enc val:K→AV}
def sR (enc val:K→AV) (M:List K):List (AV×AV):=M.map fun w=>(enc w,val w)
theorem NC (h:KeyIs sh enc val) (w:K):∀ M:List K,findKey sh (enc w) (sR enc val M)=some (if w∈M then some (val w) else none)
 |[]=>by simp [sR,findKey]
 |x::M=>by
  have ih:=NC h w M
  simp only [sR,List.map_cons,findKey,h.eq] at ih ⊢
  by_cases e:w=x
  ·subst e;simp
  ·simp only [e,decide_false,ih,List.mem_cons,false_or]
theorem VE (h:KeyIs sh enc val) (w:K):∀ M:List K,w∉M→o6 sh (enc w) (val w) (sR enc val M)=some (sR enc val (M++[w]))
 |[],_=>by simp [sR,o6]
 |x::M,hn=>by
  have ih:=VE h w M (fun q=>hn (List.mem_cons_of_mem _ q))
  have hx:w≠x:=fun e=>hn (by rw [e];simp)
  simp only [sR,List.map_cons,o6,h.eq,List.cons_append] at ih ⊢
  simp only [hx,decide_false,ih,Option.map_some]
theorem aDQ (h:KeyIs sh enc val) (M:List K) (k:Nat):aL k (.map (sR enc val M)):=by
 simp only [aL,sR]
 intro q hq
 obtain ⟨w,hw,rfl⟩:=List.mem_map.1 hq
 exact ⟨AC (h.dk w) k,AC (h.dv w) k⟩
variable {S:List K→St} {obj:List AV} {p m N:Nat}
theorem X8 (hk:KeyIs sh enc val) (h:MemAt S obj (sR enc val) p m N) (M:List K) (τ:St) (w:K):vW sh (S M++τ) (.map m) (enc w)=some (if w∈M then some (val w) else none):=by
 simp only [vW,h.map1,NC hk,hk.eq]
 simp
theorem aE8 (hk:KeyIs sh enc val) (h:MemAt S obj (sR enc val) p m N) (M:List K) (τ:St) (w:K) (hw:w∉M):z0 sh (S M++τ) (.map m) (enc w) (val w)=some (S (M++[w])++τ):=by
 simp only [z0,hk.eq,h.map1,VE hk w M hw,Option.map_some,h.mset1]
 simp
end
end Go.Am.Room
set_option maxRecDepth 4000
namespace Go.Am.Room
def jT (x:List Int×List Int×Int):AV:=.tuple [ints x.1,ints x.2.1,.int .i64 x.2.2]
def xJ (x:Int×Int):AV:=.tuple [.int .i64 x.1,.int .i64 x.2]
def kA (x:Span×Int×Int):AV:=.tuple [n9 x.1,.int .i64 x.2.1,.int .i64 x.2.2]
end Go.Am.Room
set_option maxRecDepth 4000
namespace Go.Am.Room
theorem J3 {n:Nat} {k:Nat} (h:k<n) (p:Int→Bool):(aU (k:Int) ((n:Int)-k).toNat).filter p=(if p (k:Int)=true then [(k:Int)] else [])++(aU ((k+1:Nat):Int) ((n:Int)-((k+1:Nat):Int)).toNat).filter p:=by
 rw [rN (by omega),List.filter_cons,show (k:Int)+1=((k+1:Nat):Int) by omega]
 split<;>rfl
theorem UV {n k:Nat} (h:k=n) (p:Int→Bool):(aU (k:Int) ((n:Int)-k).toNat).filter p=[]:=by
 rw [rM (by omega)];rfl
theorem F5q {v:Net} {l:List Int} {k:Nat} (h:k<l.length) (b:Int):gR v (l.drop k) b=gR v (l.drop (k+1)) (if b<0∨qT v l[k].toNat<qT v b.toNat then l[k] else b):=by
 rw [List.drop_eq_getElem_cons h,gR]
theorem R2 {v:Net} {t:Nat} (h:t<v.trams.length):qT v t=v.trams[t].due:=by simp [qT,h]
theorem W1 {v:Net} {l:List State}:∀ t∈kQ v l,0≤t∧t<v.trams.length:=fun t ht=>by
 have:=(cC _ _ _).1 (List.mem_filter.1 ht).1
 omega
theorem VG (v:Net) (l:List State):(kQ v l).length≤v.trams.length:=by
 have:=List.length_filter_le (wT v l) (aU 0 v.trams.length)
 rw [lB] at this
 exact this
end Go.Am.Room
set_option maxRecDepth 4000
namespace Go.Am.Room
instance (l:List (List (List Int))):Dats (l.map bU):=⟨bL v3 l⟩
theorem cR (l:List (List Int)):bU l = .lit (l.map ints) false none:=by simp only [bU]
def wQ (x:List (List Int)×List Int×Int):AV:=.tuple [bU x.1,ints x.2.1,.int .i64 x.2.2]
def qJ (v:Net) (cs:List Int) (n:Nat):Bool:=(List.range n).all fun t=>jE v t (cT cs t)
theorem IZ (v:Net) (cs:List Int) (n:Nat):qJ v cs (n+1)=(qJ v cs n&&jE v n (cT cs n)):=by simp [qJ,List.range_succ,List.all_append]
theorem O8 {v:Net} {cs:List Int} {k:Nat} (h:qJ v cs k=false) {j:Nat} (hj:k≤j):qJ v cs j=false:=by
 simp only [qJ,List.all_eq_false,List.mem_range] at h ⊢
 obtain ⟨a,ha,h1⟩:=h
 exact ⟨a,by omega,h1⟩
theorem rG {v:Net} {t:Nat} {z:Tram} (h:v.trams[t]? = some z) (c:Int):jE v t c=(!decide (c = -1)&&decide (c≤z.due)):=by simp only [jE,qT,h]
theorem GW {v:Net} {t:Nat} (h:t<v.trams.length):eI (fY v) t=v.trams[t].path:=by simp [eI,fY,h]
theorem M9 {ps:List (List Int)} {t:Nat} (h:t<ps.length):eI ps t=ps[t]:=by simp [eI,h]
def XL (v:Net) (ps:List (List Int)) (t:Int):Bool:=!decide (eI ps t.toNat=eI (fY v) t.toNat)
theorem GN {v:Net} {t:Nat} (h:t<v.trams.length):g8 v t=v.trams[t].frm:=by simp [g8,h]
end Go.Am.Room
set_option maxRecDepth 4000
namespace Go.Am.Room
instance (l:List (List Int)):Dats (l.map ints):=⟨bL jP l⟩
def zS (x:List Int×Int):AV:=.tuple [ints x.1,.int .i64 x.2]
def BP (x:Int×Int×Int):AV:=.tuple [.int .i64 x.1,.int .i64 x.2.1,.int .i64 x.2.2]
theorem mV {v:Net} (h:eS v=0):Vd v∧aJ v []≠[]:=by
 have hta:eS v=fZ v (cA v).2.2:=rfl
 rw [hta,fZ] at h
 split at h
 ·rename_i q
  refine ⟨eB q,fun e=>?_⟩
  rw [e] at h;simp at h
 ·rename_i q;exact absurd h q
end Go.Am.Room
set_option maxRecDepth 4000
namespace Go.Am.Room
def vG (v:Net) (r:Int) (k:Nat):Nat:=((List.range k).filter fun t=>(eJ v (g8 v t) [r]).isEmpty).length
theorem LQ (v:Net) (r:Int) (k:Nat):vG v r (k+1)=vG v r k+(if (eJ v (g8 v k) [r]).isEmpty=true then 1 else 0):=by
 rw [vG,List.range_succ,List.filter_append,List.length_append,vG]
 by_cases e:(eJ v (g8 v k) [r]).isEmpty=true
 ·simp [e]
 ·simp [e]
theorem V3 (v:Net) (r:Int) (k:Nat):vG v r k≤k:=by
 have:=List.length_filter_le (fun t=>(eJ v (g8 v t) [r]).isEmpty) (List.range k)
 rw [List.length_range] at this
 exact this
theorem HQ {v:Net} {k:Nat} (h:k<v.rails.length) (b:Int×Int):sY v (aU (k:Int) ((v.rails.length:Int)-k).toNat) b=sY v (aU ((k+1:Nat):Int) ((v.rails.length:Int)-((k+1:Nat):Int)).toNat) (if v.rails[k].shut=1 then b else if b.1<0∨b.2<B4 v k then ((k:Int),B4 v k) else b):=by
 rw [rN (by omega),sY,show (k:Int)+1=((k+1:Nat):Int) by omega,AP h]
end Go.Am.Room
set_option maxRecDepth 4000
namespace Go.Am.Room
def o4 {α:Type} (p:α→Bool):List α→Nat→Int
 |[],_=>-1
 |x::xs,k=>if p x then k else o4 p xs (k+1)
theorem yF {α:Type} (p:α→Bool):∀ (l:List α) (k:Nat),decide (0≤o4 p l k)=l.any p
 |[],k=>by simp [o4]
 |x::xs,k=>by
  cases h:p x
  ·simp [o4,h,yF p xs (k+1)]
  ·simp [o4,h]
theorem Q7 (σ:St) (f:AV) (l:List Int) (p:Int→Bool) (hl:l.length<9223372036854775808) (hk:u9 σ f) (h:∀ x∈l,kK T f [.int .i64 x] σ (.bool (p x))):kK T (.func 114 [] []) [ints l,f] σ (.int .i64 (o4 p l 0)):=by
 refine fC (af:=a114) rfl (by simp [a114]) ?_
 have hk0:=hk.nil
 (repeat (first|simp only [↓QA,QB,Nat.reduceLT,reduceIte,Nat.reduceEqDiff,Nat.reduceAdd,Nat.reduceLeDiff,Nat.reduceMul,Nat.reduceBEq,a114]|refine rd0 rfl ?_))
 refine bY (S:=Nat) 0 (fun k=>k≤l.length∧o4 p (l.drop k) k=o4 p l 0) (fun k=>l.length-k) (fun k=>[(0,ints l),(1,f),(7,.int .i64 l.length),(8,.int .i64 k)]) (fun _=>σ) ⟨Nat.zero_le _,by simp⟩ rfl ?_ fun k hk1=>?_
 ·try simp only [aE,QE,Nat.reduceLT,reduceIte,Nat.reduceEqDiff,Nat.reduceAdd,Nat.reduceLeDiff,Nat.reduceMul,Nat.reduceBEq]
  try simp
 ·obtain ⟨hkl,hi⟩:=hk1
  (repeat (first|simp only [↓QA,QB,Nat.reduceLT,reduceIte,Nat.reduceEqDiff,Nat.reduceAdd,Nat.reduceLeDiff,Nat.reduceMul,Nat.reduceBEq,RN]|refine rd0 rfl ?_))
  refine aG (fun hd=>?_) fun hd=>?_
  ·have hlt:k<l.length:=by simpa using hd
   rw [List.drop_eq_getElem_cons hlt] at hi
   simp only [o4] at hi
   have hw:=bX hlt hl
   (repeat (first|simp only [↓QA,QB,Nat.reduceLT,reduceIte,Nat.reduceEqDiff,Nat.reduceAdd,Nat.reduceLeDiff,Nat.reduceMul,Nat.reduceBEq,hlt]|refine rd0 rfl ?_))
   refine cM (h l[k] (List.getElem_mem hlt)) ?_
   (repeat (first|simp only [↓QA,QB,Nat.reduceLT,reduceIte,Nat.reduceEqDiff,Nat.reduceAdd,Nat.reduceLeDiff,Nat.reduceMul,Nat.reduceBEq]|refine rd0 rfl ?_))
   cases hp:p l[k]
   ·(repeat (first|simp only [↓QA,QB,Nat.reduceLT,reduceIte,Nat.reduceEqDiff,Nat.reduceAdd,Nat.reduceLeDiff,Nat.reduceMul,Nat.reduceBEq,hw]|refine rd0 rfl ?_))
    refine ⟨k+1,⟨by omega,by rw [←hi,hp];rfl⟩,by omega,?_⟩
    try simp only [aE,QE,Nat.reduceLT,reduceIte,Nat.reduceEqDiff,Nat.reduceAdd,Nat.reduceLeDiff,Nat.reduceMul,Nat.reduceBEq,hw,hk0,Nat.le_refl]
   ·(repeat (first|simp only [↓QA,QB,Nat.reduceLT,reduceIte,Nat.reduceEqDiff,Nat.reduceAdd,Nat.reduceLeDiff,Nat.reduceMul,Nat.reduceBEq]|refine rd0 rfl ?_))
    refine fR [] (by first|rfl|simp) ?_
    rw [←hi,hp]
    try simp only [QS,QC,Nat.reduceLT,reduceIte,Nat.reduceEqDiff,Nat.reduceAdd,Nat.reduceLeDiff,Nat.reduceMul,Nat.reduceBEq]
  ·have hlt:k=l.length:=by simp at hd;omega
   (repeat (first|simp only [↓QA,QB,Nat.reduceLT,reduceIte,Nat.reduceEqDiff,Nat.reduceAdd,Nat.reduceLeDiff,Nat.reduceMul,Nat.reduceBEq]|refine rd0 rfl ?_))
   refine fR [] (by first|rfl|simp) ?_
   rw [←hi,hlt,List.drop_length]
   try simp only [QS,QC,Nat.reduceLT,reduceIte,Nat.reduceEqDiff,Nat.reduceAdd,Nat.reduceLeDiff,Nat.reduceMul,Nat.reduceBEq,o4]
theorem sD (σ:St) (f:AV) (l:List Int) (p:Int→Bool) (hl:l.length<9223372036854775808) (hk:u9 σ f) (h:∀ x∈l,kK T f [.int .i64 x] σ (.bool (p x))):kK T (.func 98 [] []) [ints l,f] σ (.bool (l.any p)):=by
 refine fC (af:=a98) rfl (by simp [a98]) ?_
 (repeat (first|simp only [↓QA,QB,Nat.reduceLT,reduceIte,Nat.reduceEqDiff,Nat.reduceAdd,Nat.reduceLeDiff,Nat.reduceMul,Nat.reduceBEq,a98]|refine rd0 rfl ?_))
 refine cM (Q7 σ f l p hl hk h) ?_
 (repeat (first|simp only [↓QA,QB,Nat.reduceLT,reduceIte,Nat.reduceEqDiff,Nat.reduceAdd,Nat.reduceLeDiff,Nat.reduceMul,Nat.reduceBEq]|refine rd0 rfl ?_))
 refine fR [] (by first|rfl|simp) ?_
 rw [←yF p l 0]
 try simp only [QS,QC,Nat.reduceLT,reduceIte,Nat.reduceEqDiff,Nat.reduceAdd,Nat.reduceLeDiff,Nat.reduceMul,Nat.reduceBEq]
def mZ (lo hi n:Int):Bool:=decide (n<lo)||decide (hi<n)
theorem K0 (lo hi n:Int):kK T (.func 99 [] [.ptr 0 0,.ptr 1 0]) [.int .i64 n] [.cells [.int .i64 lo],.cells [.int .i64 hi]] (.bool (mZ lo hi n)):=by
 refine fC (af:=a99) rfl (by simp [a99]) ?_
 (repeat (first|simp only [↓QA,QB,Nat.reduceLT,reduceIte,Nat.reduceEqDiff,Nat.reduceAdd,Nat.reduceLeDiff,Nat.reduceMul,Nat.reduceBEq,a99]|refine rd0 rfl ?_))
 refine aG (fun h=>?_) fun h=>?_
 all_goals
  (repeat (first|simp only [↓QA,QB,Nat.reduceLT,reduceIte,Nat.reduceEqDiff,Nat.reduceAdd,Nat.reduceLeDiff,Nat.reduceMul,Nat.reduceBEq,h]|refine rd0 rfl ?_))
  refine fR [] (by first|rfl|simp) ?_
  try simp only [QS,QC,Nat.reduceLT,reduceIte,Nat.reduceEqDiff,Nat.reduceAdd,Nat.reduceLeDiff,Nat.reduceMul,Nat.reduceBEq,mZ,h]
  try simp
def qK (lo hi:Int) (ns:List Int):Bool:=ns.any (mZ lo hi)
theorem bZ (lo hi:Int) (ns:List Int) (hl:ns.length<9223372036854775808):dR T 63 [.int .i64 lo,.int .i64 hi,ints ns] (.bool (qK lo hi ns)):=by
 refine bE (af:=a63) rfl (by simp [a63]) dd ?_
 (repeat (first|simp only [↓QA,QB,Nat.reduceLT,reduceIte,Nat.reduceEqDiff,Nat.reduceAdd,Nat.reduceLeDiff,Nat.reduceMul,Nat.reduceBEq,a63]|refine rd0 rfl ?_))
 refine cM (sD _ _ ns (mZ lo hi) hl (fun τ=>?_) fun x _=>K0 lo hi x) ?_
 ·try simp only [QS,QC,Nat.reduceLT,reduceIte,Nat.reduceEqDiff,Nat.reduceAdd,Nat.reduceLeDiff,Nat.reduceMul,Nat.reduceBEq]
 ·(repeat (first|simp only [↓QA,QB,Nat.reduceLT,reduceIte,Nat.reduceEqDiff,Nat.reduceAdd,Nat.reduceLeDiff,Nat.reduceMul,Nat.reduceBEq,qK]|refine rd0 rfl ?_))
theorem ZZ (lo hi n:Int):kK T (.func 115 [] [.ptr 0 0,.ptr 1 0]) [.int .i64 n] [.cells [.int .i64 lo],.cells [.int .i64 hi]] (.bool (mZ lo hi n)):=by
 refine fC (af:=a115) rfl (by simp [a115]) ?_
 (repeat (first|simp only [↓QA,QB,Nat.reduceLT,reduceIte,Nat.reduceEqDiff,Nat.reduceAdd,Nat.reduceLeDiff,Nat.reduceMul,Nat.reduceBEq,a115]|refine rd0 rfl ?_))
 refine aG (fun h=>?_) fun h=>?_
 all_goals
  (repeat (first|simp only [↓QA,QB,Nat.reduceLT,reduceIte,Nat.reduceEqDiff,Nat.reduceAdd,Nat.reduceLeDiff,Nat.reduceMul,Nat.reduceBEq,h]|refine rd0 rfl ?_))
  refine fR [] (by first|rfl|simp) ?_
  try simp only [QS,QC,Nat.reduceLT,reduceIte,Nat.reduceEqDiff,Nat.reduceAdd,Nat.reduceLeDiff,Nat.reduceMul,Nat.reduceBEq,mZ,h]
  try simp
theorem V2 (lo hi:Int) (ns:List Int) (hl:ns.length<9223372036854775808):dR T 100 [.int .i64 lo,.int .i64 hi,ints ns] (.bool (qK lo hi ns)):=by
 refine bE (af:=a100) rfl (by simp [a100]) dd ?_
 (repeat (first|simp only [↓QA,QB,Nat.reduceLT,reduceIte,Nat.reduceEqDiff,Nat.reduceAdd,Nat.reduceLeDiff,Nat.reduceMul,Nat.reduceBEq,a100]|refine rd0 rfl ?_))
 refine cM (sD _ _ ns (mZ lo hi) hl (fun τ=>?_) fun x _=>ZZ lo hi x) ?_
 ·try simp only [QS,QC,Nat.reduceLT,reduceIte,Nat.reduceEqDiff,Nat.reduceAdd,Nat.reduceLeDiff,Nat.reduceMul,Nat.reduceBEq]
 ·(repeat (first|simp only [↓QA,QB,Nat.reduceLT,reduceIte,Nat.reduceEqDiff,Nat.reduceAdd,Nat.reduceLeDiff,Nat.reduceMul,Nat.reduceBEq,qK]|refine rd0 rfl ?_))
theorem zH (s:ByteArray):∀ n k,k≤n→iW s k=false→iW s n=false
  | 0, k, h, h1 => by have : k = 0 := by omega
                      subst this;exact h1
  |n+1,k,h,h1=>by
    by_cases hk:k=n+1
    · subst hk;exact h1
    · simp [iW,zH s n k (by omega) h1]
theorem kZ (lo hi n:Int):qK lo hi [n] = !inR n lo hi:=by
 rw [Bool.eq_iff_iff];simp [qK,mZ,inR]
theorem NG (lo hi n m:Int):qK lo hi [n,m]=(!inR n lo hi||!inR m lo hi):=by
 rw [Bool.eq_iff_iff];simp [qK,mZ,inR]
theorem zR (s:ByteArray) (hs:s.size<9223372036854775808):dR T 68 [.str s] (.bool (qB s)):=by
 refine bE (af:=a68) rfl (by simp [a68]) dd ?_
 (repeat (first|simp only [↓QA,QB,Nat.reduceLT,reduceIte,Nat.reduceEqDiff,Nat.reduceAdd,Nat.reduceLeDiff,Nat.reduceMul,Nat.reduceBEq,a68]|refine rd0 rfl ?_))
 refine bY (S:=Nat) 0 (fun k=>k≤s.size∧iW s k=true) (fun k=>s.size-k) (fun k=>[(0,.str s),(7,.ptr 0 0)]) (fun k=>[.siter s k]) ⟨Nat.zero_le _,rfl⟩ rfl ?_ fun k hk=>?_
 ·try simp only [aE,QE,Nat.reduceLT,reduceIte,Nat.reduceEqDiff,Nat.reduceAdd,Nat.reduceLeDiff,Nat.reduceMul,Nat.reduceBEq]
  try simp
 ·obtain ⟨hkl,hok⟩:=hk
  by_cases hk1:k<s.size
  ·obtain ⟨R,hR⟩:∃ R:Int,((Utf8.decode s k).1:Int)=R:=⟨_,rfl⟩
   obtain ⟨W,hW⟩:∃ W,(Utf8.decode s k).2=W:=⟨_,rfl⟩
   have hstep:iW s (k+1)=CG k (fI s k):=by simp [iW,hok]
   have hbl:=FJ s k
   have key:(97≤R∧R≤122∨0<k∧(R=46∨48≤R∧R≤57))→W=1∧iW s (k+1)=true:=by
    intro h
    by_cases hb:fI s k<128
    ·have:=wD hk1 hb
     rw [this] at hR hW
     have hR':R=fI s k:=by simp at hR;omega
     refine ⟨hW.symm,?_⟩
     rw [hstep,CG,←hR']
     simp [inR]
     omega
    ·have:=IX hk1 (by omega)
     omega
   have key2:¬(97≤R∧R≤122∨0<k∧(R=46∨48≤R∧R≤57))→qB s=false:=by
    intro h
    have:iW s (k+1)=false:=by
     rw [hstep,CG]
     by_cases hb:fI s k<128
     ·have:=wD hk1 hb
      rw [this] at hR hW
      have hR':R=fI s k:=by simp at hR;omega
      rw [←hR']
      simp [inR]
      omega
     ·simp [inR];omega
    simp [qB,zH s s.size (k+1) (by omega) this]
   have go:∀ (e:Env),W=1∧iW s (k+1)=true→Env.get e 0 = .str s→Env.get e 7 = .ptr 0 0→∃ s',(s'≤s.size∧iW s s'=true)∧s.size-s'<s.size-k∧aE [.siter s k] e [.siter s (k+W)] [(0,.str s),(7,.ptr 0 0)] [.siter s s']:=by
    intro e h e0 e7
    refine ⟨k+1,⟨by omega,h.2⟩,by omega,?_⟩
    try simp only [aE,QE,Nat.reduceLT,reduceIte,Nat.reduceEqDiff,Nat.reduceAdd,Nat.reduceLeDiff,Nat.reduceMul,Nat.reduceBEq,e0,e7,h.1]
    try simp [aL]
   (repeat (first|simp only [↓QA,QB,Nat.reduceLT,reduceIte,Nat.reduceEqDiff,Nat.reduceAdd,Nat.reduceLeDiff,Nat.reduceMul,Nat.reduceBEq,TZ,SN hk1,hR,hW]|refine rd0 rfl ?_))
   cases h1:decide (97≤R)
   ·have h1':¬97≤R:=by simpa using h1
    (repeat (first|simp only [↓QA,QB,Nat.reduceLT,reduceIte,Nat.reduceEqDiff,Nat.reduceAdd,Nat.reduceLeDiff,Nat.reduceMul,Nat.reduceBEq,h1]|refine rd0 rfl ?_))
    cases h3:((k:Int)==0)
    ·have h3':0<k:=by simp at h3;omega
     (repeat (first|simp only [↓QA,QB,Nat.reduceLT,reduceIte,Nat.reduceEqDiff,Nat.reduceAdd,Nat.reduceLeDiff,Nat.reduceMul,Nat.reduceBEq,h3]|refine rd0 rfl ?_))
     cases h4:(R==46)
     ·have h4':R≠46:=by simpa using h4
      (repeat (first|simp only [↓QA,QB,Nat.reduceLT,reduceIte,Nat.reduceEqDiff,Nat.reduceAdd,Nat.reduceLeDiff,Nat.reduceMul,Nat.reduceBEq,h4]|refine rd0 rfl ?_))
      cases h5:decide (R<48)
      ·have h5':¬R<48:=by simpa using h5
       (repeat (first|simp only [↓QA,QB,Nat.reduceLT,reduceIte,Nat.reduceEqDiff,Nat.reduceAdd,Nat.reduceLeDiff,Nat.reduceMul,Nat.reduceBEq,h5]|refine rd0 rfl ?_))
       cases h6:decide (57<R)
       ·have h6':¬57<R:=by simpa using h6
        (repeat (first|simp only [↓QA,QB,Nat.reduceLT,reduceIte,Nat.reduceEqDiff,Nat.reduceAdd,Nat.reduceLeDiff,Nat.reduceMul,Nat.reduceBEq,h6]|refine rd0 rfl ?_))
        exact go _ (key (by omega)) (by try simp only [aE,QE,Nat.reduceLT,reduceIte,Nat.reduceEqDiff,Nat.reduceAdd,Nat.reduceLeDiff,Nat.reduceMul,Nat.reduceBEq]) (by try simp only [aE,QE,Nat.reduceLT,reduceIte,Nat.reduceEqDiff,Nat.reduceAdd,Nat.reduceLeDiff,Nat.reduceMul,Nat.reduceBEq])
       ·have h6':57<R:=by simpa using h6
        rw [key2 (by omega)]
        (repeat (first|simp only [↓QA,QB,Nat.reduceLT,reduceIte,Nat.reduceEqDiff,Nat.reduceAdd,Nat.reduceLeDiff,Nat.reduceMul,Nat.reduceBEq,h6]|refine rd0 rfl ?_))
      ·have h5':R<48:=by simpa using h5
       rw [key2 (by omega)]
       (repeat (first|simp only [↓QA,QB,Nat.reduceLT,reduceIte,Nat.reduceEqDiff,Nat.reduceAdd,Nat.reduceLeDiff,Nat.reduceMul,Nat.reduceBEq,h5]|refine rd0 rfl ?_))
     ·have h4':R=46:=by simpa using h4
      (repeat (first|simp only [↓QA,QB,Nat.reduceLT,reduceIte,Nat.reduceEqDiff,Nat.reduceAdd,Nat.reduceLeDiff,Nat.reduceMul,Nat.reduceBEq,h4]|refine rd0 rfl ?_))
      exact go _ (key (by omega)) (by try simp only [aE,QE,Nat.reduceLT,reduceIte,Nat.reduceEqDiff,Nat.reduceAdd,Nat.reduceLeDiff,Nat.reduceMul,Nat.reduceBEq]) (by try simp only [aE,QE,Nat.reduceLT,reduceIte,Nat.reduceEqDiff,Nat.reduceAdd,Nat.reduceLeDiff,Nat.reduceMul,Nat.reduceBEq])
    ·have h3':k=0:=by simp at h3;omega
     rw [key2 (by omega)]
     (repeat (first|simp only [↓QA,QB,Nat.reduceLT,reduceIte,Nat.reduceEqDiff,Nat.reduceAdd,Nat.reduceLeDiff,Nat.reduceMul,Nat.reduceBEq,h3]|refine rd0 rfl ?_))
   ·have h1':97≤R:=by simpa using h1
    (repeat (first|simp only [↓QA,QB,Nat.reduceLT,reduceIte,Nat.reduceEqDiff,Nat.reduceAdd,Nat.reduceLeDiff,Nat.reduceMul,Nat.reduceBEq,h1]|refine rd0 rfl ?_))
    cases h2:decide (R≤122)
    ·have h2':¬R≤122:=by simpa using h2
     (repeat (first|simp only [↓QA,QB,Nat.reduceLT,reduceIte,Nat.reduceEqDiff,Nat.reduceAdd,Nat.reduceLeDiff,Nat.reduceMul,Nat.reduceBEq,h2]|refine rd0 rfl ?_))
     cases h3:((k:Int)==0)
     ·have h3':0<k:=by simp at h3;omega
      (repeat (first|simp only [↓QA,QB,Nat.reduceLT,reduceIte,Nat.reduceEqDiff,Nat.reduceAdd,Nat.reduceLeDiff,Nat.reduceMul,Nat.reduceBEq,h3]|refine rd0 rfl ?_))
      cases h4:(R==46)
      ·have h4':R≠46:=by simpa using h4
       (repeat (first|simp only [↓QA,QB,Nat.reduceLT,reduceIte,Nat.reduceEqDiff,Nat.reduceAdd,Nat.reduceLeDiff,Nat.reduceMul,Nat.reduceBEq,h4]|refine rd0 rfl ?_))
       cases h5:decide (R<48)
       ·have h5':¬R<48:=by simpa using h5
        (repeat (first|simp only [↓QA,QB,Nat.reduceLT,reduceIte,Nat.reduceEqDiff,Nat.reduceAdd,Nat.reduceLeDiff,Nat.reduceMul,Nat.reduceBEq,h5]|refine rd0 rfl ?_))
        cases h6:decide (57<R)
        ·have h6':¬57<R:=by simpa using h6
         (repeat (first|simp only [↓QA,QB,Nat.reduceLT,reduceIte,Nat.reduceEqDiff,Nat.reduceAdd,Nat.reduceLeDiff,Nat.reduceMul,Nat.reduceBEq,h6]|refine rd0 rfl ?_))
         exact go _ (key (by omega)) (by try simp only [aE,QE,Nat.reduceLT,reduceIte,Nat.reduceEqDiff,Nat.reduceAdd,Nat.reduceLeDiff,Nat.reduceMul,Nat.reduceBEq]) (by try simp only [aE,QE,Nat.reduceLT,reduceIte,Nat.reduceEqDiff,Nat.reduceAdd,Nat.reduceLeDiff,Nat.reduceMul,Nat.reduceBEq])
        ·have h6':57<R:=by simpa using h6
         rw [key2 (by omega)]
         (repeat (first|simp only [↓QA,QB,Nat.reduceLT,reduceIte,Nat.reduceEqDiff,Nat.reduceAdd,Nat.reduceLeDiff,Nat.reduceMul,Nat.reduceBEq,h6]|refine rd0 rfl ?_))
       ·have h5':R<48:=by simpa using h5
        rw [key2 (by omega)]
        (repeat (first|simp only [↓QA,QB,Nat.reduceLT,reduceIte,Nat.reduceEqDiff,Nat.reduceAdd,Nat.reduceLeDiff,Nat.reduceMul,Nat.reduceBEq,h5]|refine rd0 rfl ?_))
      ·have h4':R=46:=by simpa using h4
       (repeat (first|simp only [↓QA,QB,Nat.reduceLT,reduceIte,Nat.reduceEqDiff,Nat.reduceAdd,Nat.reduceLeDiff,Nat.reduceMul,Nat.reduceBEq,h4]|refine rd0 rfl ?_))
       exact go _ (key (by omega)) (by try simp only [aE,QE,Nat.reduceLT,reduceIte,Nat.reduceEqDiff,Nat.reduceAdd,Nat.reduceLeDiff,Nat.reduceMul,Nat.reduceBEq]) (by try simp only [aE,QE,Nat.reduceLT,reduceIte,Nat.reduceEqDiff,Nat.reduceAdd,Nat.reduceLeDiff,Nat.reduceMul,Nat.reduceBEq])
     ·have h3':k=0:=by simp at h3;omega
      rw [key2 (by omega)]
      (repeat (first|simp only [↓QA,QB,Nat.reduceLT,reduceIte,Nat.reduceEqDiff,Nat.reduceAdd,Nat.reduceLeDiff,Nat.reduceMul,Nat.reduceBEq,h3]|refine rd0 rfl ?_))
    ·have h2':R≤122:=by simpa using h2
     (repeat (first|simp only [↓QA,QB,Nat.reduceLT,reduceIte,Nat.reduceEqDiff,Nat.reduceAdd,Nat.reduceLeDiff,Nat.reduceMul,Nat.reduceBEq,h2]|refine rd0 rfl ?_))
     exact go _ (key (by omega)) (by try simp only [aE,QE,Nat.reduceLT,reduceIte,Nat.reduceEqDiff,Nat.reduceAdd,Nat.reduceLeDiff,Nat.reduceMul,Nat.reduceBEq]) (by try simp only [aE,QE,Nat.reduceLT,reduceIte,Nat.reduceEqDiff,Nat.reduceAdd,Nat.reduceLeDiff,Nat.reduceMul,Nat.reduceBEq])
  ·have hk2:k=s.size:=by omega
   (repeat (first|simp only [↓QA,QB,Nat.reduceLT,reduceIte,Nat.reduceEqDiff,Nat.reduceAdd,Nat.reduceLeDiff,Nat.reduceMul,Nat.reduceBEq,TZ,SJ hk1]|refine rd0 rfl ?_))
   ((first|refine eO (V2 1 16 [(s.size:Int)] (by simp)) (by simp [clr,clrs,ints]) (by simp [okV,okVs]) ?_|refine fT (V2 1 16 [(s.size:Int)] (by simp)) (by simp [clr,clrs,ints]) (by simp [okV,okVs]) ?_);(repeat (first|simp only [↓QA,QB,Nat.reduceLT,reduceIte,Nat.reduceEqDiff,Nat.reduceAdd,Nat.reduceLeDiff,Nat.reduceMul,Nat.reduceBEq]|refine rd0 rfl ?_)))
   rw [kZ]
   (repeat (first|simp only [↓QA,QB,Nat.reduceLT,reduceIte,Nat.reduceEqDiff,Nat.reduceAdd,Nat.reduceLeDiff,Nat.reduceMul,Nat.reduceBEq]|refine rd0 rfl ?_))
   simp [qB,←hk2,hok]
def vU (x:Int×Int):AV:=.tuple [.int .i64 x.1,.int .i64 x.2]
theorem AW {α:Type} (f:α→ByteArray) (s:ByteArray):∀ l:List α,l.any (fun x=>decide (f x=s))=decide (lD s (l.map f)≠(l.map f).length)
 |[]=>by simp [lD]
 |x::xs=>by
  simp only [List.any_cons,AW f s xs,List.map_cons,lD,List.length_cons]
  by_cases h:f x=s
  ·simp [h]
  ·simp [h]
end Go.Am.Room
set_option maxRecDepth 4000
namespace Go.Am.Room
def fA:=And.intro @Int.toNat_natCast (@List.length_append.{0})
theorem wN (n:Int):dR T 121 [.int .i64 n] (.bool false):=by
 refine bE (af:=a121) rfl (by simp [a121]) dd ?_
 (repeat (first|simp only [↓QA,QB,Nat.reduceLT,reduceIte,Nat.reduceEqDiff,Nat.reduceAdd,Nat.reduceLeDiff,Nat.reduceMul,Nat.reduceBEq,fA,a121]|refine rd0 rfl ?_))
 try simp
def DF (a b:Int):Int:=if a<b then -1 else if b<a then 1 else 0
theorem UE (a b:Int):dR T 113 [.int .i64 a,.int .i64 b] (.int .i64 (DF a b)):=by
 refine bE (af:=a113) rfl (by simp [a113]) dd ?_
 (repeat (first|simp only [↓QA,QB,Nat.reduceLT,reduceIte,Nat.reduceEqDiff,Nat.reduceAdd,Nat.reduceLeDiff,Nat.reduceMul,Nat.reduceBEq,fA,a113]|refine rd0 rfl ?_))
 ((first|refine aC (wN a) rfl dd ?_|refine aD (wN a) rfl dd ?_);(repeat (first|simp only [↓QA,QB,Nat.reduceLT,reduceIte,Nat.reduceEqDiff,Nat.reduceAdd,Nat.reduceLeDiff,Nat.reduceMul,Nat.reduceBEq,fA]|refine rd0 rfl ?_)))
 ((first|refine aC (wN b) rfl dd ?_|refine aD (wN b) rfl dd ?_);(repeat (first|simp only [↓QA,QB,Nat.reduceLT,reduceIte,Nat.reduceEqDiff,Nat.reduceAdd,Nat.reduceLeDiff,Nat.reduceMul,Nat.reduceBEq,fA]|refine rd0 rfl ?_)))
 cases h1:decide (a<b)
 ·have h1':¬a<b:=by simpa using h1
  (repeat (first|simp only [↓QA,QB,Nat.reduceLT,reduceIte,Nat.reduceEqDiff,Nat.reduceAdd,Nat.reduceLeDiff,Nat.reduceMul,Nat.reduceBEq,fA]|refine rd0 rfl ?_))
  cases h2:decide (b<a)
  ·have h2':¬b<a:=by simpa using h2
   (repeat (first|simp only [↓QA,QB,Nat.reduceLT,reduceIte,Nat.reduceEqDiff,Nat.reduceAdd,Nat.reduceLeDiff,Nat.reduceMul,Nat.reduceBEq,fA]|refine rd0 rfl ?_))
   simp [DF,h1',h2']
  ·have h2':b<a:=by simpa using h2
   (repeat (first|simp only [↓QA,QB,Nat.reduceLT,reduceIte,Nat.reduceEqDiff,Nat.reduceAdd,Nat.reduceLeDiff,Nat.reduceMul,Nat.reduceBEq,fA]|refine rd0 rfl ?_))
   simp [DF,h1',h2']
 ·have h1':a<b:=by simpa using h1
  (repeat (first|simp only [↓QA,QB,Nat.reduceLT,reduceIte,Nat.reduceEqDiff,Nat.reduceAdd,Nat.reduceLeDiff,Nat.reduceMul,Nat.reduceBEq,fA]|refine rd0 rfl ?_))
  simp [DF,h1']
def DP:List Int→List Int→Int
 |[],[]=>0
 |[],_::_=>-1
 |_::_,[]=>1
 |a::az,b::bs=>if DF a b=0 then DP az bs else DF a b
theorem DS:∀ a b:List Int,decide (0<DP a b)=less b a
 |[],[]=>rfl
 |[],b::bs=>rfl
 |a::az,[]=>rfl
 |a::az,b::bs=>by
  have ih:=DS az bs
  simp only [DP,less,DF]
  by_cases h1:a<b
  ·simp [h1,show ¬b=a by omega];omega
  ·by_cases h2:b<a
   ·simp [h1,h2,show ¬b=a by omega]
   ·have:b=a:=by omega
    subst this
    simp [ih]
theorem N3 (a b:List Int) (ha:a.length<9223372036854775808) (hb:b.length<9223372036854775808):dR T 91 [ints a,ints b] (.int .i64 (DP a b)):=by
 refine bE (af:=a91) rfl (by simp [a91]) dd ?_
 (repeat (first|simp only [↓QA,QB,Nat.reduceLT,reduceIte,Nat.reduceEqDiff,Nat.reduceAdd,Nat.reduceLeDiff,Nat.reduceMul,Nat.reduceBEq,fA,a91]|refine rd0 rfl ?_))
 refine bY (S:=Nat) 0 (fun k=>k≤a.length∧k≤b.length∧DP (a.drop k) (b.drop k)=DP a b) (fun k=>a.length-k) (fun k=>[(0,ints a),(1,ints b),(9,ints a),(10,.int .i64 a.length),(11,.int .i64 k)]) (fun _=>[]) ⟨by simp,by simp,by simp⟩ rfl ?_ fun k hk=>?_
 ·try simp only [aE,QE,Nat.reduceLT,reduceIte,Nat.reduceEqDiff,Nat.reduceAdd,Nat.reduceLeDiff,Nat.reduceMul,Nat.reduceBEq,fA]
  try simp
 ·obtain ⟨hk,hkb,hq⟩:=hk
  (repeat (first|simp only [↓QA,QB,Nat.reduceLT,reduceIte,Nat.reduceEqDiff,Nat.reduceAdd,Nat.reduceLeDiff,Nat.reduceMul,Nat.reduceBEq,fA,aAP]|refine rd0 rfl ?_))
  refine aG (fun h=>?_) fun h=>?_
  ·have hk1:k<a.length:=by simpa using h
   have hw:=bX hk1 ha
   rw [List.drop_eq_getElem_cons hk1] at hq
   (repeat (first|simp only [↓QA,QB,Nat.reduceLT,reduceIte,Nat.reduceEqDiff,Nat.reduceAdd,Nat.reduceLeDiff,Nat.reduceMul,Nat.reduceBEq,fA,hk1]|refine rd0 rfl ?_))
   refine aG (fun h2=>?_) fun h2=>?_
   ·have hk2:k=b.length:=by simp at h2;omega
    have hd:b.drop k=[]:=by rw [hk2,List.drop_length]
    rw [hd] at hq
    simp only [DP] at hq
    (repeat (first|simp only [↓QA,QB,Nat.reduceLT,reduceIte,Nat.reduceEqDiff,Nat.reduceAdd,Nat.reduceLeDiff,Nat.reduceMul,Nat.reduceBEq,fA,hk1,←hq]|refine rd0 rfl ?_))
   ·have hk2:k<b.length:=by simp at h2;omega
    rw [List.drop_eq_getElem_cons hk2] at hq
    simp only [DP] at hq
    (repeat (first|simp only [↓QA,QB,Nat.reduceLT,reduceIte,Nat.reduceEqDiff,Nat.reduceAdd,Nat.reduceLeDiff,Nat.reduceMul,Nat.reduceBEq,fA,hk1,hk2]|refine rd0 rfl ?_))
    ((first|refine aC (UE a[k] b[k]) rfl dd ?_|refine aD (UE a[k] b[k]) rfl dd ?_);(repeat (first|simp only [↓QA,QB,Nat.reduceLT,reduceIte,Nat.reduceEqDiff,Nat.reduceAdd,Nat.reduceLeDiff,Nat.reduceMul,Nat.reduceBEq,fA,hk1,hk2]|refine rd0 rfl ?_)))
    cases h3:(DF a[k] b[k]==0)
    ·have h3':DF a[k] b[k]≠0:=by simpa using h3
     rw [if_neg h3'] at hq
     (repeat (first|simp only [↓QA,QB,Nat.reduceLT,reduceIte,Nat.reduceEqDiff,Nat.reduceAdd,Nat.reduceLeDiff,Nat.reduceMul,Nat.reduceBEq,fA,h3,hk1,hk2,hq]|refine rd0 rfl ?_))
    ·have h3':DF a[k] b[k]=0:=by simpa using h3
     rw [if_pos h3'] at hq
     (repeat (first|simp only [↓QA,QB,Nat.reduceLT,reduceIte,Nat.reduceEqDiff,Nat.reduceAdd,Nat.reduceLeDiff,Nat.reduceMul,Nat.reduceBEq,fA,h3,hk1,hk2]|refine rd0 rfl ?_))
     refine ⟨k+1,⟨by omega,by omega,hq⟩,by omega,?_⟩
     try simp only [aE,QE,Nat.reduceLT,reduceIte,Nat.reduceEqDiff,Nat.reduceAdd,Nat.reduceLeDiff,Nat.reduceMul,Nat.reduceBEq,fA,hw]
  ·have hk1:k=a.length:=by simp at h;omega
   rw [hk1,List.drop_length] at hq
   (repeat (first|simp only [↓QA,QB,Nat.reduceLT,reduceIte,Nat.reduceEqDiff,Nat.reduceAdd,Nat.reduceLeDiff,Nat.reduceMul,Nat.reduceBEq,fA]|refine rd0 rfl ?_))
   refine aG (fun h2=>?_) fun h2=>?_
   ·have hk2:a.length<b.length:=by simpa using h2
    rw [List.drop_eq_getElem_cons hk2] at hq
    (repeat (first|simp only [↓QA,QB,Nat.reduceLT,reduceIte,Nat.reduceEqDiff,Nat.reduceAdd,Nat.reduceLeDiff,Nat.reduceMul,Nat.reduceBEq,fA,←hq,DP]|refine rd0 rfl ?_))
   ·have hk2:a.length=b.length:=by simp at h2;omega
    rw [hk2,List.drop_length] at hq
    (repeat (first|simp only [↓QA,QB,Nat.reduceLT,reduceIte,Nat.reduceEqDiff,Nat.reduceAdd,Nat.reduceLeDiff,Nat.reduceMul,Nat.reduceBEq,fA,←hq,DP]|refine rd0 rfl ?_))
theorem uU (s n:Nat) (hs:s<9223372036854775808) (hn:n≤60):dR T 85 [.int .i64 s,.int .i64 n] (ints (lst n s)):=by
 refine bE (af:=a85) rfl (by simp [a85]) dd ?_
 (repeat (first|simp only [↓QA,QB,Nat.reduceLT,reduceIte,Nat.reduceEqDiff,Nat.reduceAdd,Nat.reduceLeDiff,Nat.reduceMul,Nat.reduceBEq,fA,a85]|refine rd0 rfl ?_))
 obtain ⟨R,hRR⟩:∃ R,lst n s=R:=⟨_,rfl⟩
 have hRR':[]++(aU ((0:Nat):Int) (n-0)).filter (fun i=>decide (s/2^i.toNat%2=1))=R:=hRR
 rw [hRR]
 refine mM 4 1 [] rfl ?_
 refine bY (S:=Nat×List Int×Bool) (0,[],false) (fun x=>x.1≤n∧x.2.1.length≤x.1∧x.2.1++(aU (x.1:Int) (n-x.1)).filter (fun i=>decide (s/2^i.toNat%2=1))=R) (fun x=>n-x.1)
  (fun x=>[(0,.int .i64 s),(4,.lit (x.2.1.map (.int .i64)) false (some 0)),(6,.int .i64 n),(7,.int .i64 x.1)]) (fun x=>[.tok 1 x.2.1.length x.2.2]) ⟨by simp,by simp,hRR'⟩ rfl ?_ fun x hx=>?_
 ·try simp only [aE,QE,Nat.reduceLT,reduceIte,Nat.reduceEqDiff,Nat.reduceAdd,Nat.reduceLeDiff,Nat.reduceMul,Nat.reduceBEq,fA]
  try simp
 ·obtain ⟨k,acc,ex⟩:=x
  obtain ⟨hk,hal,hacc⟩:=hx
  simp only at hk hal hacc
  (repeat (first|simp only [↓QA,QB,Nat.reduceLT,reduceIte,Nat.reduceEqDiff,Nat.reduceAdd,Nat.reduceLeDiff,Nat.reduceMul,Nat.reduceBEq,fA,aCG]|refine rd0 rfl ?_))
  refine aG (fun h=>?_) fun h=>?_
  ·have hk1:k<n:=by simpa using h
   have hw:=bX hk1 (by omega)
   rw [show n-k=(n-(k+1))+1 by omega] at hacc
   simp only [aU,List.filter_cons,Int.toNat_natCast] at hacc
   rw [show ((k:Int)+1)=((k+1:Nat):Int) by omega] at hacc
   have vs:=T6 s k (by omega)
   have va:=LV (s/2^k) (Nat.lt_of_le_of_lt (Nat.div_le_self _ _) hs)
   have hbit:(((s/2^k%2:Nat):Int)==1)=decide (s/2^k%2=1):=by
    generalize s/2^k%2=q
    rw [Bool.eq_iff_iff,beq_iff_eq,decide_eq_true_eq];omega
   (repeat (first|simp only [↓QA,QB,Nat.reduceLT,reduceIte,Nat.reduceEqDiff,Nat.reduceAdd,Nat.reduceLeDiff,Nat.reduceMul,Nat.reduceBEq,fA,vs,va,hbit]|refine rd0 rfl ?_))
   cases hb:decide (s/2^k%2=1)
   ·simp only [hb,Bool.false_eq_true,if_false] at hacc
    (repeat (first|simp only [↓QA,QB,Nat.reduceLT,reduceIte,Nat.reduceEqDiff,Nat.reduceAdd,Nat.reduceLeDiff,Nat.reduceMul,Nat.reduceBEq,fA,hw]|refine rd0 rfl ?_))
    refine ⟨(k+1,acc,ex),⟨by simp only;omega,by simp only;omega,by simpa using hacc⟩,by simp only;omega,?_⟩
    try simp only [aE,QE,Nat.reduceLT,reduceIte,Nat.reduceEqDiff,Nat.reduceAdd,Nat.reduceLeDiff,Nat.reduceMul,Nat.reduceBEq,fA,hw,nR]
    try simp [aL]
   ·simp only [hb,if_true] at hacc
    have hap:=fun (τ:St)=>pX (σ:=.tok 1 acc.length ex::τ) (l:=acc) (a:=(k:Int)) (ex:=ex) (t:=0) (by omega) rfl
    (repeat (first|simp only [↓QA,QB,Nat.reduceLT,reduceIte,Nat.reduceEqDiff,Nat.reduceAdd,Nat.reduceLeDiff,Nat.reduceMul,Nat.reduceBEq,fA,hw,hap]|refine rd0 rfl ?_))
    refine ⟨(k+1,acc++[(k:Int)],true),⟨by simp only;omega,by simp only [List.length_append,List.length_cons,List.length_nil];omega,by
     rw [←hacc];simp⟩,by simp only;omega,?_⟩
    try simp only [aE,QE,Nat.reduceLT,reduceIte,Nat.reduceEqDiff,Nat.reduceAdd,Nat.reduceLeDiff,Nat.reduceMul,Nat.reduceBEq,fA,hw,nR,List.map_append,List.map_cons,List.map_nil]
    try simp [aL]
  ·have hk1:k=n:=by simp at h;omega
   rw [hk1] at hacc
   simp only [Nat.sub_self,aU,List.filter_nil,List.append_nil] at hacc
   (repeat (first|simp only [↓QA,QB,Nat.reduceLT,reduceIte,Nat.reduceEqDiff,Nat.reduceAdd,Nat.reduceLeDiff,Nat.reduceMul,Nat.reduceBEq,fA,hacc,ints]|refine rd0 rfl ?_))
end Go.Am.Room
set_option maxRecDepth 4000
namespace Go.Am.Room
def dK:=And.intro @bH (And.intro @aI (And.intro @aW (And.intro @aT (And.intro @aS (And.intro @aR (And.intro @bF (And.intro @bC (And.intro @bA (And.intro @dH (And.intro @d6 (@Nat.not_lt_zero)))))))))))
theorem S9 (r:Rail) (s:Int):dR T 102 [cF r,.int .i64 s] (.int .i64 (dI r s)):=by
 refine bE (af:=a102) rfl (by simp [a102]) dd ?_
 (repeat (first|simp only [↓QA,QB,Nat.reduceLT,reduceIte,Nat.reduceEqDiff,Nat.reduceAdd,Nat.reduceLeDiff,Nat.reduceMul,Nat.reduceBEq,dK,a102]|refine rd0 rfl ?_))
 cases h1:(s==r.a)
 ·have h1':s≠r.a:=by simpa using h1
  (repeat (first|simp only [↓QA,QB,Nat.reduceLT,reduceIte,Nat.reduceEqDiff,Nat.reduceAdd,Nat.reduceLeDiff,Nat.reduceMul,Nat.reduceBEq,dK,h1]|refine rd0 rfl ?_))
  cases h2:(s==r.b)
  ·have h2':s≠r.b:=by simpa using h2
   (repeat (first|simp only [↓QA,QB,Nat.reduceLT,reduceIte,Nat.reduceEqDiff,Nat.reduceAdd,Nat.reduceLeDiff,Nat.reduceMul,Nat.reduceBEq,dK,h2]|refine rd0 rfl ?_))
   simp [dI,h1',h2']
  ·have h2':s=r.b:=by simpa using h2
   (repeat (first|simp only [↓QA,QB,Nat.reduceLT,reduceIte,Nat.reduceEqDiff,Nat.reduceAdd,Nat.reduceLeDiff,Nat.reduceMul,Nat.reduceBEq,dK,h2]|refine rd0 rfl ?_))
   simp only [dI,if_neg h1',if_pos h2']
 ·have h1':s=r.a:=by simpa using h1
  (repeat (first|simp only [↓QA,QB,Nat.reduceLT,reduceIte,Nat.reduceEqDiff,Nat.reduceAdd,Nat.reduceLeDiff,Nat.reduceMul,Nat.reduceBEq,dK,h1]|refine rd0 rfl ?_))
  simp only [dI,if_pos h1']
structure MetIs (b:Nat) (met:List Int):Prop where
 lt:b<2^6
 bit:∀ i:Nat,i<6→b.testBit i=met.contains (i:Int)
theorem OJ {b:Nat} {met:List Int} (h:MetIs b met) {x:Nat} (hx:x<6):MetIs (b|||2^x) (met++[(x:Int)]):=by
 refine ⟨Nat.or_lt_two_pow h.lt (Nat.pow_lt_pow_right (by omega) hx),fun i hi=>?_⟩
 rw [Nat.testBit_or,h.bit i hi,Nat.testBit_two_pow,Bool.eq_iff_iff]
 simp
 rw [or_congr_right]
 omega
theorem XJ {x:Nat} (hx:x<6):MetIs (2^x) [(x:Int)]:=by
 have:=OJ (b:=0) (met:=[]) ⟨by simp,fun i _=>by simp⟩ hx
 simpa using this
theorem XT {b:Nat} {met:List Int} (h:MetIs b met) {i:Nat} (hi:i<6):(((b/2^i%2:Nat):Int)==0) = !met.contains (i:Int):=by
 have e:(((b/2^i%2:Nat):Int)==0) = !b.testBit i:=by
  rw [xL,GT,Bool.eq_iff_iff]
  simp
 rw [e,h.bit i hi]
theorem YA {v:Net} {r:Rail} (h:RailOk v r) (s:Int):-1≤dI r s∧dI r s<v.stations:=by
 have h1:=h.a
 have h2:=h.b
 unfold dI
 split
 ·omega
 ·split<;>omega
theorem PM {v:Net} {p:List Int} {k:Nat} (hk:k<p.length) (s:Int) (met:List Int):gL v (p.drop k) s met=if s=0∨dI (bS v p[k]) s<0∨met.contains (dI (bS v p[k]) s)=true then none else gL v (p.drop (k+1)) (dI (bS v p[k]) s) (met++[dI (bS v p[k]) s]):=by
 rw [List.drop_eq_getElem_cons hk,gL]
def whB (o:Option Int) (p:List Int):Bool:=match o with|some o=>o==0&&!p.isEmpty|none=>false
def bgB (o:Option Int):Bool:=match o with|some o=>!(o==0)|none=>false
theorem FA (v:Net) (hst:2≤v.stations∧v.stations≤5) (hra:∀ r∈v.rails,RailOk v r) (s:Nat) (hs:s<5) (p:List Int) (hp:∀ r∈p,0≤r∧r<v.rails.length) (hl:p.length<9223372036854775808) :
  dR T 71 [bI v,.int .i64 s,ints p] (.tuple [.bool (jS v s p),.bool (fL v s p)]):=by
 refine bE (af:=a71) rfl (by simp [a71]) dd ?_
 obtain ⟨R,hR⟩:∃ R,gL v p s [(s:Int)]=R:=⟨_,rfl⟩
 have hwb:jS v s p=whB R p:=by rw [←hR];rfl
 have hbb:fL v s p=bgB R:=by rw [←hR];rfl
 rw [hwb,hbb]
 have hsh:=vJ s (by omega)
 (repeat (first|simp only [↓QA,QB,Nat.reduceLT,reduceIte,Nat.reduceEqDiff,Nat.reduceAdd,Nat.reduceLeDiff,Nat.reduceMul,Nat.reduceBEq,dK,a71,hsh]|refine rd0 rfl ?_))
 refine bY (S:=Nat×Nat×Nat×List Int) (0,s,2^s,[(s:Int)]) (fun a=>a.1≤p.length∧a.2.1<5∧MetIs a.2.2.1 a.2.2.2∧gL v (p.drop a.1) (a.2.1:Int) a.2.2.2=R) (fun a=>p.length-a.1)
  (fun a=>[(1,.int .i64 (a.2.1:Nat)),(2,ints p),(3,.ptr 0 0),(8,.int .i64 (a.2.2.1:Nat)),(13,ints p),(14,.int .i64 p.length),(15,.int .i64 a.1)]) (fun a=>[.cells (aB v)]) ⟨Nat.zero_le _,hs,XJ (by omega),by simpa using hR⟩ (by simp [aB,ints]) ?_ fun a ha=>?_
 ·try simp only [aE,QE,Nat.reduceLT,reduceIte,Nat.reduceEqDiff,Nat.reduceAdd,Nat.reduceLeDiff,Nat.reduceMul,Nat.reduceBEq,dK,ints]
  try simp
 ·obtain ⟨k,c,b,met⟩:=a
  obtain ⟨hk,hc,hm,hq⟩:=ha
  simp only at hk hc hm hq
  (repeat (first|simp only [↓QA,QB,Nat.reduceLT,reduceIte,Nat.reduceEqDiff,Nat.reduceAdd,Nat.reduceLeDiff,Nat.reduceMul,Nat.reduceBEq,dK,aAD]|refine rd0 rfl ?_))
  refine aG (fun h=>?_) fun h=>?_
  ·have hk1:k<p.length:=by simpa using h
   have hw:=bX hk1 hl
   rw [PM hk1] at hq
   have hpk:=hp _ (List.getElem_mem hk1)
   obtain ⟨r,hr⟩:∃ r:Nat,p[k]=(r:Int):=⟨p[k].toNat,by omega⟩
   rw [hr] at hpk hq
   have hr1:r<v.rails.length:=by omega
   rw [AP hr1] at hq
   have hro:=hra _ (List.getElem_mem hr1)
   obtain ⟨z,hz⟩:∃ z,v.rails[r]=z:=⟨_,rfl⟩
   rw [hz] at hq hro
   have hov:=S9 z c
   have hoi:=YA hro (c:Int)
   obtain ⟨o,ho⟩:∃ o,dI z (c:Int)=o:=⟨_,rfl⟩
   rw [ho] at hq hov hoi
   have hc0:((c:Int)==0)=decide (c=0):=GT c
   (repeat (first|simp only [↓QA,QB,Nat.reduceLT,reduceIte,Nat.reduceEqDiff,Nat.reduceAdd,Nat.reduceLeDiff,Nat.reduceMul,Nat.reduceBEq,dK,hk1,hr]|refine rd0 rfl ?_))
   cases q1:((c:Int)==0)
   ·have q1':¬(c:Int)=0:=by simpa using q1
    (repeat (first|simp only [↓QA,QB,Nat.reduceLT,reduceIte,Nat.reduceEqDiff,Nat.reduceAdd,Nat.reduceLeDiff,Nat.reduceMul,Nat.reduceBEq,dK,hr1,hz]|refine rd0 rfl ?_))
    ((first|refine aC (hov) rfl dd ?_|refine aD (hov) rfl dd ?_);(repeat (first|simp only [↓QA,QB,Nat.reduceLT,reduceIte,Nat.reduceEqDiff,Nat.reduceAdd,Nat.reduceLeDiff,Nat.reduceMul,Nat.reduceBEq,dK,hr1,hz]|refine rd0 rfl ?_)))
    cases q2:decide ((0:Int)≤o)
    ·have q2':¬0≤o:=by simpa using q2
     rw [if_pos (.inr (.inl (by omega)))] at hq
     (repeat (first|simp only [↓QA,QB,Nat.reduceLT,reduceIte,Nat.reduceEqDiff,Nat.reduceAdd,Nat.reduceLeDiff,Nat.reduceMul,Nat.reduceBEq,dK,q2]|refine rd0 rfl ?_))
     rw [←hq]
     try rfl
    ·have q2':0≤o:=by simpa using q2
     obtain ⟨O,rfl⟩:∃ O:Nat,o=(O:Int):=⟨o.toNat,by omega⟩
     have hO:O<5:=by omega
     have hb:=hm.lt
     have vs:=T6 b O (by omega)
     have va:=LV (b/2^O) (Nat.lt_of_le_of_lt (Nat.div_le_self _ _) (by omega))
     have vb:=XT hm (show O<6 by omega)
     have hsh:=vJ O (by omega)
     have hp2:=k9 (show O≤60 by omega)
     have hor:=aD4 b (2^O) (by omega) (by omega)
     cases q3:met.contains (O:Int)
     ·rw [q3] at vb
      rw [if_neg (by rw [not_or,not_or];exact ⟨q1',by omega,by rw [q3];simp⟩)] at hq
      (repeat (first|simp only [↓QA,QB,Nat.reduceLT,reduceIte,Nat.reduceEqDiff,Nat.reduceAdd,Nat.reduceLeDiff,Nat.reduceMul,Nat.reduceBEq,dK,q2,vs,va,vb,hsh,hor,hw]|refine rd0 rfl ?_))
      refine ⟨(k+1,O,b|||2^O,met++[(O:Int)]),⟨by simp only;omega,hO,OJ hm (by omega),hq⟩,by simp only;omega,?_⟩
      try simp only [aE,QE,Nat.reduceLT,reduceIte,Nat.reduceEqDiff,Nat.reduceAdd,Nat.reduceLeDiff,Nat.reduceMul,Nat.reduceBEq,dK,hw,ints]
      try simp [aL]
     ·rw [q3] at vb
      rw [if_pos (.inr (.inr q3))] at hq
      (repeat (first|simp only [↓QA,QB,Nat.reduceLT,reduceIte,Nat.reduceEqDiff,Nat.reduceAdd,Nat.reduceLeDiff,Nat.reduceMul,Nat.reduceBEq,dK,q2,vs,va,vb]|refine rd0 rfl ?_))
      rw [←hq]
      try rfl
   ·have q1':(c:Int)=0:=by simpa using q1
    rw [if_pos (.inl q1')] at hq
    (repeat (first|simp only [↓QA,QB,Nat.reduceLT,reduceIte,Nat.reduceEqDiff,Nat.reduceAdd,Nat.reduceLeDiff,Nat.reduceMul,Nat.reduceBEq,dK]|refine rd0 rfl ?_))
    rw [←hq]
    try rfl
  ·have hk1:k=p.length:=by
    have:¬k<p.length:=by simpa using h
    omega
   rw [hk1,List.drop_length,gL] at hq
   have hle:decide ((0:Int)<(p.length:Int)) = !p.isEmpty:=by cases p<;>simp
   cases q1:((c:Int)==0)
   ·(repeat (first|simp only [↓QA,QB,Nat.reduceLT,reduceIte,Nat.reduceEqDiff,Nat.reduceAdd,Nat.reduceLeDiff,Nat.reduceMul,Nat.reduceBEq,dK,q1]|refine rd0 rfl ?_))
    rw [←hq]
    simp only [whB,bgB,q1]
    try rfl
   ·(repeat (first|simp only [↓QA,QB,Nat.reduceLT,reduceIte,Nat.reduceEqDiff,Nat.reduceAdd,Nat.reduceLeDiff,Nat.reduceMul,Nat.reduceBEq,dK,q1,hle]|refine rd0 rfl ?_))
    rw [←hq]
    simp only [whB,bgB,q1]
    try rfl
theorem TR (σ:St) (f:AV) (l:List Tram) (p:Tram→Bool) (hl:l.length<9223372036854775808) (hk:u9 σ f) (h:∀ x∈l,kK T f [aZ x] σ (.bool (p x))):kK T (.func 101 [] []) [.lit (l.map aZ) false none,f] σ (.int .i64 (o4 p l 0)):=by
 refine fC (af:=a101) rfl (by simp [a101]) ?_
 have hk0:=hk.nil
 (repeat (first|simp only [↓QA,QB,Nat.reduceLT,reduceIte,Nat.reduceEqDiff,Nat.reduceAdd,Nat.reduceLeDiff,Nat.reduceMul,Nat.reduceBEq,dK,a101]|refine rd0 rfl ?_))
 refine bY (S:=Nat) 0 (fun k=>k≤l.length∧o4 p (l.drop k) k=o4 p l 0) (fun k=>l.length-k) (fun k=>[(0,.lit (l.map aZ) false none),(1,f),(7,.int .i64 l.length),(8,.int .i64 k)]) (fun _=>σ) ⟨Nat.zero_le _,by simp⟩ rfl ?_ fun k hk1=>?_
 ·try simp only [aE,QE,Nat.reduceLT,reduceIte,Nat.reduceEqDiff,Nat.reduceAdd,Nat.reduceLeDiff,Nat.reduceMul,Nat.reduceBEq,dK]
  try simp
 ·obtain ⟨hkl,hi⟩:=hk1
  (repeat (first|simp only [↓QA,QB,Nat.reduceLT,reduceIte,Nat.reduceEqDiff,Nat.reduceAdd,Nat.reduceLeDiff,Nat.reduceMul,Nat.reduceBEq,dK,TD]|refine rd0 rfl ?_))
  refine aG (fun hd=>?_) fun hd=>?_
  ·have hlt:k<l.length:=by simpa using hd
   rw [List.drop_eq_getElem_cons hlt] at hi
   simp only [o4] at hi
   have hw:=bX hlt hl
   (repeat (first|simp only [↓QA,QB,Nat.reduceLT,reduceIte,Nat.reduceEqDiff,Nat.reduceAdd,Nat.reduceLeDiff,Nat.reduceMul,Nat.reduceBEq,dK,hlt]|refine rd0 rfl ?_))
   refine cM (h l[k] (List.getElem_mem hlt)) ?_
   (repeat (first|simp only [↓QA,QB,Nat.reduceLT,reduceIte,Nat.reduceEqDiff,Nat.reduceAdd,Nat.reduceLeDiff,Nat.reduceMul,Nat.reduceBEq,dK]|refine rd0 rfl ?_))
   cases hp:p l[k]
   ·(repeat (first|simp only [↓QA,QB,Nat.reduceLT,reduceIte,Nat.reduceEqDiff,Nat.reduceAdd,Nat.reduceLeDiff,Nat.reduceMul,Nat.reduceBEq,dK,hw]|refine rd0 rfl ?_))
    refine ⟨k+1,⟨by omega,by rw [←hi,hp];rfl⟩,by omega,?_⟩
    try simp only [aE,QE,Nat.reduceLT,reduceIte,Nat.reduceEqDiff,Nat.reduceAdd,Nat.reduceLeDiff,Nat.reduceMul,Nat.reduceBEq,dK,hw,hk0,Nat.le_refl,bC]
   ·(repeat (first|simp only [↓QA,QB,Nat.reduceLT,reduceIte,Nat.reduceEqDiff,Nat.reduceAdd,Nat.reduceLeDiff,Nat.reduceMul,Nat.reduceBEq,dK]|refine rd0 rfl ?_))
    refine fR [] (by first|rfl|simp) ?_
    rw [←hi,hp]
    try simp only [QS,QC,Nat.reduceLT,reduceIte,Nat.reduceEqDiff,Nat.reduceAdd,Nat.reduceLeDiff,Nat.reduceMul,Nat.reduceBEq,dK]
  ·have hlt:k=l.length:=by simp at hd;omega
   (repeat (first|simp only [↓QA,QB,Nat.reduceLT,reduceIte,Nat.reduceEqDiff,Nat.reduceAdd,Nat.reduceLeDiff,Nat.reduceMul,Nat.reduceBEq,dK]|refine rd0 rfl ?_))
   refine fR [] (by first|rfl|simp) ?_
   rw [←hi,hlt,List.drop_length]
   try simp only [QS,QC,Nat.reduceLT,reduceIte,Nat.reduceEqDiff,Nat.reduceAdd,Nat.reduceLeDiff,Nat.reduceMul,Nat.reduceBEq,dK,o4]
theorem J9 (σ:St) (f:AV) (l:List Tram) (p:Tram→Bool) (hl:l.length<9223372036854775808) (hk:u9 σ f) (h:∀ x∈l,kK T f [aZ x] σ (.bool (p x))):kK T (.func 69 [] []) [.lit (l.map aZ) false none,f] σ (.bool (l.any p)):=by
 refine fC (af:=a69) rfl (by simp [a69]) ?_
 (repeat (first|simp only [↓QA,QB,Nat.reduceLT,reduceIte,Nat.reduceEqDiff,Nat.reduceAdd,Nat.reduceLeDiff,Nat.reduceMul,Nat.reduceBEq,dK,a69]|refine rd0 rfl ?_))
 refine cM (TR σ f l p hl hk h) ?_
 (repeat (first|simp only [↓QA,QB,Nat.reduceLT,reduceIte,Nat.reduceEqDiff,Nat.reduceAdd,Nat.reduceLeDiff,Nat.reduceMul,Nat.reduceBEq,dK]|refine rd0 rfl ?_))
 refine fR [] (by first|rfl|simp) ?_
 rw [←yF p l 0]
 try simp only [QS,QC,Nat.reduceLT,reduceIte,Nat.reduceEqDiff,Nat.reduceAdd,Nat.reduceLeDiff,Nat.reduceMul,Nat.reduceBEq,dK]
end Go.Am.Room
set_option maxRecDepth 4000
namespace Go.Am.Room
def aH:=And.intro @bH (And.intro @aI (And.intro @aW (And.intro @aT (And.intro @aS (And.intro @aR (And.intro @bF (And.intro @bC (And.intro @bA (And.intro @dH (And.intro @d6 (@Nat.not_lt_zero)))))))))))
def o9 {α:Type} (of:Nat→α→Int) (l:List α):Int×Int:=match bK of l 0 with|some (i,e)=>(i,e)|none=>(0,0)
theorem G6 (σ:St) (f:AV) (l:List Rail) (of:Nat→Rail→Int) (hl:l.length<9223372036854775808) (hk:u9 σ f)
  (h:∀ i (hi:i<l.length),kK T f [.int .i64 i,cF l[i]] (σ++[.cells (cF l[i]).cells]) (.int .i64 (of i l[i]))):kK T (.func 64 [] []) [.lit (l.map cF) false none,f] σ (vU (o9 of l)):=by
 refine fC (af:=a64) rfl (by simp [a64]) ?_
 have hk0:=hk.nil
 have hk2:∀ τ,cQ (σ++τ) σ.length 20 f=some f:=hk
 (repeat (first|simp only [↓QA,QB,Nat.reduceLT,reduceIte,Nat.reduceEqDiff,Nat.reduceAdd,Nat.reduceLeDiff,Nat.reduceMul,Nat.reduceBEq,aH,a64]|refine rd0 rfl ?_))
 refine bY (S:=Nat) 0 (fun k=>k≤l.length∧bK of (l.drop k) k=bK of l 0) (fun k=>l.length-k) (fun k=>[(1,f),(9,.lit (l.map cF) false none),(10,.int .i64 l.length),(11,.int .i64 k)]) (fun _=>σ) ⟨Nat.zero_le _,by simp⟩ rfl ?_ fun k hk1=>?_
 ·try simp only [aE,QE,Nat.reduceLT,reduceIte,Nat.reduceEqDiff,Nat.reduceAdd,Nat.reduceLeDiff,Nat.reduceMul,Nat.reduceBEq,aH]
  try simp
 ·obtain ⟨hkl,hi⟩:=hk1
  (repeat (first|simp only [↓QA,QB,Nat.reduceLT,reduceIte,Nat.reduceEqDiff,Nat.reduceAdd,Nat.reduceLeDiff,Nat.reduceMul,Nat.reduceBEq,aH,aB1]|refine rd0 rfl ?_))
  refine aG (fun hd=>?_) fun hd=>?_
  ·have hlt:k<l.length:=by simpa using hd
   have hs:=h k hlt
   rw [jL hlt] at hi
   have hw:=bX hlt hl
   try simp only [↓QA,QB,Nat.reduceLT,reduceIte,Nat.reduceEqDiff,Nat.reduceAdd,Nat.reduceLeDiff,Nat.reduceMul,Nat.reduceBEq,aH,hlt] at hs
   (repeat (first|simp only [↓QA,QB,Nat.reduceLT,reduceIte,Nat.reduceEqDiff,Nat.reduceAdd,Nat.reduceLeDiff,Nat.reduceMul,Nat.reduceBEq,aH,hlt]|refine rd0 rfl ?_))
   refine cM hs ?_
   (repeat (first|simp only [↓QA,QB,Nat.reduceLT,reduceIte,Nat.reduceEqDiff,Nat.reduceAdd,Nat.reduceLeDiff,Nat.reduceMul,Nat.reduceBEq,aH]|refine rd0 rfl ?_))
   cases hp:(of k l[k]==0)
   ·have hp':of k l[k]≠0:=by simpa using hp
    rw [if_neg hp'] at hi
    (repeat (first|simp only [↓QA,QB,Nat.reduceLT,reduceIte,Nat.reduceEqDiff,Nat.reduceAdd,Nat.reduceLeDiff,Nat.reduceMul,Nat.reduceBEq,aH,hp]|refine rd0 rfl ?_))
    refine fR _ rfl ?_
    try simp only [QS,QC,Nat.reduceLT,reduceIte,Nat.reduceEqDiff,Nat.reduceAdd,Nat.reduceLeDiff,Nat.reduceMul,Nat.reduceBEq,aH,vU,o9,←hi,reduceCtorEq]
   ·have hp':of k l[k]=0:=by simpa using hp
    rw [if_pos hp'] at hi
    (repeat (first|simp only [↓QA,QB,Nat.reduceLT,reduceIte,Nat.reduceEqDiff,Nat.reduceAdd,Nat.reduceLeDiff,Nat.reduceMul,Nat.reduceBEq,aH,hp,hw]|refine rd0 rfl ?_))
    refine ⟨k+1,⟨by omega,hi⟩,by omega,?_⟩
    try simp only [aE,QE,Nat.reduceLT,reduceIte,Nat.reduceEqDiff,Nat.reduceAdd,Nat.reduceLeDiff,Nat.reduceMul,Nat.reduceBEq,aH,hw,hk0,hk2,Nat.le_refl,bF]
  ·have hlt:k=l.length:=by simp at hd;omega
   rw [kG hlt] at hi
   (repeat (first|simp only [↓QA,QB,Nat.reduceLT,reduceIte,Nat.reduceEqDiff,Nat.reduceAdd,Nat.reduceLeDiff,Nat.reduceMul,Nat.reduceBEq,aH]|refine rd0 rfl ?_))
   refine fR [] (by first|rfl|simp) ?_
   try simp only [QS,QC,Nat.reduceLT,reduceIte,Nat.reduceEqDiff,Nat.reduceAdd,Nat.reduceLeDiff,Nat.reduceMul,Nat.reduceBEq,aH,vU,o9,←hi,reduceCtorEq]
theorem FT (σ:St) (f:AV) (l:List Tram) (of:Nat→Tram→Int) (hl:l.length<9223372036854775808) (hk:u9 σ f)
  (h:∀ i (hi:i<l.length),kK T f [.int .i64 i,aZ l[i]] (σ++[.cells (aZ l[i]).cells]) (.int .i64 (of i l[i]))):kK T (.func 66 [] []) [.lit (l.map aZ) false none,f] σ (vU (o9 of l)):=by
 refine fC (af:=a66) rfl (by simp [a66]) ?_
 have hk0:=hk.nil
 have hk2:∀ τ,cQ (σ++τ) σ.length 20 f=some f:=hk
 (repeat (first|simp only [↓QA,QB,Nat.reduceLT,reduceIte,Nat.reduceEqDiff,Nat.reduceAdd,Nat.reduceLeDiff,Nat.reduceMul,Nat.reduceBEq,aH,a66]|refine rd0 rfl ?_))
 refine bY (S:=Nat) 0 (fun k=>k≤l.length∧bK of (l.drop k) k=bK of l 0) (fun k=>l.length-k) (fun k=>[(1,f),(9,.lit (l.map aZ) false none),(10,.int .i64 l.length),(11,.int .i64 k)]) (fun _=>σ) ⟨Nat.zero_le _,by simp⟩ rfl ?_ fun k hk1=>?_
 ·try simp only [aE,QE,Nat.reduceLT,reduceIte,Nat.reduceEqDiff,Nat.reduceAdd,Nat.reduceLeDiff,Nat.reduceMul,Nat.reduceBEq,aH]
  try simp
 ·obtain ⟨hkl,hi⟩:=hk1
  (repeat (first|simp only [↓QA,QB,Nat.reduceLT,reduceIte,Nat.reduceEqDiff,Nat.reduceAdd,Nat.reduceLeDiff,Nat.reduceMul,Nat.reduceBEq,aH,aAB]|refine rd0 rfl ?_))
  refine aG (fun hd=>?_) fun hd=>?_
  ·have hlt:k<l.length:=by simpa using hd
   have hs:=h k hlt
   rw [jL hlt] at hi
   have hw:=bX hlt hl
   try simp only [↓QA,QB,Nat.reduceLT,reduceIte,Nat.reduceEqDiff,Nat.reduceAdd,Nat.reduceLeDiff,Nat.reduceMul,Nat.reduceBEq,aH,hlt] at hs
   (repeat (first|simp only [↓QA,QB,Nat.reduceLT,reduceIte,Nat.reduceEqDiff,Nat.reduceAdd,Nat.reduceLeDiff,Nat.reduceMul,Nat.reduceBEq,aH,hlt]|refine rd0 rfl ?_))
   refine cM hs ?_
   (repeat (first|simp only [↓QA,QB,Nat.reduceLT,reduceIte,Nat.reduceEqDiff,Nat.reduceAdd,Nat.reduceLeDiff,Nat.reduceMul,Nat.reduceBEq,aH]|refine rd0 rfl ?_))
   cases hp:(of k l[k]==0)
   ·have hp':of k l[k]≠0:=by simpa using hp
    rw [if_neg hp'] at hi
    (repeat (first|simp only [↓QA,QB,Nat.reduceLT,reduceIte,Nat.reduceEqDiff,Nat.reduceAdd,Nat.reduceLeDiff,Nat.reduceMul,Nat.reduceBEq,aH,hp]|refine rd0 rfl ?_))
    refine fR _ rfl ?_
    try simp only [QS,QC,Nat.reduceLT,reduceIte,Nat.reduceEqDiff,Nat.reduceAdd,Nat.reduceLeDiff,Nat.reduceMul,Nat.reduceBEq,aH,vU,o9,←hi,reduceCtorEq]
   ·have hp':of k l[k]=0:=by simpa using hp
    rw [if_pos hp'] at hi
    (repeat (first|simp only [↓QA,QB,Nat.reduceLT,reduceIte,Nat.reduceEqDiff,Nat.reduceAdd,Nat.reduceLeDiff,Nat.reduceMul,Nat.reduceBEq,aH,hp,hw]|refine rd0 rfl ?_))
    refine ⟨k+1,⟨by omega,hi⟩,by omega,?_⟩
    try simp only [aE,QE,Nat.reduceLT,reduceIte,Nat.reduceEqDiff,Nat.reduceAdd,Nat.reduceLeDiff,Nat.reduceMul,Nat.reduceBEq,aH,hw,hk0,hk2,Nat.le_refl,bC]
  ·have hlt:k=l.length:=by simp at hd;omega
   rw [kG hlt] at hi
   (repeat (first|simp only [↓QA,QB,Nat.reduceLT,reduceIte,Nat.reduceEqDiff,Nat.reduceAdd,Nat.reduceLeDiff,Nat.reduceMul,Nat.reduceBEq,aH]|refine rd0 rfl ?_))
   refine fR [] (by first|rfl|simp) ?_
   try simp only [QS,QC,Nat.reduceLT,reduceIte,Nat.reduceEqDiff,Nat.reduceAdd,Nat.reduceLeDiff,Nat.reduceMul,Nat.reduceBEq,aH,vU,o9,←hi,reduceCtorEq]
theorem GY (σ:St) (f:AV) (l:List Seen) (of:Nat→Seen→Int) (hl:l.length<9223372036854775808) (hk:u9 σ f)
  (h:∀ i (hi:i<l.length),kK T f [.int .i64 i,bN l[i]] (σ++[.cells (bN l[i]).cells]) (.int .i64 (of i l[i]))):kK T (.func 72 [] []) [.lit (l.map bN) false none,f] σ (vU (o9 of l)):=by
 refine fC (af:=a72) rfl (by simp [a72]) ?_
 have hk0:=hk.nil
 have hk2:∀ τ,cQ (σ++τ) σ.length 20 f=some f:=hk
 (repeat (first|simp only [↓QA,QB,Nat.reduceLT,reduceIte,Nat.reduceEqDiff,Nat.reduceAdd,Nat.reduceLeDiff,Nat.reduceMul,Nat.reduceBEq,aH,a72]|refine rd0 rfl ?_))
 refine bY (S:=Nat) 0 (fun k=>k≤l.length∧bK of (l.drop k) k=bK of l 0) (fun k=>l.length-k) (fun k=>[(1,f),(9,.lit (l.map bN) false none),(10,.int .i64 l.length),(11,.int .i64 k)]) (fun _=>σ) ⟨Nat.zero_le _,by simp⟩ rfl ?_ fun k hk1=>?_
 ·try simp only [aE,QE,Nat.reduceLT,reduceIte,Nat.reduceEqDiff,Nat.reduceAdd,Nat.reduceLeDiff,Nat.reduceMul,Nat.reduceBEq,aH]
  try simp
 ·obtain ⟨hkl,hi⟩:=hk1
  (repeat (first|simp only [↓QA,QB,Nat.reduceLT,reduceIte,Nat.reduceEqDiff,Nat.reduceAdd,Nat.reduceLeDiff,Nat.reduceMul,Nat.reduceBEq,aH,aAX]|refine rd0 rfl ?_))
  refine aG (fun hd=>?_) fun hd=>?_
  ·have hlt:k<l.length:=by simpa using hd
   have hs:=h k hlt
   rw [jL hlt] at hi
   have hw:=bX hlt hl
   try simp only [↓QA,QB,Nat.reduceLT,reduceIte,Nat.reduceEqDiff,Nat.reduceAdd,Nat.reduceLeDiff,Nat.reduceMul,Nat.reduceBEq,aH,hlt] at hs
   (repeat (first|simp only [↓QA,QB,Nat.reduceLT,reduceIte,Nat.reduceEqDiff,Nat.reduceAdd,Nat.reduceLeDiff,Nat.reduceMul,Nat.reduceBEq,aH,hlt]|refine rd0 rfl ?_))
   refine cM hs ?_
   (repeat (first|simp only [↓QA,QB,Nat.reduceLT,reduceIte,Nat.reduceEqDiff,Nat.reduceAdd,Nat.reduceLeDiff,Nat.reduceMul,Nat.reduceBEq,aH]|refine rd0 rfl ?_))
   cases hp:(of k l[k]==0)
   ·have hp':of k l[k]≠0:=by simpa using hp
    rw [if_neg hp'] at hi
    (repeat (first|simp only [↓QA,QB,Nat.reduceLT,reduceIte,Nat.reduceEqDiff,Nat.reduceAdd,Nat.reduceLeDiff,Nat.reduceMul,Nat.reduceBEq,aH,hp]|refine rd0 rfl ?_))
    refine fR _ rfl ?_
    try simp only [QS,QC,Nat.reduceLT,reduceIte,Nat.reduceEqDiff,Nat.reduceAdd,Nat.reduceLeDiff,Nat.reduceMul,Nat.reduceBEq,aH,vU,o9,←hi,reduceCtorEq]
   ·have hp':of k l[k]=0:=by simpa using hp
    rw [if_pos hp'] at hi
    (repeat (first|simp only [↓QA,QB,Nat.reduceLT,reduceIte,Nat.reduceEqDiff,Nat.reduceAdd,Nat.reduceLeDiff,Nat.reduceMul,Nat.reduceBEq,aH,hp,hw]|refine rd0 rfl ?_))
    refine ⟨k+1,⟨by omega,hi⟩,by omega,?_⟩
    try simp only [aE,QE,Nat.reduceLT,reduceIte,Nat.reduceEqDiff,Nat.reduceAdd,Nat.reduceLeDiff,Nat.reduceMul,Nat.reduceBEq,aH,hw,hk0,hk2,Nat.le_refl,bA]
  ·have hlt:k=l.length:=by simp at hd;omega
   rw [kG hlt] at hi
   (repeat (first|simp only [↓QA,QB,Nat.reduceLT,reduceIte,Nat.reduceEqDiff,Nat.reduceAdd,Nat.reduceLeDiff,Nat.reduceMul,Nat.reduceBEq,aH]|refine rd0 rfl ?_))
   refine fR [] (by first|rfl|simp) ?_
   try simp only [QS,QC,Nat.reduceLT,reduceIte,Nat.reduceEqDiff,Nat.reduceAdd,Nat.reduceLeDiff,Nat.reduceMul,Nat.reduceBEq,aH,vU,o9,←hi,reduceCtorEq]
theorem JG (s:Span):(pK s 1 20=7)↔(!inR s.lo 1 20||!inR s.hi 1 20)=true:=by
 unfold pK
 split
 ·rename_i h;simp [h]
 ·rename_i h
  constructor
  ·intro q;split at q<;>omega
  ·intro q;exact absurd q h
theorem ZJ (v:Net) (W:Int) (hW:∀ s:Int,inR s 0 W=nT v s) (i:Int) (r:Rail) (b:ABlk) (τ:St):kK T (.func 65 [] [.ptr 1 0]) [.int .i64 i,cF r] (b::.cells [.int .i64 W]::τ) (.int .i64 (dA v r)):=by
 refine fC (af:=a65) rfl (by simp [a65]) ?_
 (repeat (first|simp only [↓QA,QB,Nat.reduceLT,reduceIte,Nat.reduceEqDiff,Nat.reduceAdd,Nat.reduceLeDiff,Nat.reduceMul,Nat.reduceBEq,aH,a65]|refine rd0 rfl ?_))
 ((first|refine eO (bZ 0 W [r.a,r.b] (by simp)) (by simp [clr,clrs,ints]) (by simp [okV,okVs]) ?_|refine fT (bZ 0 W [r.a,r.b] (by simp)) (by simp [clr,clrs,ints]) (by simp [okV,okVs]) ?_);(repeat (first|simp only [↓QA,QB,Nat.reduceLT,reduceIte,Nat.reduceEqDiff,Nat.reduceAdd,Nat.reduceLeDiff,Nat.reduceMul,Nat.reduceBEq,aH,NG]|refine rd0 rfl ?_)))
 rw [hW,hW]
 cases h1:(!nT v r.a||!nT v r.b)
 ·have h1':¬(nT v r.a=false∨nT v r.b=false):=by
   rintro (h|h)<;>rw [h] at h1<;>simp at h1
  (repeat (first|simp only [↓QA,QB,Nat.reduceLT,reduceIte,Nat.reduceEqDiff,Nat.reduceAdd,Nat.reduceLeDiff,Nat.reduceMul,Nat.reduceBEq,aH]|refine rd0 rfl ?_))
  cases h2:(r.a==r.b)
  ·have h2':r.a≠r.b:=by simpa using h2
   (repeat (first|simp only [↓QA,QB,Nat.reduceLT,reduceIte,Nat.reduceEqDiff,Nat.reduceAdd,Nat.reduceLeDiff,Nat.reduceMul,Nat.reduceBEq,aH,h2]|refine rd0 rfl ?_))
   ((first|refine eO (bZ 1 20 [r.mins.lo,r.mins.hi] (by simp)) (by simp [clr,clrs,ints]) (by simp [okV,okVs]) ?_|refine fT (bZ 1 20 [r.mins.lo,r.mins.hi] (by simp)) (by simp [clr,clrs,ints]) (by simp [okV,okVs]) ?_);(repeat (first|simp only [↓QA,QB,Nat.reduceLT,reduceIte,Nat.reduceEqDiff,Nat.reduceAdd,Nat.reduceLeDiff,Nat.reduceMul,Nat.reduceBEq,aH,NG]|refine rd0 rfl ?_)))
   cases h3:(!inR r.mins.lo 1 20||!inR r.mins.hi 1 20)
   ·have h3':pK r.mins 1 20≠7:=fun q=>by rw [JG,h3] at q;cases q
    (repeat (first|simp only [↓QA,QB,Nat.reduceLT,reduceIte,Nat.reduceEqDiff,Nat.reduceAdd,Nat.reduceLeDiff,Nat.reduceMul,Nat.reduceBEq,aH]|refine rd0 rfl ?_))
    ((first|refine eO (bZ 0 2 [r.shut] (by simp)) (by simp [clr,clrs,ints]) (by simp [okV,okVs]) ?_|refine fT (bZ 0 2 [r.shut] (by simp)) (by simp [clr,clrs,ints]) (by simp [okV,okVs]) ?_);(repeat (first|simp only [↓QA,QB,Nat.reduceLT,reduceIte,Nat.reduceEqDiff,Nat.reduceAdd,Nat.reduceLeDiff,Nat.reduceMul,Nat.reduceBEq,aH,kZ]|refine rd0 rfl ?_)))
    cases h4:inR r.shut 0 2
    ·(repeat (first|simp only [↓QA,QB,Nat.reduceLT,reduceIte,Nat.reduceEqDiff,Nat.reduceAdd,Nat.reduceLeDiff,Nat.reduceMul,Nat.reduceBEq,aH]|refine rd0 rfl ?_))
     refine fR _ rfl ?_
     have:dA v r=7:=by rw [dA,if_neg h1',if_neg h2',if_pos (.inr h4)]
     rw [this]
     try simp only [QS,QC,Nat.reduceLT,reduceIte,Nat.reduceEqDiff,Nat.reduceAdd,Nat.reduceLeDiff,Nat.reduceMul,Nat.reduceBEq,aH]
    ·have hlo:inR r.mins.lo 1 20=true:=by
      cases q:inR r.mins.lo 1 20
      ·rw [q] at h3;simp at h3
      ·rfl
     have hhi:inR r.mins.hi 1 20=true:=by
      cases q:inR r.mins.hi 1 20
      ·rw [q] at h3;simp at h3
      ·rfl
     rw [d5] at hlo hhi
     have hw:IntKind.i64.wrap (r.mins.hi-r.mins.lo)=r.mins.hi-r.mins.lo:=dU ⟨by omega,by omega⟩
     have hen:pK r.mins 1 20=if r.mins.hi<r.mins.lo then 2 else 0:=by rw [pK,h3];rfl
     simp only [Bool.not_true,rO]
     (repeat (first|simp only [↓QA,QB,Nat.reduceLT,reduceIte,Nat.reduceEqDiff,Nat.reduceAdd,Nat.reduceLeDiff,Nat.reduceMul,Nat.reduceBEq,aH,hw]|refine rd0 rfl ?_))
     ((first|refine eO (bZ 0 1 [r.mins.hi-r.mins.lo] (by simp)) (by simp [clr,clrs,ints]) (by simp [okV,okVs]) ?_|refine fT (bZ 0 1 [r.mins.hi-r.mins.lo] (by simp)) (by simp [clr,clrs,ints]) (by simp [okV,okVs]) ?_);(repeat (first|simp only [↓QA,QB,Nat.reduceLT,reduceIte,Nat.reduceEqDiff,Nat.reduceAdd,Nat.reduceLeDiff,Nat.reduceMul,Nat.reduceBEq,aH,kZ]|refine rd0 rfl ?_)))
     cases h5:inR (r.mins.hi-r.mins.lo) 0 1
     ·have h5':¬(0≤r.mins.hi-r.mins.lo∧r.mins.hi-r.mins.lo≤1):=fun q=>by rw [←d5,h5] at q;cases q
      (repeat (first|simp only [↓QA,QB,Nat.reduceLT,reduceIte,Nat.reduceEqDiff,Nat.reduceAdd,Nat.reduceLeDiff,Nat.reduceMul,Nat.reduceBEq,aH]|refine rd0 rfl ?_))
      refine fR _ rfl ?_
      have:dA v r=2:=by
       rw [dA,if_neg h1',if_neg h2',if_neg (by rw [not_or];exact ⟨h3',by rw [h4];simp⟩),hen]
       split
       ·rw [if_pos (.inl (by omega))]
       ·rw [if_pos (.inr (by omega))]
      rw [this]
      try simp only [QS,QC,Nat.reduceLT,reduceIte,Nat.reduceEqDiff,Nat.reduceAdd,Nat.reduceLeDiff,Nat.reduceMul,Nat.reduceBEq,aH]
     ·rw [d5] at h5
      (repeat (first|simp only [↓QA,QB,Nat.reduceLT,reduceIte,Nat.reduceEqDiff,Nat.reduceAdd,Nat.reduceLeDiff,Nat.reduceMul,Nat.reduceBEq,aH]|refine rd0 rfl ?_))
      refine fR _ rfl ?_
      have:dA v r=0:=by
       rw [dA,if_neg h1',if_neg h2',if_neg (by rw [not_or];exact ⟨h3',by rw [h4];simp⟩),hen,if_neg (by omega)]
       try rfl
      rw [this]
      try simp only [QS,QC,Nat.reduceLT,reduceIte,Nat.reduceEqDiff,Nat.reduceAdd,Nat.reduceLeDiff,Nat.reduceMul,Nat.reduceBEq,aH]
   ·have h3':pK r.mins 1 20=7:=JG _ |>.2 h3
    (repeat (first|simp only [↓QA,QB,Nat.reduceLT,reduceIte,Nat.reduceEqDiff,Nat.reduceAdd,Nat.reduceLeDiff,Nat.reduceMul,Nat.reduceBEq,aH]|refine rd0 rfl ?_))
    refine fR _ rfl ?_
    have:dA v r=7:=by rw [dA,if_neg h1',if_neg h2',if_pos (.inl h3')]
    rw [this]
    try simp only [QS,QC,Nat.reduceLT,reduceIte,Nat.reduceEqDiff,Nat.reduceAdd,Nat.reduceLeDiff,Nat.reduceMul,Nat.reduceBEq,aH]
  ·have h2':r.a=r.b:=by simpa using h2
   (repeat (first|simp only [↓QA,QB,Nat.reduceLT,reduceIte,Nat.reduceEqDiff,Nat.reduceAdd,Nat.reduceLeDiff,Nat.reduceMul,Nat.reduceBEq,aH,h2]|refine rd0 rfl ?_))
   refine fR _ rfl ?_
   have:dA v r=2:=by rw [dA,if_neg h1',if_pos h2']
   rw [this]
   try simp only [QS,QC,Nat.reduceLT,reduceIte,Nat.reduceEqDiff,Nat.reduceAdd,Nat.reduceLeDiff,Nat.reduceMul,Nat.reduceBEq,aH]
 ·have h1':nT v r.a=false∨nT v r.b=false:=by
   cases a:nT v r.a
   ·exact .inl rfl
   ·cases b:nT v r.b
    ·exact .inr rfl
    ·rw [a,b] at h1;simp at h1
  (repeat (first|simp only [↓QA,QB,Nat.reduceLT,reduceIte,Nat.reduceEqDiff,Nat.reduceAdd,Nat.reduceLeDiff,Nat.reduceMul,Nat.reduceBEq,aH]|refine rd0 rfl ?_))
  refine fR _ rfl ?_
  have:dA v r=4:=by rw [dA,if_pos h1']
  rw [this]
  try simp only [QS,QC,Nat.reduceLT,reduceIte,Nat.reduceEqDiff,Nat.reduceAdd,Nat.reduceLeDiff,Nat.reduceMul,Nat.reduceBEq,aH]
theorem VC (s x:Tram) (b0 b1:ABlk) (τ:St):kK T (.func 70 [] [.ptr (τ.length+2) 0]) [aZ x] (b0::b1::(τ++[.cells (aZ s).cells])) (.bool (decide (x.name=s.name))):=by
 refine fC (af:=a70) rfl (by simp [a70]) ?_
 (repeat (first|simp only [↓QA,QB,Nat.reduceLT,reduceIte,Nat.reduceEqDiff,Nat.reduceAdd,Nat.reduceLeDiff,Nat.reduceMul,Nat.reduceBEq,aH,a70,G8,List.length_append]|refine rd0 rfl ?_))
 refine fR [.cells [.str x.name,.int .i64 x.frm,.int .i64 x.leaves,.int .i64 x.due,.lit (x.path.map (.int .i64)) false none]] (by first|rfl|simp) ?_
 try simp only [QS,QC,Nat.reduceLT,reduceIte,Nat.reduceEqDiff,Nat.reduceAdd,Nat.reduceLeDiff,Nat.reduceMul,Nat.reduceBEq,aH]
theorem L8 (lo hi:Int) (l:List Int):qK lo hi l = !l.all (fun r=>inR r lo hi):=by
 rw [qK]
 induction l with
 |nil=>rfl
 |cons x l ih =>
  rw [List.any_cons,List.all_cons,ih,Bool.not_and]
  congr 1
  rw [Bool.eq_iff_iff]
  simp [mZ,inR]
  try omega
theorem ZS (v:Net) (h:Fits v) (hst:2≤v.stations∧v.stations≤5) (hra:∀ r∈v.rails,RailOk v r) (i:Nat) (hi:i<v.trams.length) (τ:St):kK T (.func 67 [] [.ptr 0 0,.ptr 1 0]) [.int .i64 i,aZ v.trams[i]] (.cells (aB v)::.cells [.int .i64 (v.stations-1)]::τ) (.int .i64 (iF v i v.trams[i])):=by
 refine fC (af:=a67) rfl (by simp [a67]) ?_
 have hfr:=h.rails
 have hsz:=h.names _ (List.getElem_mem hi)
 have hpz:=h.paths _ (List.getElem_mem hi)
 have hts:(v.trams.take i).length<9223372036854775808:=by have:=h.trams;simp;omega
 obtain ⟨s,hs⟩:∃ s,v.trams[i]=s:=⟨_,rfl⟩
 have hk:iF v i s=if fresh s.name ((v.trams.take i).map Tram.name)=0 then gO v s else fresh s.name ((v.trams.take i).map Tram.name):=rfl
 rw [hs] at hsz hpz ⊢
 obtain ⟨E,hE⟩:∃ E,iF v i s=E:=⟨_,rfl⟩
 rw [hE] at hk ⊢
 have hwr:IntKind.i64.wrap ((v.rails.length:Int)-1)=(v.rails.length:Int)-1:=dU ⟨by omega,by omega⟩
 have fin:∀ (n:Int) (b:List AV),n=E→BK (some (.int .i64 n)) (.cells (aB v)::.cells [.int .i64 (v.stations-1)]::τ) (.cells (aB v)::.cells [.int .i64 (v.stations-1)]::(τ++[.cells b])) (.int .i64 E):=fun n b hv=>by
  refine fR [.cells b] (by first|rfl|simp) ?_
  rw [hv]
  try simp only [QS,QC,Nat.reduceLT,reduceIte,Nat.reduceEqDiff,Nat.reduceAdd,Nat.reduceLeDiff,Nat.reduceMul,Nat.reduceBEq,aH]
 simp only [aI] at fin
 (repeat (first|simp only [↓QA,QB,Nat.reduceLT,reduceIte,Nat.reduceEqDiff,Nat.reduceAdd,Nat.reduceLeDiff,Nat.reduceMul,Nat.reduceBEq,aH,a67]|refine rd0 rfl ?_))
 ((first|refine aC (zR s.name hsz) rfl dd ?_|refine aD (zR s.name hsz) rfl dd ?_);(repeat (first|simp only [↓QA,QB,Nat.reduceLT,reduceIte,Nat.reduceEqDiff,Nat.reduceAdd,Nat.reduceLeDiff,Nat.reduceMul,Nat.reduceBEq,aH]|refine rd0 rfl ?_)))
 cases h1:qB s.name
 ·(repeat (first|simp only [↓QA,QB,Nat.reduceLT,reduceIte,Nat.reduceEqDiff,Nat.reduceAdd,Nat.reduceLeDiff,Nat.reduceMul,Nat.reduceBEq,aH]|refine rd0 rfl ?_))
  exact fin _ _ (by rw [hk];simp [fresh,h1])
 ·have hc:=J9 (.cells (aB v)::.cells [.int .i64 (v.stations-1)]::(τ++[.cells (aZ s).cells])) (.func 70 [] [.ptr (τ.length+2) 0]) (v.trams.take i) (fun x=>decide (x.name=s.name)) hts (fun υ=>by try simp only [QS,QC,Nat.reduceLT,reduceIte,Nat.reduceEqDiff,Nat.reduceAdd,Nat.reduceLeDiff,Nat.reduceMul,Nat.reduceBEq,aH,List.length_append];simp) fun x _=>VC s x _ _ τ
  try simp only [↓QA,QB,Nat.reduceLT,reduceIte,Nat.reduceEqDiff,Nat.reduceAdd,Nat.reduceLeDiff,Nat.reduceMul,Nat.reduceBEq,aH] at hc
  (repeat (first|simp only [↓QA,QB,Nat.reduceLT,reduceIte,Nat.reduceEqDiff,Nat.reduceAdd,Nat.reduceLeDiff,Nat.reduceMul,Nat.reduceBEq,aH,aC8 (enc:=aZ) (l:=v.trams) (Nat.le_of_lt hi)]|refine rd0 rfl ?_))
  refine cM hc ?_
  rw [AW]
  cases h2:decide (lD s.name ((v.trams.take i).map Tram.name)≠((v.trams.take i).map Tram.name).length)
  ·have h2':lD s.name ((v.trams.take i).map Tram.name)=((v.trams.take i).map Tram.name).length:=by simpa using h2
   have hf:fresh s.name ((v.trams.take i).map Tram.name)=0:=by simp only [fresh,h1,h2'];simp
   rw [hf] at hk
   simp only [if_true] at hk
   (repeat (first|simp only [↓QA,QB,Nat.reduceLT,reduceIte,Nat.reduceEqDiff,Nat.reduceAdd,Nat.reduceLeDiff,Nat.reduceMul,Nat.reduceBEq,aH]|refine rd0 rfl ?_))
   ((first|refine eO (bZ 0 (v.stations-1) [s.frm] (by simp)) (by simp [clr,clrs,ints]) (by simp [okV,okVs]) ?_|refine fT (bZ 0 (v.stations-1) [s.frm] (by simp)) (by simp [clr,clrs,ints]) (by simp [okV,okVs]) ?_);(repeat (first|simp only [↓QA,QB,Nat.reduceLT,reduceIte,Nat.reduceEqDiff,Nat.reduceAdd,Nat.reduceLeDiff,Nat.reduceMul,Nat.reduceBEq,aH,kZ]|refine rd0 rfl ?_)))
   have hsi:inR s.frm 0 (v.stations-1)=nT v s.frm:=rfl
   rw [hsi]
   cases h3:nT v s.frm
   ·(repeat (first|simp only [↓QA,QB,Nat.reduceLT,reduceIte,Nat.reduceEqDiff,Nat.reduceAdd,Nat.reduceLeDiff,Nat.reduceMul,Nat.reduceBEq,aH]|refine rd0 rfl ?_))
    exact fin _ _ (by rw [hk,gO,if_pos h3])
   ·rw [gO,if_neg (by rw [h3];simp)] at hk
    (repeat (first|simp only [↓QA,QB,Nat.reduceLT,reduceIte,Nat.reduceEqDiff,Nat.reduceAdd,Nat.reduceLeDiff,Nat.reduceMul,Nat.reduceBEq,aH]|refine rd0 rfl ?_))
    ((first|refine eO (bZ 0 60 [s.leaves] (by simp)) (by simp [clr,clrs,ints]) (by simp [okV,okVs]) ?_|refine fT (bZ 0 60 [s.leaves] (by simp)) (by simp [clr,clrs,ints]) (by simp [okV,okVs]) ?_);(repeat (first|simp only [↓QA,QB,Nat.reduceLT,reduceIte,Nat.reduceEqDiff,Nat.reduceAdd,Nat.reduceLeDiff,Nat.reduceMul,Nat.reduceBEq,aH,kZ]|refine rd0 rfl ?_)))
    cases h4:inR s.leaves 0 60
    ·(repeat (first|simp only [↓QA,QB,Nat.reduceLT,reduceIte,Nat.reduceEqDiff,Nat.reduceAdd,Nat.reduceLeDiff,Nat.reduceMul,Nat.reduceBEq,aH]|refine rd0 rfl ?_))
     exact fin _ _ (by rw [hk,if_pos (.inl h4)])
    ·(repeat (first|simp only [↓QA,QB,Nat.reduceLT,reduceIte,Nat.reduceEqDiff,Nat.reduceAdd,Nat.reduceLeDiff,Nat.reduceMul,Nat.reduceBEq,aH]|refine rd0 rfl ?_))
     ((first|refine eO (bZ 0 400 [s.due] (by simp)) (by simp [clr,clrs,ints]) (by simp [okV,okVs]) ?_|refine fT (bZ 0 400 [s.due] (by simp)) (by simp [clr,clrs,ints]) (by simp [okV,okVs]) ?_);(repeat (first|simp only [↓QA,QB,Nat.reduceLT,reduceIte,Nat.reduceEqDiff,Nat.reduceAdd,Nat.reduceLeDiff,Nat.reduceMul,Nat.reduceBEq,aH,kZ]|refine rd0 rfl ?_)))
     cases h5:inR s.due 0 400
     ·(repeat (first|simp only [↓QA,QB,Nat.reduceLT,reduceIte,Nat.reduceEqDiff,Nat.reduceAdd,Nat.reduceLeDiff,Nat.reduceMul,Nat.reduceBEq,aH]|refine rd0 rfl ?_))
      exact fin _ _ (by rw [hk,if_pos (.inr h5)])
     ·rw [if_neg (by rw [h4,h5];simp)] at hk
      (repeat (first|simp only [↓QA,QB,Nat.reduceLT,reduceIte,Nat.reduceEqDiff,Nat.reduceAdd,Nat.reduceLeDiff,Nat.reduceMul,Nat.reduceBEq,aH]|refine rd0 rfl ?_))
      ((first|refine eO (bZ 1 4 [(s.path.length:Int)] (by simp)) (by simp [clr,clrs,ints]) (by simp [okV,okVs]) ?_|refine fT (bZ 1 4 [(s.path.length:Int)] (by simp)) (by simp [clr,clrs,ints]) (by simp [okV,okVs]) ?_);(repeat (first|simp only [↓QA,QB,Nat.reduceLT,reduceIte,Nat.reduceEqDiff,Nat.reduceAdd,Nat.reduceLeDiff,Nat.reduceMul,Nat.reduceBEq,aH,kZ]|refine rd0 rfl ?_)))
      cases h6:inR s.path.length 1 4
      ·(repeat (first|simp only [↓QA,QB,Nat.reduceLT,reduceIte,Nat.reduceEqDiff,Nat.reduceAdd,Nat.reduceLeDiff,Nat.reduceMul,Nat.reduceBEq,aH]|refine rd0 rfl ?_))
       exact fin _ _ (by rw [hk,if_pos h6])
      ·rw [if_neg (by rw [h6];simp)] at hk
       (repeat (first|simp only [↓QA,QB,Nat.reduceLT,reduceIte,Nat.reduceEqDiff,Nat.reduceAdd,Nat.reduceLeDiff,Nat.reduceMul,Nat.reduceBEq,aH,hwr]|refine rd0 rfl ?_))
       ((first|refine aC (bZ 0 ((v.rails.length:Int)-1) s.path hpz) rfl dd ?_|refine aD (bZ 0 ((v.rails.length:Int)-1) s.path hpz) rfl dd ?_);(repeat (first|simp only [↓QA,QB,Nat.reduceLT,reduceIte,Nat.reduceEqDiff,Nat.reduceAdd,Nat.reduceLeDiff,Nat.reduceMul,Nat.reduceBEq,aH,L8]|refine rd0 rfl ?_)))
       cases h7:s.path.all (fun r=>inR r 0 ((v.rails.length:Int)-1))
       ·rw [if_pos h7] at hk
        (repeat (first|simp only [↓QA,QB,Nat.reduceLT,reduceIte,Nat.reduceEqDiff,Nat.reduceAdd,Nat.reduceLeDiff,Nat.reduceMul,Nat.reduceBEq,aH]|refine rd0 rfl ?_))
        exact fin _ _ hk.symm
       ·rw [if_neg (by rw [h7];simp)] at hk
        rw [oU] at h3
        obtain ⟨S,hS⟩:∃ S:Nat,s.frm=(S:Int):=⟨s.frm.toNat,by omega⟩
        rw [d5] at h6
        have hld:=FA v hst hra S (by omega) s.path (fun r hr=>by
         have:=d5.1 (List.all_eq_true.1 h7 r hr)
         omega) hpz
        have hlw:gY v s.frm s.path=jS v S s.path:=by rw [hS];exact zG (by omega)
        rw [hlw] at hk
        obtain ⟨B,hB⟩:∃ B,jS v S s.path=B:=⟨_,rfl⟩
        rw [hB] at hk hld
        (repeat (first|simp only [↓QA,QB,Nat.reduceLT,reduceIte,Nat.reduceEqDiff,Nat.reduceAdd,Nat.reduceLeDiff,Nat.reduceMul,Nat.reduceBEq,aH,hS]|refine rd0 rfl ?_))
        ((first|refine aC (hld) rfl dd ?_|refine aD (hld) rfl dd ?_);(repeat (first|simp only [↓QA,QB,Nat.reduceLT,reduceIte,Nat.reduceEqDiff,Nat.reduceAdd,Nat.reduceLeDiff,Nat.reduceMul,Nat.reduceBEq,aH,hS]|refine rd0 rfl ?_)))
        cases B
        ·(repeat (first|simp only [↓QA,QB,Nat.reduceLT,reduceIte,Nat.reduceEqDiff,Nat.reduceAdd,Nat.reduceLeDiff,Nat.reduceMul,Nat.reduceBEq,aH]|refine rd0 rfl ?_))
         exact fin _ _ (by rw [hk];rfl)
        ·(repeat (first|simp only [↓QA,QB,Nat.reduceLT,reduceIte,Nat.reduceEqDiff,Nat.reduceAdd,Nat.reduceLeDiff,Nat.reduceMul,Nat.reduceBEq,aH]|refine rd0 rfl ?_))
         exact fin _ _ (by rw [hk];rfl)
  ·have h2':lD s.name ((v.trams.take i).map Tram.name)≠((v.trams.take i).map Tram.name).length:=by simpa using h2
   have hf:fresh s.name ((v.trams.take i).map Tram.name)=5:=by simp only [fresh,h1,h2',if_false];simp
   rw [hf] at hk
   (repeat (first|simp only [↓QA,QB,Nat.reduceLT,reduceIte,Nat.reduceEqDiff,Nat.reduceAdd,Nat.reduceLeDiff,Nat.reduceMul,Nat.reduceBEq,aH]|refine rd0 rfl ?_))
   exact fin _ _ (by rw [hk];simp)
theorem XY (v:Net) (h:Fits v) (i:Nat) (x:Seen) (b:ABlk):kK T (.func 73 [] [.ptr 0 0]) [.int .i64 i,bN x] [.cells (aB v),b,.cells (bN x).cells] (.int .i64 (jX v i x)):=by
 refine fC (af:=a73) rfl (by simp [a73]) ?_
 have hfp:=h.trams
 have hw:IntKind.i64.wrap ((v.trams.length:Int)-1)=(v.trams.length:Int)-1:=dU ⟨by omega,by omega⟩
 (repeat (first|simp only [↓QA,QB,Nat.reduceLT,reduceIte,Nat.reduceEqDiff,Nat.reduceAdd,Nat.reduceLeDiff,Nat.reduceMul,Nat.reduceBEq,aH,a73,hw]|refine rd0 rfl ?_))
 ((first|refine eO (bZ 0 ((v.trams.length:Int)-1) [x.tram] (by simp)) (by simp [clr,clrs,ints]) (by simp [okV,okVs]) ?_|refine fT (bZ 0 ((v.trams.length:Int)-1) [x.tram] (by simp)) (by simp [clr,clrs,ints]) (by simp [okV,okVs]) ?_);(repeat (first|simp only [↓QA,QB,Nat.reduceLT,reduceIte,Nat.reduceEqDiff,Nat.reduceAdd,Nat.reduceLeDiff,Nat.reduceMul,Nat.reduceBEq,aH,kZ]|refine rd0 rfl ?_)))
 cases h1:inR x.tram 0 ((v.trams.length:Int)-1)
 ·(repeat (first|simp only [↓QA,QB,Nat.reduceLT,reduceIte,Nat.reduceEqDiff,Nat.reduceAdd,Nat.reduceLeDiff,Nat.reduceMul,Nat.reduceBEq,aH]|refine rd0 rfl ?_))
  refine fR _ rfl ?_
  try simp only [QS,QC,Nat.reduceLT,reduceIte,Nat.reduceEqDiff,Nat.reduceAdd,Nat.reduceLeDiff,Nat.reduceMul,Nat.reduceBEq,aH,jX,h1]
 ·(repeat (first|simp only [↓QA,QB,Nat.reduceLT,reduceIte,Nat.reduceEqDiff,Nat.reduceAdd,Nat.reduceLeDiff,Nat.reduceMul,Nat.reduceBEq,aH]|refine rd0 rfl ?_))
  ((first|refine eO (bZ (-1) 400 [x.minute] (by simp)) (by simp [clr,clrs,ints]) (by simp [okV,okVs]) ?_|refine fT (bZ (-1) 400 [x.minute] (by simp)) (by simp [clr,clrs,ints]) (by simp [okV,okVs]) ?_);(repeat (first|simp only [↓QA,QB,Nat.reduceLT,reduceIte,Nat.reduceEqDiff,Nat.reduceAdd,Nat.reduceLeDiff,Nat.reduceMul,Nat.reduceBEq,aH,kZ]|refine rd0 rfl ?_)))
  cases h2:inR x.minute (-1) 400
  all_goals
   (repeat (first|simp only [↓QA,QB,Nat.reduceLT,reduceIte,Nat.reduceEqDiff,Nat.reduceAdd,Nat.reduceLeDiff,Nat.reduceMul,Nat.reduceBEq,aH]|refine rd0 rfl ?_))
   refine fR _ rfl ?_
   try simp only [QS,QC,Nat.reduceLT,reduceIte,Nat.reduceEqDiff,Nat.reduceAdd,Nat.reduceLeDiff,Nat.reduceMul,Nat.reduceBEq,aH,jX,h1,h2,Bool.true_eq_false]
end Go.Am.Room
set_option maxRecDepth 4000
namespace Go.Am.Room
def fM:=And.intro @bH (And.intro @aI (And.intro @aW (And.intro @aT (And.intro @aS (And.intro @aR (And.intro @bF (And.intro @bC (And.intro @bA (And.intro @dH (And.intro @d6 (@Nat.not_lt_zero)))))))))))
theorem nJ (v:Net) (h:Fits v):dR T 17 [bI v] (qN (cA v)):=by
 refine bE (af:=a17) rfl (by simp [a17]) dd ?_
 obtain ⟨W,hW⟩:∃ W,IntKind.i64.wrap (v.stations-1)=W:=⟨_,rfl⟩
 (repeat (first|simp only [↓QA,QB,Nat.reduceLT,reduceIte,Nat.reduceEqDiff,Nat.reduceAdd,Nat.reduceLeDiff,Nat.reduceMul,Nat.reduceBEq,fM,a17,hW]|refine rd0 rfl ?_))
 ((first|refine eO (bZ 2 5 [v.stations] (by simp)) (by simp [clr,clrs,ints]) (by simp [okV,okVs]) ?_|refine fT (bZ 2 5 [v.stations] (by simp)) (by simp [clr,clrs,ints]) (by simp [okV,okVs]) ?_);(repeat (first|simp only [↓QA,QB,Nat.reduceLT,reduceIte,Nat.reduceEqDiff,Nat.reduceAdd,Nat.reduceLeDiff,Nat.reduceMul,Nat.reduceBEq,fM,kZ]|refine rd0 rfl ?_)))
 cases h1:inR v.stations 2 5
 ·(repeat (first|simp only [↓QA,QB,Nat.reduceLT,reduceIte,Nat.reduceEqDiff,Nat.reduceAdd,Nat.reduceLeDiff,Nat.reduceMul,Nat.reduceBEq,fM]|refine rd0 rfl ?_))
  simp [cA,h1,qN]
 ·have hc:cA v=nU v:=by simp only [cA,h1,Bool.true_eq_false,if_false]
  rw [hc]
  have hst:=d5.1 h1
  have hWe:W=v.stations-1:=by rw [←hW];exact dU ⟨by omega,by omega⟩
  subst hWe
  have hWs:∀ s:Int,inR s 0 (v.stations-1)=nT v s:=fun s=>rfl
  (repeat (first|simp only [↓QA,QB,Nat.reduceLT,reduceIte,Nat.reduceEqDiff,Nat.reduceAdd,Nat.reduceLeDiff,Nat.reduceMul,Nat.reduceBEq,fM]|refine rd0 rfl ?_))
  cases h2:decide ((5:Int)<(v.rails.length:Int))
  case' true =>
   have h2':5<v.rails.length:=by first|(have:=of_decide_eq_false h2;omega)|(have:=of_decide_eq_true h2;omega)
   (repeat (first|simp only [↓QA,QB,Nat.reduceLT,reduceIte,Nat.reduceEqDiff,Nat.reduceAdd,Nat.reduceLeDiff,Nat.reduceMul,Nat.reduceBEq,fM,h2]|refine rd0 rfl ?_))
   simp [nU,h2',qN]
  have h2':¬5<v.rails.length:=by first|(have:=of_decide_eq_false h2;omega)|(have:=of_decide_eq_true h2;omega)
  have hc:nU v=match bK (fun _ r=>dA v r) v.rails 0 with|some (i,e)=>(2,(i:Int),e)|none=>nY v:=by simp only [nU,h2',if_false];try rfl
  rw [hc]
  have hf:=G6 [.cells (aB v),.cells [.int .i64 (v.stations-1)]] (.func 65 [] [.ptr 1 0]) v.rails (fun _ r=>dA v r) h.rails (fun τ=>by try simp only [QS,QC,Nat.reduceLT,reduceIte,Nat.reduceEqDiff,Nat.reduceAdd,Nat.reduceLeDiff,Nat.reduceMul,Nat.reduceBEq,fM]) fun i hi=>ZJ v _ hWs i _ _ _
  try simp only [↓QA,QB,Nat.reduceLT,reduceIte,Nat.reduceEqDiff,Nat.reduceAdd,Nat.reduceLeDiff,Nat.reduceMul,Nat.reduceBEq,fM] at hf
  (repeat (first|simp only [↓QA,QB,Nat.reduceLT,reduceIte,Nat.reduceEqDiff,Nat.reduceAdd,Nat.reduceLeDiff,Nat.reduceMul,Nat.reduceBEq,fM,h2]|refine rd0 rfl ?_))
  refine cM hf ?_
  cases hb:bK (fun _ r=>dA v r) v.rails 0 with
  |some p =>
   obtain ⟨i,e⟩:=p
   have he:=j7 hb
   have hg:(e==0)=false:=by simpa using he
   (repeat (first|simp only [↓QA,QB,Nat.reduceLT,reduceIte,Nat.reduceEqDiff,Nat.reduceAdd,Nat.reduceLeDiff,Nat.reduceMul,Nat.reduceBEq,fM,o9,hb,vU,hg,qN]|refine rd0 rfl ?_))
  |none =>
   have hra:∀ r∈v.rails,RailOk v r:=fun x hx=>by
    obtain ⟨k,hk,rfl⟩:=List.getElem_of_mem hx
    exact yS.1 (lN hb k hk)
   (repeat (first|simp only [↓QA,QB,Nat.reduceLT,reduceIte,Nat.reduceEqDiff,Nat.reduceAdd,Nat.reduceLeDiff,Nat.reduceMul,Nat.reduceBEq,fM,o9,hb,vU]|refine rd0 rfl ?_))
   cases h6:decide ((3:Int)<(v.trams.length:Int))
   case' true =>
    have h6':3<v.trams.length:=by first|(have:=of_decide_eq_false h6;omega)|(have:=of_decide_eq_true h6;omega)
    (repeat (first|simp only [↓QA,QB,Nat.reduceLT,reduceIte,Nat.reduceEqDiff,Nat.reduceAdd,Nat.reduceLeDiff,Nat.reduceMul,Nat.reduceBEq,fM,h6]|refine rd0 rfl ?_))
    simp [nY,h6',qN]
   have h6':¬3<v.trams.length:=by first|(have:=of_decide_eq_false h6;omega)|(have:=of_decide_eq_true h6;omega)
   have hc:nY v=match bK (iF v) v.trams 0 with|some (i,e)=>(3,(i:Int),e)|none=>nP v:=by simp only [nY,h6',if_false];try rfl
   rw [hc]
   have hf:=FT [.cells (aB v),.cells [.int .i64 (v.stations-1)]] (.func 67 [] [.ptr 0 0,.ptr 1 0]) v.trams (iF v) h.trams (fun τ=>by try simp only [QS,QC,Nat.reduceLT,reduceIte,Nat.reduceEqDiff,Nat.reduceAdd,Nat.reduceLeDiff,Nat.reduceMul,Nat.reduceBEq,fM]) fun i hi=>ZS v h hst hra i hi _
   try simp only [↓QA,QB,Nat.reduceLT,reduceIte,Nat.reduceEqDiff,Nat.reduceAdd,Nat.reduceLeDiff,Nat.reduceMul,Nat.reduceBEq,fM] at hf
   (repeat (first|simp only [↓QA,QB,Nat.reduceLT,reduceIte,Nat.reduceEqDiff,Nat.reduceAdd,Nat.reduceLeDiff,Nat.reduceMul,Nat.reduceBEq,fM,h6]|refine rd0 rfl ?_))
   refine cM hf ?_
   cases hb:bK (iF v) v.trams 0 with
   |some p =>
    obtain ⟨i,e⟩:=p
    have he:=j7 hb
    have hg:(e==0)=false:=by simpa using he
    (repeat (first|simp only [↓QA,QB,Nat.reduceLT,reduceIte,Nat.reduceEqDiff,Nat.reduceAdd,Nat.reduceLeDiff,Nat.reduceMul,Nat.reduceBEq,fM,o9,hb,vU,hg,qN]|refine rd0 rfl ?_))
   |none =>
    (repeat (first|simp only [↓QA,QB,Nat.reduceLT,reduceIte,Nat.reduceEqDiff,Nat.reduceAdd,Nat.reduceLeDiff,Nat.reduceMul,Nat.reduceBEq,fM,o9,hb,vU]|refine rd0 rfl ?_))
    cases h7:decide ((3:Int)<(v.seen.length:Int))
    case' true =>
     have h7':3<v.seen.length:=by first|(have:=of_decide_eq_false h7;omega)|(have:=of_decide_eq_true h7;omega)
     (repeat (first|simp only [↓QA,QB,Nat.reduceLT,reduceIte,Nat.reduceEqDiff,Nat.reduceAdd,Nat.reduceLeDiff,Nat.reduceMul,Nat.reduceBEq,fM,h7]|refine rd0 rfl ?_))
     simp [nP,h7',qN]
    have h7':¬3<v.seen.length:=by first|(have:=of_decide_eq_false h7;omega)|(have:=of_decide_eq_true h7;omega)
    have hc:nP v=match bK (jX v) v.seen 0 with|some (i,e)=>(4,(i:Int),e)|none=>(0,0,0):=by simp only [nP,h7',if_false];try rfl
    rw [hc]
    have hf:=GY [.cells (aB v),.cells [.int .i64 (v.stations-1)]] (.func 73 [] [.ptr 0 0]) v.seen (jX v) h.seen (fun τ=>by try simp only [QS,QC,Nat.reduceLT,reduceIte,Nat.reduceEqDiff,Nat.reduceAdd,Nat.reduceLeDiff,Nat.reduceMul,Nat.reduceBEq,fM]) fun i hi=>XY v h i _ _
    try simp only [↓QA,QB,Nat.reduceLT,reduceIte,Nat.reduceEqDiff,Nat.reduceAdd,Nat.reduceLeDiff,Nat.reduceMul,Nat.reduceBEq,fM] at hf
    (repeat (first|simp only [↓QA,QB,Nat.reduceLT,reduceIte,Nat.reduceEqDiff,Nat.reduceAdd,Nat.reduceLeDiff,Nat.reduceMul,Nat.reduceBEq,fM,h7]|refine rd0 rfl ?_))
    refine cM hf ?_
    cases hb:bK (jX v) v.seen 0 with
    |some p =>
     obtain ⟨i,e⟩:=p
     have he:=j7 hb
     have hg:(e==0)=false:=by simpa using he
     (repeat (first|simp only [↓QA,QB,Nat.reduceLT,reduceIte,Nat.reduceEqDiff,Nat.reduceAdd,Nat.reduceLeDiff,Nat.reduceMul,Nat.reduceBEq,fM,o9,hb,vU,hg,qN]|refine rd0 rfl ?_))
    |none =>
     (repeat (first|simp only [↓QA,QB,Nat.reduceLT,reduceIte,Nat.reduceEqDiff,Nat.reduceAdd,Nat.reduceLeDiff,Nat.reduceMul,Nat.reduceBEq,fM,o9,hb,vU,qN]|refine rd0 rfl ?_))
end Go.Am.Room
set_option maxRecDepth 4000
namespace Go.Am.Room
def cN:=And.intro @bH (And.intro @aI (And.intro @aW (And.intro @aT (And.intro @aS (And.intro @aR (And.intro @bF (And.intro @bC (And.intro @bA (And.intro @dH (And.intro @d6 (And.intro @Nat.not_lt_zero (And.intro @List.length_append.{0} (And.intro @List.length_replicate.{0} (And.intro @Nat.zero_add (And.intro @Nat.mul_one (@Int.toNat_natCast))))))))))))))))
theorem FP:∀ l:List Int,sV 1 l.length (l.map (AV.int .i64))=l.map (.int .i64)
 |[]=>rfl
 |x::l=>by simp [sV,FP l,AV.cell]
theorem M0 {σ:St} {m id n:Nat} {l:List Int} (hm:¬id<m) (hn:n=l.length) (hl:aK σ id=some (l.map (.int .i64))):cQ σ m 20 (.ref id 0 n 1)=some (.lit (l.map (.int .i64)) false none):=by
 subst hn
 have hv:kO σ (.ref id 0 l.length 1)=some (l.map (.int .i64)):=by simp [kO,hl,FP]
 rw [NA,if_neg hm,hv]
 simp [lP,nR]
theorem SW {σ:St} {id:Nat} {l:List Int} (h:aK σ id=some (List.replicate (l.length+1) (.int .i64 0))):tS 1 σ (.ref id 0 (l.length+1) 1) (.lit (l.map (.int .i64)) false none)=some (.int .i64 l.length,σ.set id (.cells (l.map (.int .i64)++[.int .i64 0]))):=by
 have h1:=lP l
 have h2:(l.map (AV.int .i64)).take (l.length+1)=l.map (.int .i64):=List.take_of_length_le (by simp)
 have h3:Nat.min l.length (l.length+1)=l.length:=Nat.min_eq_left (by omega)
 have h4:(List.replicate (l.length+1) (AV.int .i64 0)).drop l.length=[.int .i64 0]:=by rw [List.drop_replicate];simp [List.replicate]
 simp [tS,kO,wJ,h1,h,iB,h2,KR,h3,h4]
theorem YR (l:List Int) (r:Int):(l.map (AV.int .i64)++[AV.int .i64 0]).take l.length++[AV.int .i64 r]++(l.map (AV.int .i64)++[AV.int .i64 0]).drop (l.length+1)=(l++[r]).map (.int .i64):=by
 simp [List.take_append_of_le_length]
def okR (v:Net) (b:Int) (l:List Int) (r:Int):Bool:=wO v b r&&!(l.length==4)
def gF (v:Net) (b:Int) (l:List Int) (k:Int):List (List Int):=((aU k ((v.rails.length:Int)-k).toNat).filter (okR v b l)).map fun r=>l++[r]
def gW (v:Net) (b:Int) (l:List Int):List (List Int):=gF v b l 0
theorem XS {v:Net} {k:Nat} (h:k<v.rails.length) (b:Int) (l:List Int):gF v b l k=(if okR v b l (k:Int)=true then [l++[(k:Int)]] else [])++gF v b l ((k+1:Nat):Int):=by
 have:=rN (a:=(k:Int)) (below:=v.rails.length) (by omega)
 rw [gF,this,List.filter_cons,show (k:Int)+1=((k+1:Nat):Int) by omega]
 split<;>rfl
theorem aDW (v:Net) (b:Int) (l:List Int):gF v b l (v.rails.length:Int)=[]:=by rw [gF,rM (by omega)];rfl
theorem I9 {v:Net} {b:Int} {l:List Int} (h:l.length≠4):gW v b l=H5 v b l:=by
 have e:∀ r,okR v b l r=wO v b r:=fun r=>by simp [okR,h]
 simp only [gW,gF,H5,Int.sub_zero,Int.toNat_natCast]
 congr 1
 exact List.filter_congr fun r _=>e r
theorem OG {v:Net} {b:Int} {l:List Int} (h:l.length=4):gW v b l=[]:=by
 have e:∀ r,okR v b l r=false:=fun r=>by simp [okR,h]
 simp only [gW,gF,List.map_eq_nil_iff,List.filter_eq_nil_iff]
 intro r _
 rw [e];simp
def mP (v:Net) (s b:Int) (k:Nat):List (List Int):=if k≤4 then vB v s b k else []
def aP (v:Net) (s b:Int) (k:Nat):List (List Int):=GF v s b (min k 4)
theorem tK {v:Net} {s b:Int} (hs:s≠0) {k:Nat}:∀ l∈vB v s b k,l.length=k∧∀ r∈l,0≤r∧r<v.rails.length:=fun l hl=>by
 rw [xC hs] at hl
 have:=(List.mem_filter.1 hl).1
 exact ⟨yD _ _ _ _ this,B7 _ _ _ _ this⟩
theorem RG {v:Net} {s b:Int} (hs:s≠0) (h5:v.rails.length≤5) (k:Nat):(vB v s b k).length≤5^k:=by
 rw [xC hs]
 exact Nat.le_trans (List.length_filter_le _ _) (oP v _ h5 k)
theorem SF {v:Net} {s b:Int} (hs:s≠0) (h5:v.rails.length≤5) {k:Nat} (hk:k≤4):(GF v s b k).length≤1000:=by
 rw [GK hs k hk]
 exact LR h5 _ _ hk
theorem aGC {v:Net} {s b:Int} (hs:s≠0) {k:Nat}:∀ l∈mP v s b k,l.length=k∧l.length≤4∧∀ r∈l,0≤r∧r<v.rails.length:=fun l hl=>by
 unfold mP at hl
 split at hl
 ·have:=tK hs l hl
  exact ⟨this.1,by omega,this.2⟩
 ·cases hl
theorem CU {α β:Type} {f:α→List β}:∀ {l:List α},(∀ x∈l,f x=[])→l.flatMap f=[]
 |[],_=>rfl
 |x::l,h=>by rw [List.flatMap_cons,h x (by simp),CU fun y hy=>h y (by simp [hy])];rfl
theorem NH {v:Net} {s b:Int} (hs:s≠0) (k:Nat):(mP v s b k).flatMap (fun l=>(gW v b l).filter (fL v s))=mP v s b (k+1):=by
 unfold mP
 by_cases h:k≤4
 ·rw [if_pos h]
  by_cases h4:k=4
  ·rw [if_neg (by omega)]
   refine CU fun l hl=>?_
   rw [OG (by rw [(tK hs l hl).1,h4])];rfl
  ·rw [if_pos (by omega),vB]
   refine lQ fun l hl=>?_
   rw [I9 (by rw [(tK hs l hl).1];exact h4)]
 ·rw [if_neg h,if_neg (by omega)];rfl
theorem OF {v:Net} {s b:Int} (hs:s≠0) (k:Nat):aP v s b k++(mP v s b k).flatMap (fun l=>(gW v b l).filter (jS v s))=aP v s b (k+1):=by
 unfold mP aP
 by_cases h:k≤4
 ·rw [if_pos h]
  by_cases h4:k=4
  ·subst h4
   rw [CU fun l hl=>by rw [OG (tK hs l hl).1];rfl]
   simp
  ·rw [show min k 4=k by omega,show min (k+1) 4=k+1 by omega,GF]
   congr 1
   refine lQ fun l hl=>?_
   rw [I9 (by rw [(tK hs l hl).1];exact h4)]
 ·rw [if_neg h,show min k 4=4 by omega,show min (k+1) 4=4 by omega]
  simp
theorem J1 {v:Net} {s b:Int} (hs:s≠0) {k:Nat} (h:mP v s b k=[]):∀ j,mP v s b (k+j)=[]∧aP v s b (k+j)=aP v s b k
 |0=>⟨h,rfl⟩
 |j+1=>by
  obtain ⟨h1,h2⟩:=J1 hs h j
  have m:=NH (v:=v) (s:=s) (b:=b) hs (k+j)
  have a:=OF (v:=v) (s:=s) (b:=b) hs (k+j)
  rw [h1] at m a
  simp only [List.flatMap_nil,List.append_nil] at m a
  rw [show k+(j+1)=k+j+1 by omega]
  exact ⟨m.symm,by rw [←a,h2]⟩
theorem aDS {v:Net} {s b:Int} (hs:s≠0) {k:Nat} (h:mP v s b k=[]):aP v s b k=eJ v s (rB b):=by
 rw [←aF0 v hs]
 by_cases hk:k≤4
 ·have:=(J1 hs h (4-k)).2
  rw [show k+(4-k)=4 by omega] at this
  rw [←this];rfl
 ·rw [aP,show min k 4=4 by omega]
theorem QQ {v:Net} {s:Int} {p:List Int} (h:jS v s p=true):fL v s p=false:=by
 unfold jS at h
 unfold fL
 split at h
 ·rename_i o ho
  simp only [Bool.and_eq_true] at h
  simp [ho,h.1]
 ·cases h
theorem CP (v:Net) (hv:Vd v) (s:Nat) (hs5:s<5) (b:Int):dR T 77 [bI v,.int .i64 s,.int .i64 b] (bU (eJ v s (rB b))):=by
 refine bE (af:=a77) rfl (by simp [a77]) dd ?_
 have hnr:=hv.nra
 (repeat (first|simp only [↓QA,QB,Nat.reduceLT,reduceIte,Nat.reduceEqDiff,Nat.reduceAdd,Nat.reduceLeDiff,Nat.reduceMul,Nat.reduceBEq,cN,a77]|refine rd0 rfl ?_))
 cases h0:((s:Int)==0)
 case' true =>
  have h0':(s:Int)=0:=by simpa using h0
  have hz:=Q3 v (rB b)
  rw [←h0'] at hz
  rw [hz]
  (repeat (first|simp only [↓QA,QB,Nat.reduceLT,reduceIte,Nat.reduceEqDiff,Nat.reduceAdd,Nat.reduceLeDiff,Nat.reduceMul,Nat.reduceBEq,cN,h0,cR,List.map_nil]|refine rd0 rfl ?_))
  try try simp only [QS,QC,Nat.reduceLT,reduceIte,Nat.reduceEqDiff,Nat.reduceAdd,Nat.reduceLeDiff,Nat.reduceMul,Nat.reduceBEq,cN]
 have hs:(s:Int)≠0:=by simpa using h0
 obtain ⟨Z,hZ⟩:∃ Z,eJ v s (rB b)=Z:=⟨_,rfl⟩
 have hall:=fun k=>aDS (v:=v) (s:=s) (b:=b) hs (k:=k)
 simp only [hZ] at hall
 rw [hZ]
 (repeat (first|simp only [↓QA,QB,Nat.reduceLT,reduceIte,Nat.reduceEqDiff,Nat.reduceAdd,Nat.reduceLeDiff,Nat.reduceMul,Nat.reduceBEq,cN,h0]|refine rd0 rfl ?_))
 refine mM 6 1 [] rfl ?_
 refine bY (S:=Nat×Bool) (0,false) (fun a=>a.1≤5) (fun a=>5-a.1)
  (fun a=>[(1,.int .i64 s),(2,.int .i64 b),(3,.ptr 0 0),(6,.lit ((aP v s b a.1).map ints) false (some 1)),(7,bU (mP v s b a.1))])
  (fun a=>[.cells (aB v),.tok 1 (aP v s b a.1).length a.2]) (Nat.zero_le _) (by simp [aB,ints,aP,GF]) ?_ fun a hk=>?_
 ·try simp only [aE,QE,Nat.reduceLT,reduceIte,Nat.reduceEqDiff,Nat.reduceAdd,Nat.reduceLeDiff,Nat.reduceMul,Nat.reduceBEq,cN]
  simp [bU,ints,mP,vB,aP,GF,clr,clrs]
 ·obtain ⟨k,ex⟩:=a
  simp only at hk
  have hin:=aGC (v:=v) (s:=s) (b:=b) hs (k:=k)
  have hmn:=NH (v:=v) (s:=s) (b:=b) hs k
  have han:=OF (v:=v) (s:=s) (b:=b) hs k
  have hac:∀ j,(aP v s b j).length≤1000:=fun j=>SF hs (by omega) (by omega)
  have hmc:∀ j,(mP v s b j).length≤625:=fun j=>by
   unfold mP
   split
   ·exact Nat.le_trans (RG hs (by omega) j) (Nat.le_trans (Nat.pow_le_pow_right (by omega) (by omega):5^j≤5^4) (by decide))
   ·simp
  have c1:=hac k
  have c2:=hac (k+1)
  have c3:=hmc k
  have c4:=hmc (k+1)
  have hfin:=hall k
  have hm5:k=5→mP v s b k=[]:=fun q=>by rw [q];rfl
  obtain ⟨W,hW⟩:∃ W,mP v s b k=W:=⟨_,rfl⟩
  obtain ⟨X,hX⟩:∃ X,mP v s b (k+1)=X:=⟨_,rfl⟩
  obtain ⟨O,hO⟩:∃ O,aP v s b k=O:=⟨_,rfl⟩
  obtain ⟨Y,hY⟩:∃ Y,aP v s b (k+1)=Y:=⟨_,rfl⟩
  rw [hO] at c1 han hfin
  rw [hY] at c2 han
  rw [hX] at c4 hmn
  rw [hW] at c3 hmn han hfin hm5
  simp only [hW] at hin
  rw [hW,hO]
  (repeat (first|simp only [↓QA,QB,Nat.reduceLT,reduceIte,Nat.reduceEqDiff,Nat.reduceAdd,Nat.reduceLeDiff,Nat.reduceMul,Nat.reduceBEq,cN,aAT,bU]|refine rd0 rfl ?_))
  cases hne:decide ((0:Int)<(W.length:Int))
  ·have hw0:W=[]:=by
    have:¬(0:Int)<(W.length:Int):=by simpa using hne
    exact List.length_eq_zero_iff.1 (by omega)
   rw [hfin hw0]
   (repeat (first|simp only [↓QA,QB,Nat.reduceLT,reduceIte,Nat.reduceEqDiff,Nat.reduceAdd,Nat.reduceLeDiff,Nat.reduceMul,Nat.reduceBEq,cN]|refine rd0 rfl ?_))
   try try simp only [QS,QC,Nat.reduceLT,reduceIte,Nat.reduceEqDiff,Nat.reduceAdd,Nat.reduceLeDiff,Nat.reduceMul,Nat.reduceBEq,cN]
  ·have hw0:W≠[]:=by
    have:(0:Int)<(W.length:Int):=by simpa using hne
    rintro rfl
    simp at this
   have hk4:k<5:=by
    by_cases q:k=5
    ·exact absurd (hm5 q) hw0
    ·omega
   (repeat (first|simp only [↓QA,QB,Nat.reduceLT,reduceIte,Nat.reduceEqDiff,Nat.reduceAdd,Nat.reduceLeDiff,Nat.reduceMul,Nat.reduceBEq,cN]|refine rd0 rfl ?_))
   refine mM 8 1 [] rfl ?_
   (repeat (first|simp only [↓QA,QB,Nat.reduceLT,reduceIte,Nat.reduceEqDiff,Nat.reduceAdd,Nat.reduceLeDiff,Nat.reduceMul,Nat.reduceBEq,cN]|refine rd0 rfl ?_))
   refine bY (S:=Nat×List (List Int)×List (List Int)×Bool×Bool) (0,O,[],ex,false) (fun a=>a.1≤W.length∧a.2.2.1++(W.drop a.1).flatMap (fun l=>(gW v b l).filter (fL v s))=X∧a.2.1++(W.drop a.1).flatMap (fun l=>(gW v b l).filter (jS v s))=Y) (fun a=>W.length-a.1)
    (fun a=>[(1,.int .i64 s),(2,.int .i64 b),(3,.ptr 0 0),(6,.lit (a.2.1.map ints) false (some 1)),(8,.lit (a.2.2.1.map ints) false (some 2)),(22,bU W),(23,.int .i64 W.length),(24,.int .i64 a.1)])
    (fun a=>[.cells (aB v),.tok 1 a.2.1.length a.2.2.2.1,.tok 1 a.2.2.1.length a.2.2.2.2]) ⟨Nat.zero_le _,by simpa using hmn,by simpa using han⟩ (by simp [aB,ints]) ?_ fun a ha=>?_
   ·try simp only [aE,QE,Nat.reduceLT,reduceIte,Nat.reduceEqDiff,Nat.reduceAdd,Nat.reduceLeDiff,Nat.reduceMul,Nat.reduceBEq,cN,bU,ints]
    try simp
   ·obtain ⟨i,O,A,ex,ex2⟩:=a
    obtain ⟨hi,hA,hB⟩:=ha
    simp only at hi hA hB
    (repeat (first|simp only [↓QA,QB,Nat.reduceLT,reduceIte,Nat.reduceEqDiff,Nat.reduceAdd,Nat.reduceLeDiff,Nat.reduceMul,Nat.reduceBEq,cN,aA8,bU]|refine rd0 rfl ?_))
    refine aG (fun h2=>?_) fun h2=>?_
    ·have hi1:i<W.length:=by simpa using h2
     have hwi:=bX hi1 (by omega)
     obtain ⟨l,hl⟩:∃ l,W[i]=l:=⟨_,rfl⟩
     obtain ⟨_,hl4,hlr⟩:=hin _ (List.getElem_mem hi1)
     rw [hl] at hl4 hlr
     rw [List.drop_eq_getElem_cons hi1,hl,List.flatMap_cons] at hA hB
     obtain ⟨F,hF⟩:∃ F,(W.drop (i+1)).flatMap (fun l=>(gW v b l).filter (fL v s))=F:=⟨_,rfl⟩
     obtain ⟨G,hG⟩:∃ G,(W.drop (i+1)).flatMap (fun l=>(gW v b l).filter (jS v s))=G:=⟨_,rfl⟩
     rw [hF,gW] at hA
     rw [hG,gW] at hB
     have hwl:=bX (show l.length<5 by omega) (by omega)
     have hmk:qO 8 (.int .i64 ((l.length+1:Nat):Int)) (.int .i64 ((l.length+1:Nat):Int))=some (l.length+1):=by simp [qO,room];omega
     (repeat (first|simp only [↓QA,QB,Nat.reduceLT,reduceIte,Nat.reduceEqDiff,Nat.reduceAdd,Nat.reduceLeDiff,Nat.reduceMul,Nat.reduceBEq,cN,hi1,hl,bU]|refine rd0 rfl ?_))
     refine bY (S:=Nat×List (List Int)×List (List Int)×Bool×Bool) (0,O,A,ex,ex2) (fun a=>a.1≤v.rails.length∧a.2.2.1++((gF v b l a.1).filter (fL v s)++F)=X∧a.2.1++((gF v b l a.1).filter (jS v s)++G)=Y) (fun a=>v.rails.length-a.1)
      (fun a=>[(1,.int .i64 s),(2,.int .i64 b),(3,.ptr 0 0),(6,.lit (a.2.1.map ints) false (some 1)),(8,.lit (a.2.2.1.map ints) false (some 2)),(10,ints l),(22,bU W),(23,.int .i64 W.length),(24,.int .i64 i),(29,.lit (v.rails.map cF) false none),(30,.int .i64 v.rails.length),(31,.int .i64 a.1)])
      (fun a=>[.cells (aB v),.tok 1 a.2.1.length a.2.2.2.1,.tok 1 a.2.2.1.length a.2.2.2.2]) ⟨Nat.zero_le _,hA,hB⟩ (by simp [aB]) ?_ fun a ha=>?_
     ·try simp only [aE,QE,Nat.reduceLT,reduceIte,Nat.reduceEqDiff,Nat.reduceAdd,Nat.reduceLeDiff,Nat.reduceMul,Nat.reduceBEq,cN,bU,ints]
      try simp
     ·obtain ⟨r,O,A,ex,ex2⟩:=a
      obtain ⟨hr,hA,hB⟩:=ha
      simp only at hr hA hB
      (repeat (first|simp only [↓QA,QB,Nat.reduceLT,reduceIte,Nat.reduceEqDiff,Nat.reduceAdd,Nat.reduceLeDiff,Nat.reduceMul,Nat.reduceBEq,cN,aAO,bU]|refine rd0 rfl ?_))
      refine aG (fun h3=>?_) fun h3=>?_
      ·have hr1:r<v.rails.length:=by simpa using h3
       have hwr:=bX hr1 (by omega)
       rw [XS hr1] at hA hB
       have hok:okR v b l (r:Int)=(!((r:Int)==b)&&!(v.rails[r].shut==1)&&!((l.length:Int)==4)):=by
        rw [okR,wO,AP hr1]
        have e1:(v.rails[r].shut==1)=decide (v.rails[r].shut=1):=by rw [Bool.eq_iff_iff];simp
        have e2:((l.length:Int)==4)=(l.length==4):=by rw [Bool.eq_iff_iff];simp;omega
        rw [e1,e2]
       obtain ⟨z,hz⟩:∃ z,v.rails[r]=z:=⟨_,rfl⟩
       rw [hz] at hok
       obtain ⟨E,hE⟩:∃ E,gF v b l ((r+1:Nat):Int)=E:=⟨_,rfl⟩
       rw [hE] at hA hB
       have no:okR v b l (r:Int)=false→A++(E.filter (fL v s)++F)=X∧O++(E.filter (jS v s)++G)=Y:=fun q=>by
        rw [q] at hA hB
        exact ⟨by simpa using hA,by simpa using hB⟩
       (repeat (first|simp only [↓QA,QB,Nat.reduceLT,reduceIte,Nat.reduceEqDiff,Nat.reduceAdd,Nat.reduceLeDiff,Nat.reduceMul,Nat.reduceBEq,cN,hr1,hz]|refine rd0 rfl ?_))
       cases q0:((r:Int)==b)
       ·cases q1:(z.shut==1)
        ·cases q2:((l.length:Int)==4)
         ·rw [q0,q1,q2] at hok
          rw [hok] at hA hB
          simp only [Bool.not_false,Bool.and_self,if_true,List.singleton_append,List.cons_append,List.filter_cons] at hA hB
          have hal:A.length≤625:=by
           have:=congrArg List.length hA
           simp only [List.length_append] at this
           omega
          have hol:O.length≤1000:=by
           have:=congrArg List.length hB
           simp only [List.length_append] at this
           omega
          have hbw:=QQ (v:=v) (s:=s) (p:=l++[(r:Int)])
          have hld:=FA v hv.st hv.ra s hs5 (l++[(r:Int)]) (fun x hx=>by
           rcases List.mem_append.1 hx with hx|hx
           ·exact hlr x hx
           ·simp only [List.mem_singleton] at hx;subst hx;omega) (by simp;omega)
          have hcp:=fun (b0 b1 b2 b3:ABlk)=>SW (σ:=[b0,b1,b2,b3,.cells (List.replicate (l.length+1) (.int .i64 0))]) (id:=4) (l:=l) rfl
          have hos:=YR l r
          have hsr:=fun (b0 b1 b2 b3:ABlk) (m:Nat) (hm:m≤4)=>M0 (σ:=[b0,b1,b2,b3,.cells ((l++[(r:Int)]).map (.int .i64))]) (m:=m) (id:=4) (n:=l.length+1) (l:=l++[(r:Int)]) (by omega) (by simp) rfl
          have i4:(0:Int)≤(l.length:Int)∧(l.length:Int)<((l.length+1:Nat):Int)∧1=1:=⟨by omega,by omega,rfl⟩
          obtain ⟨WB,hWB⟩:∃ WB,jS v s (l++[(r:Int)])=WB:=⟨_,rfl⟩
          obtain ⟨BB,hBB⟩:∃ BB,fL v s (l++[(r:Int)])=BB:=⟨_,rfl⟩
          rw [hWB,hBB] at hld
          rw [hWB] at hB hbw
          rw [hBB] at hA hbw
          have a2:=fun (b0 b1:ABlk) (τ:St)=>lC (σ:=b0::b1::.tok 1 A.length ex2::τ) (t:=2) (ex:=ex2) (sz:=1) (b:=24) (xs:=A.map ints) (ys:=[.ref 4 0 (l.length+1) 1]) (f:=true) (tk:=none) ⟨m7 A,by simp [aM,AV.cells,AV.cell],by simp [room];omega,by simp [room];omega⟩ (by simp) A.length (by simp) rfl
          have a3:=fun (b0:ABlk) (τ:St)=>lC (σ:=b0::.tok 1 O.length ex::τ) (t:=1) (ex:=ex) (sz:=1) (b:=24) (xs:=O.map ints) (ys:=[.ref 4 0 (l.length+1) 1]) (f:=true) (tk:=none) ⟨m7 O,by simp [aM,AV.cells,AV.cell],by simp [room];omega,by simp [room];omega⟩ (by simp) O.length (by simp) rfl
          have hml:(l++[(r:Int)]).map (AV.int .i64)=l.map (.int .i64)++[.int .i64 r]:=by simp
          (repeat (first|simp only [↓QA,QB,Nat.reduceLT,reduceIte,Nat.reduceEqDiff,Nat.reduceAdd,Nat.reduceLeDiff,Nat.reduceMul,Nat.reduceBEq,cN,q0,q1,q2,hwl,hmk,MZ,hcp,i4,hos]|refine rd0 rfl ?_))
          refine xD hld (by try simp only [QS,QC,Nat.reduceLT,reduceIte,Nat.reduceEqDiff,Nat.reduceAdd,Nat.reduceLeDiff,Nat.reduceMul,Nat.reduceBEq,cN,hsr]) (by simp [Scal,Scals]) ?_
          (repeat (first|simp only [↓QA,QB,Nat.reduceLT,reduceIte,Nat.reduceEqDiff,Nat.reduceAdd,Nat.reduceLeDiff,Nat.reduceMul,Nat.reduceBEq,cN]|refine rd0 rfl ?_))
          cases WB
          ·cases BB
           ·(repeat (first|simp only [↓QA,QB,Nat.reduceLT,reduceIte,Nat.reduceEqDiff,Nat.reduceAdd,Nat.reduceLeDiff,Nat.reduceMul,Nat.reduceBEq,cN,hwr]|refine rd0 rfl ?_))
            refine ⟨(r+1,O,A,ex,ex2),⟨by simp only;omega,by rw [hE];simpa using hA,by rw [hE];simpa using hB⟩,by simp only;omega,?_⟩
            try simp only [aE,QE,Nat.reduceLT,reduceIte,Nat.reduceEqDiff,Nat.reduceAdd,Nat.reduceLeDiff,Nat.reduceMul,Nat.reduceBEq,cN,hwr,bU,ints]
            try simp [aL]
           ·(repeat (first|simp only [↓QA,QB,Nat.reduceLT,reduceIte,Nat.reduceEqDiff,Nat.reduceAdd,Nat.reduceLeDiff,Nat.reduceMul,Nat.reduceBEq,cN,hwr,a2]|refine rd0 rfl ?_))
            refine ⟨(r+1,O,A++[l++[(r:Int)]],ex,true),⟨by simp only;omega,by rw [hE,←hA];simp,by rw [hE];simpa using hB⟩,by simp only;omega,?_⟩
            have hs1:=M0 (σ:=[.cells (aB v),.tok 1 O.length ex,.tok 1 (A.length+1) true,.cells (cF z).cells,.cells ((l++[(r:Int)]).map (.int .i64))]) (m:=3) (id:=4) (n:=l.length+1) (l:=l++[(r:Int)]) (by omega) (by simp) rfl
            rw [hml] at hs1
            try simp only [↓QA,QB,Nat.reduceLT,reduceIte,Nat.reduceEqDiff,Nat.reduceAdd,Nat.reduceLeDiff,Nat.reduceMul,Nat.reduceBEq,cN] at hs1
            try simp only [aE,QE,Nat.reduceLT,reduceIte,Nat.reduceEqDiff,Nat.reduceAdd,Nat.reduceLeDiff,Nat.reduceMul,Nat.reduceBEq,cN,hwr,bU,ints,hs1,List.map_append,List.map_cons,List.map_nil]
            try simp [aL]
          ·have:=hbw rfl
           subst this
           (repeat (first|simp only [↓QA,QB,Nat.reduceLT,reduceIte,Nat.reduceEqDiff,Nat.reduceAdd,Nat.reduceLeDiff,Nat.reduceMul,Nat.reduceBEq,cN,hwr,a3]|refine rd0 rfl ?_))
           refine ⟨(r+1,O++[l++[(r:Int)]],A,true,ex2),⟨by simp only;omega,by rw [hE];simpa using hA,by rw [hE,←hB];simp⟩,by simp only;omega,?_⟩
           have hs1:=M0 (σ:=[.cells (aB v),.tok 1 (O.length+1) true,.tok 1 A.length ex2,.cells (cF z).cells,.cells ((l++[(r:Int)]).map (.int .i64))]) (m:=3) (id:=4) (n:=l.length+1) (l:=l++[(r:Int)]) (by omega) (by simp) rfl
           rw [hml] at hs1
           try simp only [↓QA,QB,Nat.reduceLT,reduceIte,Nat.reduceEqDiff,Nat.reduceAdd,Nat.reduceLeDiff,Nat.reduceMul,Nat.reduceBEq,cN] at hs1
           try simp only [aE,QE,Nat.reduceLT,reduceIte,Nat.reduceEqDiff,Nat.reduceAdd,Nat.reduceLeDiff,Nat.reduceMul,Nat.reduceBEq,cN,hwr,bU,ints,hs1,List.map_append,List.map_cons,List.map_nil]
           try simp [aL]
         ·have nn:=no (by rw [hok,q2];simp)
          (repeat (first|simp only [↓QA,QB,Nat.reduceLT,reduceIte,Nat.reduceEqDiff,Nat.reduceAdd,Nat.reduceLeDiff,Nat.reduceMul,Nat.reduceBEq,cN,q0,q1,q2,hwr]|refine rd0 rfl ?_))
          refine ⟨(r+1,O,A,ex,ex2),⟨by simp only;omega,by rw [hE];exact nn.1,by rw [hE];exact nn.2⟩,by simp only;omega,?_⟩
          try simp only [aE,QE,Nat.reduceLT,reduceIte,Nat.reduceEqDiff,Nat.reduceAdd,Nat.reduceLeDiff,Nat.reduceMul,Nat.reduceBEq,cN,hwr,bU,ints]
          try simp [aL]
        ·have nn:=no (by rw [hok,q1];simp)
         (repeat (first|simp only [↓QA,QB,Nat.reduceLT,reduceIte,Nat.reduceEqDiff,Nat.reduceAdd,Nat.reduceLeDiff,Nat.reduceMul,Nat.reduceBEq,cN,q0,q1,hwr]|refine rd0 rfl ?_))
         refine ⟨(r+1,O,A,ex,ex2),⟨by simp only;omega,by rw [hE];exact nn.1,by rw [hE];exact nn.2⟩,by simp only;omega,?_⟩
         try simp only [aE,QE,Nat.reduceLT,reduceIte,Nat.reduceEqDiff,Nat.reduceAdd,Nat.reduceLeDiff,Nat.reduceMul,Nat.reduceBEq,cN,hwr,bU,ints]
         try simp [aL]
       ·have nn:=no (by rw [hok,q0];simp)
        (repeat (first|simp only [↓QA,QB,Nat.reduceLT,reduceIte,Nat.reduceEqDiff,Nat.reduceAdd,Nat.reduceLeDiff,Nat.reduceMul,Nat.reduceBEq,cN,q0,hwr]|refine rd0 rfl ?_))
        refine ⟨(r+1,O,A,ex,ex2),⟨by simp only;omega,by rw [hE];exact nn.1,by rw [hE];exact nn.2⟩,by simp only;omega,?_⟩
        try simp only [aE,QE,Nat.reduceLT,reduceIte,Nat.reduceEqDiff,Nat.reduceAdd,Nat.reduceLeDiff,Nat.reduceMul,Nat.reduceBEq,cN,hwr,bU,ints]
        try simp [aL]
      ·have hr1:r=v.rails.length:=by simp at h3;omega
       rw [hr1,aDW] at hA hB
       simp only [List.nil_append,List.filter_nil] at hA hB
       (repeat (first|simp only [↓QA,QB,Nat.reduceLT,reduceIte,Nat.reduceEqDiff,Nat.reduceAdd,Nat.reduceLeDiff,Nat.reduceMul,Nat.reduceBEq,cN,hwi]|refine rd0 rfl ?_))
       refine ⟨(i+1,O,A,ex,ex2),⟨by simp only;omega,by rw [hF];exact hA,by rw [hG];exact hB⟩,by simp only;omega,?_⟩
       try simp only [aE,QE,Nat.reduceLT,reduceIte,Nat.reduceEqDiff,Nat.reduceAdd,Nat.reduceLeDiff,Nat.reduceMul,Nat.reduceBEq,cN,hwi,bU,ints]
       try simp [aL]
    ·have hi1:i=W.length:=by simp at h2;omega
     rw [hi1,List.drop_length] at hA hB
     simp only [List.flatMap_nil,List.append_nil] at hA hB
     subst hA hB
     (repeat (first|simp only [↓QA,QB,Nat.reduceLT,reduceIte,Nat.reduceEqDiff,Nat.reduceAdd,Nat.reduceLeDiff,Nat.reduceMul,Nat.reduceBEq,cN]|refine rd0 rfl ?_))
     refine ⟨(k+1,ex),by simp only;omega,by simp only;omega,?_⟩
     try simp only [aE,QE,Nat.reduceLT,reduceIte,Nat.reduceEqDiff,Nat.reduceAdd,Nat.reduceLeDiff,Nat.reduceMul,Nat.reduceBEq,cN,hX,hY,bU,ints]
     try simp [aL]
end Go.Am.Room
set_option maxRecDepth 4000
namespace Go.Am.Room
def dV:=And.intro @bH (And.intro @aI (And.intro @aW (And.intro @aT (And.intro @aS (And.intro @aR (And.intro @bF (And.intro @bC (And.intro @bA (And.intro @dH (And.intro @d6 (And.intro @Nat.not_lt_zero (And.intro @List.length_append.{0} (And.intro @Nat.zero_add (And.intro @Nat.mul_one (And.intro @Int.toNat_natCast (And.intro @eU (And.intro @gD (And.intro @gJ (And.intro @lS (@gI))))))))))))))))))))
def lO (x:Stay):AV:=.agg [.int .i64 x.rail,.int .i64 x.frm,.int .i64 x.til]
theorem cL (x:Stay):lO x = .agg [.int .i64 x.rail,.int .i64 x.frm,.int .i64 x.til]:=by simp only [lO]
theorem GM (x:Stay):mD (lO x):=j5 (bJ (dC _ _) (bJ (dC _ _) (bJ (dC _ _) bP)))
instance (x:Stay):Dat (lO x):=⟨GM x⟩
instance (l:List Stay):Dats (l.map lO):=⟨bL GM l⟩
theorem dQ (σ:St) (m d:Nat) (l:List Stay):dN σ m d (l.map lO)=some (l.map lO):=mH (bL GM l) σ m d
theorem JH (l:List Stay):aM 3 (l.map lO)=true:=rR 3 lO l fun x=>by simp [cO,lO,AV.cells,AV.cell]
def db (v:Net) (b m:Nat):List AV:=aB v++[.int .i64 b,.map m]
theorem jA (v:Net) (b m:Nat):(db v b m)[0]? = some (.int .i64 v.stations):=by simp [db,aB]
theorem iZ (v:Net) (b m:Nat):(db v b m)[1]? = some (.lit (v.rails.map cF) false none):=by simp [db,aB]
theorem i7 (v:Net) (b m:Nat):(db v b m)[2]? = some (.lit (v.trams.map aZ) false none):=by simp [db,aB]
theorem i6 (v:Net) (b m:Nat):(db v b m)[3]? = some (.lit (v.seen.map bN) false none):=by simp [db,aB]
theorem i9 (v:Net) (b m:Nat):(db v b m)[4]? = some (.int .i64 b):=by simp [db,aB]
theorem iY (v:Net) (b m:Nat):(db v b m)[5]? = some (.map m):=by simp [db,aB]
theorem WH (ss:List Stay) (rail ready m B:Int) (hl:ss.length<9223372036854775808) (hB:∀ x∈ss,x.til≤B) (h0:0≤ready) (hr:ready≤B) (hB2:B≤1000) (hm:0≤m∧m≤20) :
  dR T 120 [.lit (ss.map lO) false none,.agg [.int .i64 rail,.int .i64 ready,.int .i64 (ready+m)]] (.int .i64 (g7 ss rail ready m)):=by
 refine bE (af:=a120) rfl (by simp [a120]) dd ?_
 have hfi:=yY (rail:=rail) (m:=m) hB (show B≤ready+1000 by omega)
 obtain ⟨Z,hZ⟩:∃ Z,g7 ss rail ready m=Z:=⟨_,rfl⟩
 rw [hZ] at hfi ⊢
 (repeat (first|simp only [↓QA,QB,Nat.reduceLT,reduceIte,Nat.reduceEqDiff,Nat.reduceAdd,Nat.reduceLeDiff,Nat.reduceMul,Nat.reduceBEq,dV,cL,dQ,jA,iZ,i7,i6,i9,iY,a120]|refine rd0 rfl ?_))
 refine bY (S:=Int) ready (fun r=>sH ss rail m ready r) (fun r=>(B-r).toNat)
  (fun r=>[(0,.lit (ss.map lO) false none),(3,.ptr 0 0)]) (fun r=>[.cells [.int .i64 rail,.int .i64 r,.int .i64 (r+m)]]) (DZ _ _ _ _) rfl ?_ fun r hb=>?_
 ·try simp only [aE,QE,Nat.reduceLT,reduceIte,Nat.reduceEqDiff,Nat.reduceAdd,Nat.reduceLeDiff,Nat.reduceMul,Nat.reduceBEq,dV,cL,dQ,jA,iZ,i7,i6,i9,iY]
  try simp
 ·have hrB:=AA hB hb hr
  have hr0:=hb.1
  (repeat (first|simp only [↓QA,QB,Nat.reduceLT,reduceIte,Nat.reduceEqDiff,Nat.reduceAdd,Nat.reduceLeDiff,Nat.reduceMul,Nat.reduceBEq,dV,cL,dQ,jA,iZ,i7,i6,i9,iY,T7]|refine rd0 rfl ?_))
  refine bY (S:=Nat×Int) (0,r) (fun a=>a.1≤ss.length∧Q2 ss rail m ready r a.1 a.2) (fun a=>ss.length-a.1)
   (fun a=>[(0,.lit (ss.map lO) false none),(3,.ptr 0 0),(5,.ptr 1 0),(10,.lit (ss.map lO) false none),(11,.int .i64 ss.length),(12,.int .i64 a.1)]) (fun a=>[.cells [.int .i64 rail,.int .i64 a.2,.int .i64 (a.2+m)],.cells [.int .i64 rail,.int .i64 r,.int .i64 (r+m)]]) ⟨by simp,.inl ⟨rfl,by simp⟩⟩ rfl ?_ fun a ha=>?_
  ·try simp only [aE,QE,Nat.reduceLT,reduceIte,Nat.reduceEqDiff,Nat.reduceAdd,Nat.reduceLeDiff,Nat.reduceMul,Nat.reduceBEq,dV,cL,dQ,jA,iZ,i7,i6,i9,iY]
   try simp
  ·obtain ⟨k,n⟩:=a
   obtain ⟨hk,hlk⟩:=ha
   simp only at hk hlk
   have hbn:sH ss rail m ready n:=by
    rcases hlk with ⟨e,_⟩|⟨_,e⟩
    ·rw [e];exact hb
    ·exact e
   have hnB:=AA hB hbn hr
   have hn0:=hbn.1
   (repeat (first|simp only [↓QA,QB,Nat.reduceLT,reduceIte,Nat.reduceEqDiff,Nat.reduceAdd,Nat.reduceLeDiff,Nat.reduceMul,Nat.reduceBEq,dV,cL,dQ,jA,iZ,i7,i6,i9,iY,SX]|refine rd0 rfl ?_))
   refine aG (fun h=>?_) fun h=>?_
   ·have hk1:k<ss.length:=by simpa using h
    have hw:=bX hk1 hl
    obtain ⟨x,hx⟩:∃ x,ss[k]=x:=⟨_,rfl⟩
    have hxm:x∈ss:=by rw [←hx];exact List.getElem_mem hk1
    have hat:=C3 (p:=iN rail r m) hk1
    rw [hx] at hat
    have no:iN rail n m x=false→Q2 ss rail m ready r (k+1) n:=fun q=>by
     rcases hlk with ⟨e,a⟩|e
     ·subst e
      exact .inl ⟨rfl,by rw [hat,a,q];rfl⟩
     ·exact .inr e
    have yes:iN rail n m x=true→Q2 ss rail m ready r (k+1) x.til:=fun q=>by
     have q1:=wF q
     have hrn:r≤n:=by rcases hlk with ⟨e,_⟩|⟨e,_⟩<;>omega
     exact .inr ⟨by omega,EZ hbn hxm (Int.le_refl n) q (fun y h1 h2=>by omega)⟩
    have hcl:iN rail n m x=((x.rail==rail)&&decide (x.frm<n+m)&&decide (n<x.til)):=by
     have:decide (x.rail=rail)=(x.rail==rail):=by rw [Bool.eq_iff_iff];simp
     rw [iN,this]
    have hxB:=hB x hxm
    (repeat (first|simp only [↓QA,QB,Nat.reduceLT,reduceIte,Nat.reduceEqDiff,Nat.reduceAdd,Nat.reduceLeDiff,Nat.reduceMul,Nat.reduceBEq,dV,cL,dQ,jA,iZ,i7,i6,i9,iY,hk1,hx]|refine rd0 rfl ?_))
    cases q1:(x.rail==rail)
    ·have nn:=no (by rw [hcl,q1];simp)
     (repeat (first|simp only [↓QA,QB,Nat.reduceLT,reduceIte,Nat.reduceEqDiff,Nat.reduceAdd,Nat.reduceLeDiff,Nat.reduceMul,Nat.reduceBEq,dV,cL,dQ,jA,iZ,i7,i6,i9,iY,q1,hw]|refine rd0 rfl ?_))
     refine ⟨(k+1,n),⟨by simp only;omega,nn⟩,by simp only;omega,?_⟩
     try simp only [aE,QE,Nat.reduceLT,reduceIte,Nat.reduceEqDiff,Nat.reduceAdd,Nat.reduceLeDiff,Nat.reduceMul,Nat.reduceBEq,dV,cL,dQ,jA,iZ,i7,i6,i9,iY,hw]
     try simp [aL]
    ·cases q2:decide (x.frm<n+m)
     ·have nn:=no (by rw [hcl,q1,q2];simp)
      (repeat (first|simp only [↓QA,QB,Nat.reduceLT,reduceIte,Nat.reduceEqDiff,Nat.reduceAdd,Nat.reduceLeDiff,Nat.reduceMul,Nat.reduceBEq,dV,cL,dQ,jA,iZ,i7,i6,i9,iY,q1,hw,q2]|refine rd0 rfl ?_))
      refine ⟨(k+1,n),⟨by simp only;omega,nn⟩,by simp only;omega,?_⟩
      try simp only [aE,QE,Nat.reduceLT,reduceIte,Nat.reduceEqDiff,Nat.reduceAdd,Nat.reduceLeDiff,Nat.reduceMul,Nat.reduceBEq,dV,cL,dQ,jA,iZ,i7,i6,i9,iY,hw]
      try simp [aL]
     ·cases q3:decide (n<x.til)
      ·have nn:=no (by rw [hcl,q1,q2,q3];simp)
       (repeat (first|simp only [↓QA,QB,Nat.reduceLT,reduceIte,Nat.reduceEqDiff,Nat.reduceAdd,Nat.reduceLeDiff,Nat.reduceMul,Nat.reduceBEq,dV,cL,dQ,jA,iZ,i7,i6,i9,iY,q1,hw,q2,q3]|refine rd0 rfl ?_))
       refine ⟨(k+1,n),⟨by simp only;omega,nn⟩,by simp only;omega,?_⟩
       try simp only [aE,QE,Nat.reduceLT,reduceIte,Nat.reduceEqDiff,Nat.reduceAdd,Nat.reduceLeDiff,Nat.reduceMul,Nat.reduceBEq,dV,cL,dQ,jA,iZ,i7,i6,i9,iY,hw]
       try simp [aL]
      ·have hc:iN rail n m x=true:=by rw [hcl,q1,q2,q3];rfl
       have nn:=yes hc
       have hlt:=wF hc
       have w1:IntKind.i64.wrap (n+m-n)=m:=by rw [show n+m-n=m by omega];exact dU ⟨by omega,by omega⟩
       have w2:IntKind.i64.wrap (x.til+m)=x.til+m:=dU ⟨by omega,by omega⟩
       (repeat (first|simp only [↓QA,QB,Nat.reduceLT,reduceIte,Nat.reduceEqDiff,Nat.reduceAdd,Nat.reduceLeDiff,Nat.reduceMul,Nat.reduceBEq,dV,cL,dQ,jA,iZ,i7,i6,i9,iY,q1,hw,q2,q3,w1,w2]|refine rd0 rfl ?_))
       refine ⟨(k+1,x.til),⟨by simp only;omega,nn⟩,by simp only;omega,?_⟩
       try simp only [aE,QE,Nat.reduceLT,reduceIte,Nat.reduceEqDiff,Nat.reduceAdd,Nat.reduceLeDiff,Nat.reduceMul,Nat.reduceBEq,dV,cL,dQ,jA,iZ,i7,i6,i9,iY,hw]
       try simp [aL,okVs,okV]
   ·have hk1:k=ss.length:=by simp at h;omega
    rw [hk1] at hlk
    have hrr:(rail==rail)=true:=by simp
    rcases hlk with ⟨e,a⟩|⟨e1,e2⟩
    ·rw [List.take_length] at a
     have hz:=E3 hfi (DR hb a)
     subst e
     have g:(n==n)=true:=by simp
     have g2:(n+m==n+m)=true:=by simp
     (repeat (first|simp only [↓QA,QB,Nat.reduceLT,reduceIte,Nat.reduceEqDiff,Nat.reduceAdd,Nat.reduceLeDiff,Nat.reduceMul,Nat.reduceBEq,dV,cL,dQ,jA,iZ,i7,i6,i9,iY,g,g2,hrr,hz]|refine rd0 rfl ?_))
    ·have g:(n==r)=false:=by simp;omega
     (repeat (first|simp only [↓QA,QB,Nat.reduceLT,reduceIte,Nat.reduceEqDiff,Nat.reduceAdd,Nat.reduceLeDiff,Nat.reduceMul,Nat.reduceBEq,dV,cL,dQ,jA,iZ,i7,i6,i9,iY,g,hrr,Bool.false_and]|refine rd0 rfl ?_))
     refine ⟨n,e2,by omega,?_⟩
     try simp only [aE,QE,Nat.reduceLT,reduceIte,Nat.reduceEqDiff,Nat.reduceAdd,Nat.reduceLeDiff,Nat.reduceMul,Nat.reduceBEq,dV,cL,dQ,jA,iZ,i7,i6,i9,iY]
     try simp [aL,okVs,okV]
theorem RS (v:Net) (b m p:Nat) (σ:St) (hσ:aK σ p=some (db v b m)) (i:Nat) (hi:i<v.trams.length):kK T (.func 110 [.ptr p 0] []) [.int .i64 i] σ (ints (eI (fY v) i)):=by
 refine fC (af:=a110) rfl (by simp [a110]) ?_
 rw [GW hi]
 obtain ⟨z,hz⟩:∃ z,v.trams[i]=z:=⟨_,rfl⟩
 rw [hz]
 (repeat (first|simp only [↓QA,QB,Nat.reduceLT,reduceIte,Nat.reduceEqDiff,Nat.reduceAdd,Nat.reduceLeDiff,Nat.reduceMul,Nat.reduceBEq,dV,cL,dQ,jA,iZ,i7,i6,i9,iY,a110,hσ,hi,hz]|refine rd0 rfl ?_))
 refine fR [] (by first|rfl|simp) ?_
 try simp only [QS,QC,Nat.reduceLT,reduceIte,Nat.reduceEqDiff,Nat.reduceAdd,Nat.reduceLeDiff,Nat.reduceMul,Nat.reduceBEq,dV,cL,dQ,jA,iZ,i7,i6,i9,iY]
def cW (cs:List Int) (j:Nat):Int:=cT cs (j:Int)
theorem K6 (cs:List Int) (x:Int) {k:Nat} (hk:cs.length=k):cW (cs++[x])=n4 (cW cs) k x:=by
 funext j
 simp only [cW,cT,Int.toNat_natCast,n4]
 by_cases e:j=k
 ·subst e;simp [←hk]
 ·rw [if_neg e]
  by_cases h:j<cs.length
  ·rw [List.getElem?_append_left h]
  ·rw [List.getElem?_eq_none (by simp;omega),List.getElem?_eq_none (by omega)]
theorem wY (f:Nat→Int) (i:Nat) (a b:Int):n4 (n4 f i a) i b=n4 f i b:=by
 funext j;simp only [n4];split<;>rfl
theorem UI (f:Nat→Int) (i:Nat) (a:Int):n4 f i a i=a:=by simp [n4]
theorem aEU (v:Net) (m:Int→Int) (ps:List (List Int)):bV 3 (cW (dB v m ps 0).2)=[.int .i64 0,.int .i64 0,.int .i64 0]:=by
 simp [bV,cW,cT,dB,List.range_succ]
theorem OX (M:Nat→Int) (k:Nat) (σ:St) (hσ:aK σ k=some (bV 5 M)) (r:Nat) (hr:r<5):kK T (.func 119 [] [.ptr k 0]) [.int .i64 r] σ (.bool (M r==0)):=by
 refine fC (af:=a119) rfl (by simp [a119]) ?_
 have i5:(0:Int)≤(r:Int)∧(r:Int)<((5:Nat):Int):=⟨by omega,by omega⟩
 have hg:=kR 5 M hr
 (repeat (first|simp only [↓QA,QB,Nat.reduceLT,reduceIte,Nat.reduceEqDiff,Nat.reduceAdd,Nat.reduceLeDiff,Nat.reduceMul,Nat.reduceBEq,dV,cL,dQ,jA,iZ,i7,i6,i9,iY,a119,i5,hσ,hg]|refine rd0 rfl ?_))
 refine fR [] (by first|rfl|simp) ?_
 try simp only [QS,QC,Nat.reduceLT,reduceIte,Nat.reduceEqDiff,Nat.reduceAdd,Nat.reduceLeDiff,Nat.reduceMul,Nat.reduceBEq,dV,cL,dQ,jA,iZ,i7,i6,i9,iY]
theorem EN (v:Net) (h:Fits v) (s:Int):dR T 19 [bI v,.int .i64 s] (BN (pR v s)):=by
 refine bE (af:=a19) rfl (by simp [a19]) dd ?_
 obtain ⟨W,hW⟩:∃ W,IntKind.i64.wrap (v.stations-1)=W:=⟨_,rfl⟩
 (repeat (first|simp only [↓QA,QB,Nat.reduceLT,reduceIte,Nat.reduceEqDiff,Nat.reduceAdd,Nat.reduceLeDiff,Nat.reduceMul,Nat.reduceBEq,dV,cL,dQ,jA,iZ,i7,i6,i9,iY,a19]|refine rd0 rfl ?_))
 ((first|refine aC (nJ v h) rfl dd ?_|refine aD (nJ v h) rfl dd ?_);(repeat (first|simp only [↓QA,QB,Nat.reduceLT,reduceIte,Nat.reduceEqDiff,Nat.reduceAdd,Nat.reduceLeDiff,Nat.reduceMul,Nat.reduceBEq,dV,cL,dQ,jA,iZ,i7,i6,i9,iY,qN]|refine rd0 rfl ?_)))
 cases h0:((cA v).2.2==0)
 ·have h0':(cA v).2.2≠0:=by simpa using h0
  have hp:pR v s=([],(cA v).2.2):=by simp [pR,h0']
  rw [hp]
  (repeat (first|simp only [↓QA,QB,Nat.reduceLT,reduceIte,Nat.reduceEqDiff,Nat.reduceAdd,Nat.reduceLeDiff,Nat.reduceMul,Nat.reduceBEq,dV,cL,dQ,jA,iZ,i7,i6,i9,iY,h0,BN,cR,List.map_nil]|refine rd0 rfl ?_))
  try rfl
 ·have h0':(cA v).2.2=0:=by simpa using h0
  have hv:=eB h0'
  have hst:=hv.st
  have hWe:IntKind.i64.wrap (v.stations-1)=v.stations-1:=dU ⟨by omega,by omega⟩
  (repeat (first|simp only [↓QA,QB,Nat.reduceLT,reduceIte,Nat.reduceEqDiff,Nat.reduceAdd,Nat.reduceLeDiff,Nat.reduceMul,Nat.reduceBEq,dV,cL,dQ,jA,iZ,i7,i6,i9,iY,h0,hWe]|refine rd0 rfl ?_))
  ((first|refine eO (bZ 0 (v.stations-1) [s] (by simp)) (by simp [clr,clrs,ints]) (by simp [okV,okVs]) ?_|refine fT (bZ 0 (v.stations-1) [s] (by simp)) (by simp [clr,clrs,ints]) (by simp [okV,okVs]) ?_);(repeat (first|simp only [↓QA,QB,Nat.reduceLT,reduceIte,Nat.reduceEqDiff,Nat.reduceAdd,Nat.reduceLeDiff,Nat.reduceMul,Nat.reduceBEq,dV,cL,dQ,jA,iZ,i7,i6,i9,iY,kZ]|refine rd0 rfl ?_)))
  rw [show inR s 0 (v.stations-1)=nT v s from rfl]
  cases h1:nT v s
  ·have hp:pR v s=([],4):=by simp [pR,h0',h1]
   rw [hp]
   (repeat (first|simp only [↓QA,QB,Nat.reduceLT,reduceIte,Nat.reduceEqDiff,Nat.reduceAdd,Nat.reduceLeDiff,Nat.reduceMul,Nat.reduceBEq,dV,cL,dQ,jA,iZ,i7,i6,i9,iY,h0,BN,cR,List.map_nil]|refine rd0 rfl ?_))
   try rfl
  ·have hp:pR v s=(eJ v s [],0):=by simp [pR,h0',h1]
   rw [hp]
   rw [oU] at h1
   obtain ⟨S,rfl⟩:∃ S:Nat,s=(S:Int):=⟨s.toNat,by omega⟩
   have hw:=CP v hv S (by omega) (-1)
   have hb:rB (-1)=[]:=rfl
   rw [hb] at hw
   (repeat (first|simp only [↓QA,QB,Nat.reduceLT,reduceIte,Nat.reduceEqDiff,Nat.reduceAdd,Nat.reduceLeDiff,Nat.reduceMul,Nat.reduceBEq,dV,cL,dQ,jA,iZ,i7,i6,i9,iY,h0]|refine rd0 rfl ?_))
   ((first|refine aC (hw) rfl dd ?_|refine aD (hw) rfl dd ?_);(repeat (first|simp only [↓QA,QB,Nat.reduceLT,reduceIte,Nat.reduceEqDiff,Nat.reduceAdd,Nat.reduceLeDiff,Nat.reduceMul,Nat.reduceBEq,dV,cL,dQ,jA,iZ,i7,i6,i9,iY,BN,cR]|refine rd0 rfl ?_)))
   try try simp only [QS,QC,Nat.reduceLT,reduceIte,Nat.reduceEqDiff,Nat.reduceAdd,Nat.reduceLeDiff,Nat.reduceMul,Nat.reduceBEq,dV,cL,dQ,jA,iZ,i7,i6,i9,iY]
end Go.Am.Room
set_option maxRecDepth 8000
namespace Go.Am.Room
def fF:=And.intro @bH (And.intro @aI (And.intro @aW (And.intro @aT (And.intro @aS (And.intro @aR (And.intro @bF (And.intro @bC (And.intro @bA (And.intro @dH (And.intro @d6 (And.intro @Nat.not_lt_zero (And.intro @List.length_append.{0} (And.intro @Nat.zero_add (And.intro @Nat.mul_one (And.intro @Int.toNat_natCast (And.intro @cL (And.intro @dQ (And.intro @eU (And.intro @gD (And.intro @gJ (And.intro @lS (And.intro @gI (And.intro @jA (And.intro @iZ (And.intro @i7 (And.intro @i6 (And.intro @i9 (And.intro @iY (And.intro @Nat.add_lt_add_iff_left (@Nat.lt_add_right_iff_pos))))))))))))))))))))))))))))))
theorem J2 (v:Net) (hv:Vd v) (b m0 p:Nat) (σ:St) (hσ:aK σ p=some (db v b m0)) (hp:p<σ.length) (f:AV) (hk3:∀ τ n,σ.length≤n→cQ (σ++τ) n 20 f=some f) (ps:List (List Int)) (hps:RunOk v ps) (hf:∀ i,i<v.trams.length→∀ τ,kK T f [.int .i64 i] (σ++τ) (ints (eI ps i))) (M:Nat→Int) (m:Int→Int) (hM:∀ i:Nat,m (i:Int)=M i) (hm:vQ v m) :
  kK T (.func 109 [] []) [.ptr p 0,.agg (bV 5 M),f] σ (.agg (bV 3 (cW (iO v ps m)))):=by
 refine fC (af:=a109) rfl (by simp [a109]) ?_
 have hnt:=hv.ntr
 have hnr:=hv.nra
 have hk:u9 σ f:=fun τ=>hk3 τ _ (Nat.le_refl _)
 have hk0:=hk.nil
 have hk2:∀ τ n,cQ (σ++τ) (σ.length+n) 20 f=some f:=fun τ n=>hk3 τ _ (by omega)
 have hk4:∀ τ,cQ (σ++τ) σ.length 20 f=some f:=hk
 have hσ2:=fun τ=>lG hσ τ
 have hbd:=F7 hv hm hps
 have hz:=aEU v m ps
 (repeat (first|simp only [↓QA,QB,Nat.reduceLT,reduceIte,Nat.reduceEqDiff,Nat.reduceAdd,Nat.reduceLeDiff,Nat.reduceMul,Nat.reduceBEq,fF,a109,hσ2,←hz]|refine rd0 rfl ?_))
 refine mM 7 3 [] rfl ?_
 refine bY (S:=Nat×Bool) (0,false) (fun a=>a.1≤v.trams.length) (fun a=>v.trams.length-a.1)
  (fun a=>[(2,f),(4,.ptr σ.length 0),(6,.ptr (σ.length+1) 0),(7,.lit ((dB v m ps a.1).1.map lO) false (some (σ.length+2))),(18,.lit (v.trams.map aZ) false none),(19,.int .i64 v.trams.length),(20,.int .i64 a.1)])
  (fun a=>σ++[.cells (bV 5 M),.cells (bV 3 (cW (dB v m ps a.1).2)),.tok 3 (dB v m ps a.1).1.length a.2]) (Nat.zero_le _) (by simp [dB]) ?_ fun a ha=>?_
 ·try simp only [aE,QE,Nat.reduceLT,reduceIte,Nat.reduceEqDiff,Nat.reduceAdd,Nat.reduceLeDiff,Nat.reduceMul,Nat.reduceBEq,fF,hk2,hk4]
  try simp [dB]
 ·obtain ⟨i,ex⟩:=a
  simp only at ha
  (repeat (first|simp only [↓QA,QB,Nat.reduceLT,reduceIte,Nat.reduceEqDiff,Nat.reduceAdd,Nat.reduceLeDiff,Nat.reduceMul,Nat.reduceBEq,fF,WE]|refine rd0 rfl ?_))
  refine aG (fun h=>?_) fun h=>?_
  ·have hi1:i<v.trams.length:=by simpa using h
   have hwi:=bX hi1 (by omega)
   obtain ⟨b1,b2⟩:=hbd i (by omega)
   have hlc:=mA v m ps i
   have hsu:=JQ v m ps i
   have hto:=pU hv hi1
   have hpm:=A9 hps hi1
   have hp4:=hps.few _ hpm
   have hpr:=hps.rails _ hpm
   have hfp:=fun τ=>hf i hi1 τ
   rw [uJ hi1] at hsu
   obtain ⟨t,ht⟩:∃ t,v.trams[i]=t:=⟨_,rfl⟩
   obtain ⟨p,hpp⟩:∃ p,eI ps i=p:=⟨_,rfl⟩
   rw [ht] at hto hsu
   rw [hpp] at hp4 hpr hsu
   simp only [hpp] at hfp
   have hlv:=hto.leaves
   obtain ⟨L,hL⟩:∃ L,t.leaves=L:=⟨_,rfl⟩
   rw [hL] at hlv hsu
   obtain ⟨SS,hSS⟩:∃ SS,(dB v m ps i).1=SS:=⟨_,rfl⟩
   obtain ⟨OO,hOO⟩:∃ OO,(dB v m ps i).2=OO:=⟨_,rfl⟩
   rw [hSS] at b1 hsu
   rw [hOO] at b2 hlc hsu
   have hgo:j3 m i L p SS=if p.any (fun r=>m r==0)=true then (SS,-1) else kM m i p L SS:=rfl
   rw [hSS,hOO]
   obtain ⟨R,hR⟩:∃ R,j3 m i L p SS=R:=⟨_,rfl⟩
   rw [hR] at hsu hgo
   have hsu1:(dB v m ps (i+1)).1=R.1:=by rw [hsu]
   have hsu2:cW (dB v m ps (i+1)).2=n4 (cW OO) i R.2:=by rw [hsu];exact K6 OO R.2 hlc
   have i3:(0:Int)≤(i:Int)∧(i:Int)<((3:Nat):Int):=⟨by omega,by omega⟩
   have c3:i+1≤3:=by omega
   have hset:=fun (g:Nat→Int) x=>tW 3 g x (i:=i) (by omega)
   have hget:=fun (g:Nat→Int)=>kR 3 g (i:=i) (by omega)
   have hct:=fun (C:ABlk) (τ:St)=>sD (σ++(.cells (bV 5 M)::C::τ)) (.func 119 [] [.ptr σ.length 0]) p (fun r=>m r==0) (by omega) (fun υ=>by try simp only [QS,QC,Nat.reduceLT,reduceIte,Nat.reduceEqDiff,Nat.reduceAdd,Nat.reduceLeDiff,Nat.reduceMul,Nat.reduceBEq,fF,List.length_append];simp) (fun x hx=>by
    have hxr:=hpr x hx
    obtain ⟨r,rfl⟩:∃ r:Nat,x=(r:Int):=⟨x.toNat,by omega⟩
    rw [hM]
    exact OX M σ.length _ (by rw [kF];rfl) r (by omega))
   (repeat (first|simp only [↓QA,QB,Nat.reduceLT,reduceIte,Nat.reduceEqDiff,Nat.reduceAdd,Nat.reduceLeDiff,Nat.reduceMul,Nat.reduceBEq,fF,hi1,ht,hL,i3,c3,hset]|refine rd0 rfl ?_))
   refine cM (hfp _) ?_
   (repeat (first|simp only [↓QA,QB,Nat.reduceLT,reduceIte,Nat.reduceEqDiff,Nat.reduceAdd,Nat.reduceLeDiff,Nat.reduceMul,Nat.reduceBEq,fF]|refine rd0 rfl ?_))
   refine cM (hct _ _) ?_
   have hwt:∀ (TB:ABlk) (K:KJ) (e:Env),Env.get e 2=f→Env.get e 4 = .ptr σ.length 0→Env.get e 6 = .ptr (σ.length+1) 0→Env.get e 7 = .lit (SS.map lO) false (some (σ.length+2))→Env.get e 8 = .int .i64 i→Env.get e 18 = .lit (v.trams.map aZ) false none→Env.get e 19 = .int .i64 v.trams.length→Env.get e 20 = .int .i64 i→Env.get e 37=ints p→Env.get e 38 = .int .i64 p.length→Env.get e 39 = .int .i64 0 →
     p.any (fun r=>m r==0)=false→kM m i p L SS=R →
     (∀ e' ex',Env.get e' 2=f→Env.get e' 4 = .ptr σ.length 0→Env.get e' 6 = .ptr (σ.length+1) 0→Env.get e' 7 = .lit (R.1.map lO) false (some (σ.length+2))→Env.get e' 18 = .lit (v.trams.map aZ) false none→Env.get e' 19 = .int .i64 v.trams.length→Env.get e' 20 = .int .i64 i →
      K (some (.exit 2)) e' (σ++[.cells (bV 5 M),.cells (bV 3 (n4 (cW OO) i R.2)),.tok 3 R.1.length ex',TB])) →
     rK (K:=⟨K⟩) T (.loop MH) e (σ++[.cells (bV 5 M),.cells (bV 3 (n4 (cW OO) i L)),.tok 3 SS.length ex,TB]):=by
    intro TB K e q2 q4 q6 q7 q8 q18 q19 q20 q37 q38 q39 hc hgo hK
    refine bY (S:=Nat×Int×List Stay×Bool) (0,L,SS,ex) (fun a=>a.1≤p.length∧0≤a.2.1∧a.2.1≤60+20*(4*i+a.1:Nat)∧StaysOk a.2.2.1 (4*i+a.1)∧kM m i (p.drop a.1) a.2.1 a.2.2.1=R) (fun a=>p.length-a.1)
     (fun a=>[(2,f),(4,.ptr σ.length 0),(6,.ptr (σ.length+1) 0),(7,.lit (a.2.2.1.map lO) false (some (σ.length+2))),(8,.int .i64 i),(18,.lit (v.trams.map aZ) false none),(19,.int .i64 v.trams.length),(20,.int .i64 i),(37,ints p),(38,.int .i64 p.length),(39,.int .i64 a.1)])
     (fun a=>σ++[.cells (bV 5 M),.cells (bV 3 (n4 (cW OO) i a.2.1)),.tok 3 a.2.2.1.length a.2.2.2,TB]) ⟨by simp,by simp only;omega,by simp only;omega,b1,hgo⟩ rfl ?_ fun a ha=>?_
    ·try simp only [aE,QE,Nat.reduceLT,reduceIte,Nat.reduceEqDiff,Nat.reduceAdd,Nat.reduceLeDiff,Nat.reduceMul,Nat.reduceBEq,fF,ints,hk2,hk4,q2,q4,q6,q7,q8,q18,q19,q20,q37,q38,q39]
     try simp [aL]
    ·obtain ⟨j,at_,SS,ex⟩:=a
     obtain ⟨hj,ha0,ha1,hso,hgo⟩:=ha
     simp only at hj ha0 ha1 hso hgo
     (repeat (first|simp only [↓QA,QB,Nat.reduceLT,reduceIte,Nat.reduceEqDiff,Nat.reduceAdd,Nat.reduceLeDiff,Nat.reduceMul,Nat.reduceBEq,fF,MH]|refine rd0 rfl ?_))
     refine aG (fun h2=>?_) fun h2=>?_
     ·have hj1:j<p.length:=by simpa using h2
      have hwj:=bX hj1 (by omega)
      have hpk:=hpr _ (List.getElem_mem hj1)
      rw [List.drop_eq_getElem_cons hj1] at hgo
      obtain ⟨r,hr⟩:∃ r:Nat,p[j]=(r:Int):=⟨p[j].toNat,by omega⟩
      rw [hr] at hpk hgo
      have hmr:=hm r hpk.1 hpk.2
      have hMr:=hM r
      obtain ⟨Q,hQ⟩:∃ Q,M r=Q:=⟨_,rfl⟩
      rw [hQ] at hMr
      rw [hMr] at hmr
      simp only [kM,hMr] at hgo
      obtain ⟨f1,f2,f3⟩:=GL (rail:=(r:Int)) (m:=Q) hso (by omega) ha0 ha1
      have hsl:=hso.len
      have hfr:=WH SS r at_ Q (60+20*((4*i+j:Nat):Int)) (by omega) hso.til ha0 ha1 (by omega) (by omega)
      obtain ⟨F,hF⟩:∃ F,g7 SS r at_ Q=F:=⟨_,rfl⟩
      rw [hF] at hgo f2 f3 hfr
      have hwF:IntKind.i64.wrap (F+Q)=F+Q:=dU ⟨by omega,by omega⟩
      have hwA:IntKind.i64.wrap (at_+Q)=at_+Q:=dU ⟨by omega,by omega⟩
      have i5:(0:Int)≤(r:Int)∧(r:Int)<((5:Nat):Int):=⟨by omega,by omega⟩
      have hg5:=kR 5 M (show r<5 by omega)
      rw [hQ] at hg5
      have a7:=fun (b0 b1:ABlk) (τ:St)=>lC (σ:=σ++(b0::b1::.tok 3 SS.length ex::τ)) (t:=σ.length+2) (ex:=ex) (sz:=3) (b:=24) (xs:=SS.map lO) (ys:=[.agg [.int .i64 r,.int .i64 F,.int .i64 (F+Q)]]) (f:=true) (tk:=none) ⟨JH SS,by simp [aM,cO,AV.cells,AV.cell],by simp [room];omega,by simp [room];omega⟩ (by simp) SS.length (by simp) (by rw [sX];rfl)
      (repeat (first|simp only [↓QA,QB,Nat.reduceLT,reduceIte,Nat.reduceEqDiff,Nat.reduceAdd,Nat.reduceLeDiff,Nat.reduceMul,Nat.reduceBEq,fF,hj1,hr,i3,i5,hget,hg5,UI,hwA]|refine rd0 rfl ?_))
      ((first|refine xD (hfr) (by try simp only [QS,QC,Nat.reduceLT,reduceIte,Nat.reduceEqDiff,Nat.reduceAdd,Nat.reduceLeDiff,Nat.reduceMul,Nat.reduceBEq,fF]) trivial ?_|refine AF (hfr) (by try simp only [QS,QC,Nat.reduceLT,reduceIte,Nat.reduceEqDiff,Nat.reduceAdd,Nat.reduceLeDiff,Nat.reduceMul,Nat.reduceBEq,fF]) trivial ?_);(repeat (first|simp only [↓QA,QB,Nat.reduceLT,reduceIte,Nat.reduceEqDiff,Nat.reduceAdd,Nat.reduceLeDiff,Nat.reduceMul,Nat.reduceBEq,fF,hj1,hr,i3,i5,c3,hget,hg5,UI,hwA,hwF,hset,wY,a7]|refine rd0 rfl ?_)))
      refine ⟨(j+1,F+Q,SS++[⟨i,r,F,F+Q⟩],true),⟨by simp only;omega,by simp only;omega,by simp only;omega,?_,hgo⟩,by simp only;omega,?_⟩
      ·refine ⟨by simp;omega,fun x hx=>?_,fun x hx=>?_⟩
       ·rcases List.mem_append.1 hx with hx|hx
        ·have:=hso.til x hx;simp only;omega
        ·simp only [List.mem_singleton] at hx;subst hx;simp only;omega
       ·rcases List.mem_append.1 hx with hx|hx
        ·exact hso.frm x hx
        ·simp only [List.mem_singleton] at hx;subst hx;simp only;omega
      ·try simp only [aE,QE,Nat.reduceLT,reduceIte,Nat.reduceEqDiff,Nat.reduceAdd,Nat.reduceLeDiff,Nat.reduceMul,Nat.reduceBEq,fF,hwj,ints,hk2,hk4,List.map_append,List.map_cons,List.map_nil]
       try simp [aL,okVs,okV,F1]
     ·have hj1:j=p.length:=by
       have:¬j<p.length:=by simpa using h2
       omega
      rw [List.drop_eq_nil_of_le (by omega),kM] at hgo
      subst hgo
      (repeat (first|simp only [↓QA,QB,Nat.reduceLT,reduceIte,Nat.reduceEqDiff,Nat.reduceAdd,Nat.reduceLeDiff,Nat.reduceMul,Nat.reduceBEq,fF]|refine rd0 rfl ?_))
      refine hK _ ex ?_ ?_ ?_ ?_ ?_ ?_ ?_
      all_goals try simp only [aE,QE,Nat.reduceLT,reduceIte,Nat.reduceEqDiff,Nat.reduceAdd,Nat.reduceLeDiff,Nat.reduceMul,Nat.reduceBEq,fF]
   cases hc:p.any (fun r=>m r==0)
   ·rw [hc] at hgo
    simp only [Bool.false_eq_true,if_false] at hgo
    (repeat (first|simp only [↓QA,QB,Nat.reduceLT,reduceIte,Nat.reduceEqDiff,Nat.reduceAdd,Nat.reduceLeDiff,Nat.reduceMul,Nat.reduceBEq,fF]|refine rd0 rfl ?_))
    refine hwt _ _ _ ?_ ?_ ?_ ?_ ?_ ?_ ?_ ?_ ?_ ?_ ?_ hc hgo.symm ?_
    all_goals try try simp only [aE,QE,Nat.reduceLT,reduceIte,Nat.reduceEqDiff,Nat.reduceAdd,Nat.reduceLeDiff,Nat.reduceMul,Nat.reduceBEq,fF,ints]
    intro e' ex' q2 q4 q6 q7 q18 q19 q20
    (repeat (first|simp only [↓QA,QB,Nat.reduceLT,reduceIte,Nat.reduceEqDiff,Nat.reduceAdd,Nat.reduceLeDiff,Nat.reduceMul,Nat.reduceBEq,fF,q2,q4,q6,q7,q18,q19,q20,hwi]|refine rd0 rfl ?_))
    refine ⟨(i+1,ex'),by simp only;omega,by simp only;omega,?_⟩
    try simp only [aE,QE,Nat.reduceLT,reduceIte,Nat.reduceEqDiff,Nat.reduceAdd,Nat.reduceLeDiff,Nat.reduceMul,Nat.reduceBEq,fF,q2,q4,q6,q7,q18,q19,q20,hwi,hsu1,hsu2,hk2,hk4]
    try simp [aL,okVs,okV,F1]
   ·rw [hc] at hgo
    simp only [if_true] at hgo
    subst hgo
    (repeat (first|simp only [↓QA,QB,Nat.reduceLT,reduceIte,Nat.reduceEqDiff,Nat.reduceAdd,Nat.reduceLeDiff,Nat.reduceMul,Nat.reduceBEq,fF,hset,i3,c3,wY,hwi]|refine rd0 rfl ?_))
    refine ⟨(i+1,ex),by simp only;omega,by simp only;omega,?_⟩
    try simp only [aE,QE,Nat.reduceLT,reduceIte,Nat.reduceEqDiff,Nat.reduceAdd,Nat.reduceLeDiff,Nat.reduceMul,Nat.reduceBEq,fF,hwi,hsu1,hsu2,hk2,hk4]
    try simp [aL,okVs,okV,F1]
  ·have hi1:i=v.trams.length:=by
    have:¬i<v.trams.length:=by simpa using h
    omega
   rw [hi1]
   (repeat (first|simp only [↓QA,QB,Nat.reduceLT,reduceIte,Nat.reduceEqDiff,Nat.reduceAdd,Nat.reduceLeDiff,Nat.reduceMul,Nat.reduceBEq,fF]|refine rd0 rfl ?_))
   refine fR [.cells (bV 5 M),.cells (bV 3 (cW (dB v m ps v.trams.length).2)),.tok 3 (dB v m ps v.trams.length).1.length ex] (by first|rfl|simp) ?_
   try simp only [QS,QC,Nat.reduceLT,reduceIte,Nat.reduceEqDiff,Nat.reduceAdd,Nat.reduceLeDiff,Nat.reduceMul,Nat.reduceBEq,fF,iO]
end Go.Am.Room
set_option maxRecDepth 8000
namespace Go.Am.Room
def jB:=And.intro @bH (And.intro @aI (And.intro @aW (And.intro @aT (And.intro @aS (And.intro @aR (And.intro @bF (And.intro @bC (And.intro @bA (And.intro @dH (And.intro @d6 (And.intro @Nat.not_lt_zero (And.intro @List.length_append.{0} (And.intro @Nat.zero_add (And.intro @Nat.mul_one (And.intro @Int.toNat_natCast (And.intro @eU (And.intro @gD (And.intro @gJ (And.intro @lS (And.intro @gI (And.intro @jA (And.intro @iZ (And.intro @i7 (And.intro @i6 (And.intro @i9 (And.intro @iY (And.intro @Nat.add_lt_add_iff_left (@Nat.lt_add_right_iff_pos))))))))))))))))))))))))))))
def rl (l:List Int) (i:Nat):Int:=(l[i]?).getD 0
theorem aBL {l:List Int} {k:Nat} (h:k<l.length):rl l k=l[k]:=by simp [rl,h]
theorem RW (c:List Int) (i:Nat):rlI c (i:Int)=rl c i:=by simp [rlI,rl]
theorem UW {a b:List Int} (h1:a.length=b.length) (h2:a.length≤5):((List.range 5).all fun i=>rl a i==rl b i)=decide (a=b):=by
 rw [Bool.eq_iff_iff,List.all_eq_true,decide_eq_true_eq]
 constructor
 ·intro h
  refine List.ext_getElem h1 fun i hi1 hi2=>?_
  have:=h i (by simp;omega)
  rw [beq_iff_eq,aBL (by omega),aBL (by omega)] at this
  exact this
 ·rintro rfl i _
  simp
abbrev K5:={ c:List Int // c.length=5 }
def pad (c:List Int):K5:=⟨(List.range 5).map (rl c),by simp⟩
theorem VJ (c:List Int) {i:Nat} (h:i<5):rl (pad c).1 i=rl c i:=by simp [pad,rl,h]
theorem YB (c:List Int):bV 5 (rl (pad c).1)=bV 5 (rl c):=KN fun i hi=>VJ c hi
theorem QG (v:Net) {c:List Int} (h:c.length≤5):d7 v (pad c).1=d7 v c:=by
 have:rlI (pad c).1=rlI c:=by
  funext r
  simp only [rlI]
  by_cases hr:r.toNat<5
  ·exact VJ c hr
  ·rw [List.getElem?_eq_none (by rw [(pad c).2];omega),List.getElem?_eq_none (by omega)]
 rw [d7,d7,this]
def Z7 (w:K5):AV:=.agg (bV 5 (rl w.1))
theorem XO (w:K5):Z7 w = .agg (bV 5 (rl w.1)):=by simp only [Z7]
def WR (v:Net) (w:K5):AV:=.agg (bV 3 (cW (d7 v w.1)))
theorem WX (v:Net) (w:K5):WR v w = .agg (bV 3 (cW (d7 v w.1))):=by simp only [WR]
theorem C6 (v:Net):KeyIs (.agg [.i,.i,.i,.i,.i]) Z7 (WR v) where
 eq:=fun w x=>by
  have:=ON 5 (rl w.1) (rl x.1)
  rw [UW (by rw [w.2,x.2]) (by rw [w.2];exact Nat.le_refl _)] at this
  have e:decide (w.1=x.1)=decide (w=x):=by rw [decide_eq_decide];exact Subtype.ext_iff.symm
  rw [e] at this
  exact this
 dk:=fun w=>j5 (pF _ _)
 dv:=fun w=>j5 (pF _ _)
abbrev tEs (v:Net):List K5→List (AV×AV):=sR Z7 (WR v)
def ZX (k:Nat):AV:=if k=0 then .func 116 [] [] else if k=1 then .func 117 [] [] else .func 118 [] []
def nK:List AV:=[.func 116 [] [],.func 117 [] [],.func 118 [] []]
theorem tG:nK=[.func 116 [] [],.func 117 [] [],.func 118 [] []]:=by simp only [nK]
theorem RO {k:Nat} (h:k<3):nK[k]? = some (ZX k):=by
 have:k=0∨k=1∨k=2:=by omega
 rcases this with rfl|rfl|rfl<;>rfl
theorem FO (k:Nat) (hk:k<3) (c:Bool) (σ:St):kK T (ZX k) [.bool c] σ (.bool (u4 (k:Int) c)):=by
 have:k=0∨k=1∨k=2:=by omega
 rcases this with rfl|rfl|rfl
 ·refine fC (af:=a116) rfl (by simp [a116]) ?_
  (repeat (first|simp only [↓QA,QB,Nat.reduceLT,reduceIte,Nat.reduceEqDiff,Nat.reduceAdd,Nat.reduceLeDiff,Nat.reduceMul,Nat.reduceBEq,jB,a116]|refine rd0 rfl ?_))
  refine fR [] (by first|rfl|simp) ?_
  cases c<;>(rw [GO];rfl)
 ·refine fC (af:=a117) rfl (by simp [a117]) ?_
  (repeat (first|simp only [↓QA,QB,Nat.reduceLT,reduceIte,Nat.reduceEqDiff,Nat.reduceAdd,Nat.reduceLeDiff,Nat.reduceMul,Nat.reduceBEq,jB,a117]|refine rd0 rfl ?_))
  refine fR [] (by first|rfl|simp) ?_
  cases c<;>(rw [GO];rfl)
 ·refine fC (af:=a118) rfl (by simp [a118]) ?_
  (repeat (first|simp only [↓QA,QB,Nat.reduceLT,reduceIte,Nat.reduceEqDiff,Nat.reduceAdd,Nat.reduceLeDiff,Nat.reduceMul,Nat.reduceBEq,jB,a118]|refine rd0 rfl ?_))
  refine fR [] (by first|rfl|simp) ?_
  cases c<;>(rw [GO];rfl)
theorem LA (σ:St):kK T (.func 107 [] []) [] σ (.agg nK):=by
 refine fC (af:=a107) rfl (by simp [a107]) ?_
 have j0:(0:Int)≤0∧(0:Int)<((3:Nat):Int):=by decide
 have j1:(0:Int)≤1∧(1:Int)<((3:Nat):Int):=by decide
 have j2:(0:Int)≤2∧(2:Int)<((3:Nat):Int):=by decide
 have t0:Int.toNat 0=0:=rfl
 have t1:Int.toNat 1=1:=rfl
 have t2:Int.toNat 2=2:=rfl
 (repeat (first|simp only [↓QA,QB,Nat.reduceLT,reduceIte,Nat.reduceEqDiff,Nat.reduceAdd,Nat.reduceLeDiff,Nat.reduceMul,Nat.reduceBEq,jB,a107,j0,j1,j2,t0,t1,t2]|refine rd0 rfl ?_))
 refine fR [.cells nK] (by first|rfl|simp [nK]) ?_
 try simp only [QS,QC,Nat.reduceLT,reduceIte,Nat.reduceEqDiff,Nat.reduceAdd,Nat.reduceLeDiff,Nat.reduceMul,Nat.reduceBEq,jB,tG,GS]
theorem Z8 (v:Net) (hv:Vd v) (b m p q tt s2 s5:Nat) (bl CS:List Int) (hb:ButIs b bl) (hcl:CS.length=v.trams.length) (σ:St) (hq:aK σ q=some [.ptr p 0]) (hp:aK σ p=some (db v b m)) (ht:aK σ tt=some (bV 3 (cW CS))) (hs2:s2<σ.length) (hs5:s5<σ.length) (e:Env) (K:KJ)
  (e1:Env.get e 1 = .ptr q 0) (e2:Env.get e 2 = .ptr s2 0) (e5:Env.get e 5 = .ptr s5 0) (e10:Env.get e 10 = .ptr tt 0) (e58:Env.get e 58 = .lit (v.seen.map bN) false none) (e59:Env.get e 59 = .int .i64 v.seen.length) (e60:Env.get e 60 = .int .i64 0)
  (hKt:jZ v bl CS=true→∀ e',Env.get e' 2 = .ptr s2 0→Env.get e' 5 = .ptr s5 0→Env.get e' 10 = .ptr tt 0→K (some (.exit 0)) e' σ)
  (hKf:jZ v bl CS=false→∀ e' τ',Env.get e' 9 = .bool true→K (some .ret) e' (σ++τ')) :
  rK (K:=⟨K⟩) T (.loop F4) e σ:=by
 have hse:=hv.nse
 have hnt:=hv.ntr
 have hql:=rH hq
 have htl:=rH ht
 have hq2:=fun τ=>lG hq τ
 have hp2:=fun τ=>lG hp τ
 have ht2:=fun τ=>lG ht τ
 refine bY (S:=Nat) 0 (fun k=>k≤v.seen.length∧pE v bl CS k=true) (fun k=>v.seen.length-k)
  (fun k=>[(1,.ptr q 0),(2,.ptr s2 0),(5,.ptr s5 0),(10,.ptr tt 0),(58,.lit (v.seen.map bN) false none),(59,.int .i64 v.seen.length),(60,.int .i64 k)])
  (fun k=>σ) ⟨Nat.zero_le _,rfl⟩ rfl ?_ fun k hk=>?_
 ·try simp only [aE,QE,Nat.reduceLT,reduceIte,Nat.reduceEqDiff,Nat.reduceAdd,Nat.reduceLeDiff,Nat.reduceMul,Nat.reduceBEq,jB,e1,e2,e5,e10,e58,e59,e60]
  try simp [hs2,hs5,hql,htl]
 ·obtain ⟨hk,hok⟩:=hk
  (repeat (first|simp only [↓QA,QB,Nat.reduceLT,reduceIte,Nat.reduceEqDiff,Nat.reduceAdd,Nat.reduceLeDiff,Nat.reduceMul,Nat.reduceBEq,jB,F4]|refine rd0 rfl ?_))
  refine aG (fun hd=>?_) fun hd=>?_
  ·have hk1:k<v.seen.length:=by simpa using hd
   have hw:=bX hk1 (by omega)
   have hsu:=zB hk1 bl CS
   have hsx:=hv.se _ (List.getElem_mem hk1)
   obtain ⟨x,hx⟩:∃ x,v.seen[k]=x:=⟨_,rfl⟩
   rw [hx] at hsu hsx
   rw [hok,Bool.true_and] at hsu
   obtain ⟨t,hte⟩:∃ t:Nat,x.tram=t:=⟨x.tram.toNat,by omega⟩
   rw [hte] at hsu hsx
   have hdiv:b/2^k<9223372036854775808:=Nat.lt_of_le_of_lt (Nat.div_le_self _ _) hb.lt
   have hbit:=hb.bit k (by omega)
   have vs:=T6 b k (by omega)
   have va:=LV (b/2^k) hdiv
   have i3:(0:Int)≤(t:Int)∧(t:Int)<((3:Nat):Int):=⟨by omega,by omega⟩
   have hg:=kR 3 (cW CS) (i:=t) (by omega)
   have hcf:cW CS t=cT CS (t:Int):=rfl
   rw [hcf] at hg
   obtain ⟨C,hC⟩:∃ C,cT CS (t:Int)=C:=⟨_,rfl⟩
   rw [hC] at hsu hg
   have go:pE v bl CS (k+1)=true→(k+1≤v.seen.length∧pE v bl CS (k+1)=true):=fun q=>⟨by omega,q⟩
   have snp:∀ τ n,n<σ.length→cQ (σ++τ) σ.length 20 (.ptr n 0)=some (.ptr n 0):=fun τ n hn=>by rw [aAF,if_pos hn]
   cases h2:bl.contains (k:Int)
   ·rw [h2] at hbit hsu
    rw [Bool.false_or] at hsu
    cases h3:(C==x.minute)
    ·rw [h3] at hsu
     have hqf:jZ v bl CS=false:=by
      rw [←vI]
      simp only [pE,List.all_eq_false,List.mem_range] at hsu ⊢
      obtain ⟨a,ha,h1⟩:=hsu
      exact ⟨a,by omega,h1⟩
     (repeat (first|simp only [↓QA,QB,Nat.reduceLT,reduceIte,Nat.reduceEqDiff,Nat.reduceAdd,Nat.reduceLeDiff,Nat.reduceMul,Nat.reduceBEq,jB,hk1,hx,hte,hq2,hp2,ht2,vs,va,hbit,i3,hg,h3]|refine rd0 rfl ?_))
     exact hKf hqf _ _ (by try simp only [aE,QE,Nat.reduceLT,reduceIte,Nat.reduceEqDiff,Nat.reduceAdd,Nat.reduceLeDiff,Nat.reduceMul,Nat.reduceBEq,jB])
    ·rw [h3] at hsu
     (repeat (first|simp only [↓QA,QB,Nat.reduceLT,reduceIte,Nat.reduceEqDiff,Nat.reduceAdd,Nat.reduceLeDiff,Nat.reduceMul,Nat.reduceBEq,jB,hk1,hx,hte,hq2,hp2,ht2,vs,va,hbit,i3,hg,h3]|refine rd0 rfl ?_))
     refine ⟨k+1,go hsu,by omega,?_⟩
     try simp only [aE,QE,Nat.reduceLT,reduceIte,Nat.reduceEqDiff,Nat.reduceAdd,Nat.reduceLeDiff,Nat.reduceMul,Nat.reduceBEq,jB,hw,snp _ _ hql,snp _ _ hs2,snp _ _ hs5,snp _ _ htl]
     try simp [aL,hs2,hs5,hql,htl]
   ·rw [h2] at hbit hsu
    rw [Bool.true_or] at hsu
    (repeat (first|simp only [↓QA,QB,Nat.reduceLT,reduceIte,Nat.reduceEqDiff,Nat.reduceAdd,Nat.reduceLeDiff,Nat.reduceMul,Nat.reduceBEq,jB,hk1,hx,hte,hq2,hp2,ht2,vs,va,hbit]|refine rd0 rfl ?_))
    refine ⟨k+1,go hsu,by omega,?_⟩
    try simp only [aE,QE,Nat.reduceLT,reduceIte,Nat.reduceEqDiff,Nat.reduceAdd,Nat.reduceLeDiff,Nat.reduceMul,Nat.reduceBEq,jB,hw,snp _ _ hql,snp _ _ hs2,snp _ _ hs5,snp _ _ htl]
    try simp [aL,hs2,hs5,hql,htl]
  ·have hk1:k=v.seen.length:=by
    have:¬k<v.seen.length:=by simpa using hd
    omega
   rw [hk1,vI] at hok
   (repeat (first|simp only [↓QA,QB,Nat.reduceLT,reduceIte,Nat.reduceEqDiff,Nat.reduceAdd,Nat.reduceLeDiff,Nat.reduceMul,Nat.reduceBEq,jB]|refine rd0 rfl ?_))
   refine hKt hok _ ?_ ?_ ?_
   all_goals try simp only [aE,QE,Nat.reduceLT,reduceIte,Nat.reduceEqDiff,Nat.reduceAdd,Nat.reduceLeDiff,Nat.reduceMul,Nat.reduceBEq,jB]
end Go.Am.Room
set_option maxRecDepth 8000
namespace Go.Am.Room
def d8:=And.intro @bH (And.intro @aI (And.intro @aW (And.intro @aT (And.intro @aS (And.intro @aR (And.intro @bF (And.intro @bC (And.intro @bA (And.intro @dH (And.intro @d6 (And.intro @Nat.not_lt_zero (And.intro @List.length_append.{0} (And.intro @Nat.zero_add (And.intro @Nat.mul_one (And.intro @Int.toNat_natCast (And.intro @eU (And.intro @gD (And.intro @gJ (And.intro @lS (And.intro @gI (And.intro @jA (And.intro @iZ (And.intro @i7 (And.intro @i6 (And.intro @i9 (And.intro @iY (And.intro @Nat.add_lt_add_iff_left (And.intro @Nat.lt_add_right_iff_pos (And.intro @pM (@pL))))))))))))))))))))))))))))))
def kU {A X:Type} [DecidableEq A] (f:A→X→X×Bool) (a:A) (s:Option A×X):(Option A×X)×Bool:=if s.1=some a then (s,true) else ((some a,(f a s.2).1),(f a s.2).2)
theorem C0 {A X:Type} [DecidableEq A] (f:A→X→X×Bool):∀ (l:List A) (o:Option A) (x:X),l.Pairwise (·≠·)→(∀ a∈l,o≠some a)→(cI (kU f) l (o,x)).1.2=(cI f l x).1∧(cI (kU f) l (o,x)).2=(cI f l x).2
 |[],o,x,_,_=>⟨rfl,rfl⟩
 |a::l,o,x,h,ho=>by
  have h0:=ho a (by simp)
  obtain ⟨h1,h2⟩:=List.pairwise_cons.1 h
  have ih:=C0 f l (some a) (f a x).1 h2 fun b hb e=>h1 b hb (by simpa using e)
  simp only [cI,kU,h0,if_false]
  split
  ·exact ih
  ·exact ⟨rfl,rfl⟩
theorem w4 {A X:Type} [DecidableEq A] (f:A→X→X×Bool):∀ (az:List A) (o:Option A) (x:X) (u:A),(cI (kU f) az (o,x)).1.1=some u→o=some u∨u∈az
 |[],o,x,u,h=>.inl h
 |a::az,o,x,u,h=>by
  simp only [cI,kU] at h
  by_cases ho:o=some a
  ·simp only [ho,if_true] at h
   rcases w4 f az (some a) x u h with h|h
   ·exact .inl (ho.trans h)
   ·exact .inr (by simp [h])
  ·simp only [ho,if_false] at h
   split at h
   ·rcases w4 f az (some a) _ u h with h|h
    ·simp at h;exact .inr (by simp [h])
    ·exact .inr (by simp [h])
   ·simp at h;exact .inr (by simp [h])
theorem GB (l:List Int) (n:Int):rl (l++[n])=n4 (rl l) l.length n:=by
 funext i
 simp only [rl,n4]
 by_cases h:i=l.length
 ·subst h;simp
 ·rw [if_neg h]
  by_cases h2:i<l.length
  ·rw [List.getElem?_append_left h2]
  ·rw [List.getElem?_eq_none (by simp;omega),List.getElem?_eq_none (by omega)]
theorem xK (l:List Int):n4 (rl l) l.length 0=rl l:=by
 funext i
 simp only [n4]
 split
 ·rename_i h;subst h;simp [rl]
 ·rfl
def nM {X:Type} (v:Net) (bl:List Int) (f:List Int→X→X×Bool) (c:List Int) (y:X×List K5):(X×List K5)×Bool :=
 if sO v bl c=true then (((f c y.1).1,pC y.2 (pad c)),(f c y.1).2) else ((y.1,pC y.2 (pad c)),true)
structure LeafOk (v:Net) (c:List Int):Prop where
 len:c.length=v.rails.length
 mins:vQ v (rlI c)
def qU (v:Net) (c:List Int) (_:Bool) (_:Option Nat):List AV:=[.agg (bV 5 (rl c)),.agg (bV 3 (cW (d7 v c)))]
def FV {X:Type} (Zp ZDp:X×List K5→St) (id:Nat) (v:Net) (P:List Int→Prop) (f:List Int→X→X×Bool):Prop :=
 ∀ t,P t→∀ (y:X×List K5) τ,Run T (.callv (.yield id) [.agg (bV 5 (rl t)),.agg (bV 3 (cW (d7 v t)))] (Zp y++τ)) fun o=>o.v = .bool (f t y.1).2∧∃ τ',o.σ=Fam.out Zp ZDp (((f t y.1).1,y.2),(f t y.1).2)++(τ++τ')
def ER (q N:Nat):AV:=.func 108 [] [.ptr q 0,.ptr (N+1) 0,.ptr (N+2) 0,.ptr (N+3) 0,.ptr N 0,.ptr (N+4) 0,.ptr (N+5) 0]
theorem AX (q N:Nat):ER q N = .func 108 [] [.ptr q 0,.ptr (N+1) 0,.ptr (N+2) 0,.ptr (N+3) 0,.ptr N 0,.ptr (N+4) 0,.ptr (N+5) 0]:=by simp only [ER]
def kW (id q N:Nat) (o:Option (List Int)) (A:Nat→Int):St:=[.cells [.yield id],.cells (bV 5 A),.cells (bV 5 (rl (o.getD []))),.cells [.bool o.isNone],.cells nK,.cells [ER q N]]
theorem eL (id q N:Nat) (o:Option (List Int)) (A:Nat→Int) (τ:St):kW id q N o A++τ = .cells [.yield id]::.cells (bV 5 A)::.cells (bV 5 (rl (o.getD [])))::.cells [.bool o.isNone]::.cells nK::.cells [ER q N]::τ:=by simp [kW]
def E8 {X:Type} (Zp ZDp:X×List K5→St) (id q N:Nat) (l:List Int) (τ:St) (r:(Option (List Int)×(X×List K5))×Bool) (o:Out):Prop :=
 o.v = .bool r.2∧∃ A τ',o.σ=Fam.out Zp ZDp (r.1.2,r.2)++(kW id q N r.1.1 A++(τ++τ'))∧(r.2=true→A=rl l)
theorem RJ {X:Type} {Zp ZDp:X×List K5→St} {v:Net} {b p m q N:Nat} {bl:List Int} (hR:Fam Zp ZDp (db v b m) p q N) (hS:∀ x,MemAt (fun A=>Zp (x,A)) (db v b m) (tEs v) p m N) (hv:Vd v) (hb:ButIs b bl) {id:Nat} {P:List Int→Prop} {f:List Int→X→X×Bool} (hy:FV Zp ZDp id v P f)
  (c:List Int) (hc:LeafOk v c) (hP:sO v bl c=true→P c) (o:Option (List Int)) (ho:∀ u,o=some u→u.length=v.rails.length) (y:X×List K5) (τ:St) :
  Run T (.callv (ER q N) [.int .i64 c.length] (Zp y++(kW id q N o (rl c)++τ))) (E8 Zp ZDp id q N c τ (kU (nM v bl f) c (o,y))):=by
 have hnr:=hv.nra
 have hcl:=hc.len
 simp only [AX]
 refine .callf (.call (af:=a108) rfl (by simp [a108]) (iL (K:=fun j e σ'=>(j=none∨j=some .ret)∧E8 Zp ZDp id q N c τ (kU (nM v bl f) c (o,y)) ⟨none,[],σ',Env.get e 9⟩) ?_ fun o ho=>ho) fun w hw=>⟨hw.1,_,rfl,.inl hw.2⟩)
 have hE:((c.length:Int)==(v.rails.length:Int))=true:=by rw [hcl];simp
 have heq:bT [.i,.i,.i,.i,.i] (bV 5 (rl c)) (bV 5 (rl (o.getD [])))=some ((List.range 5).all fun i=>rl c i==rl (o.getD []) i):=ON 5 (rl c) (rl (o.getD []))
 obtain ⟨B,hB⟩:∃ B,((List.range 5).all fun i=>rl c i==rl (o.getD []) i)=B:=⟨_,rfl⟩
 rw [hB] at heq
 by_cases hu:o=some c
 ·subst hu
  have hBt:B=true:=by rw [←hB];simp
  subst hBt
  have hon:kU (nM v bl f) c (some c,y)=((some c,y),true):=by simp [kU]
  rw [hon,eL]
  simp only [Option.getD_some] at heq
  (repeat (first|simp only [↓QA,QB,Nat.reduceLT,reduceIte,Nat.reduceEqDiff,Nat.reduceAdd,Nat.reduceLeDiff,Nat.reduceMul,Nat.reduceBEq,d8,hR.len,hR.base,hR.base0,hR.bset,hR.bset0,hR.at1,hR.atq1,a108,hE,heq,Option.isNone_some,Option.getD_some]|refine rd0 rfl ?_))
  exact ⟨rfl,rl c,[],by simp [kW,Fam.out],fun _=>rfl⟩
 ·have hon:kU (nM v bl f) c (o,y)=((some c,(nM v bl f c y).1),(nM v bl f c y).2):=by simp [kU,hu]
  have hgo:(B&&!o.isNone)=false:=by
   cases o with
   |none=>simp
   |some u =>
    have hul:=ho u rfl
    have:B=decide (c=u):=by rw [←hB];exact UW (a:=c) (b:=u) (by omega) (by omega)
    rw [this]
    simp only [Option.isNone_some,Bool.not_false,Bool.and_true,decide_eq_false_iff_not]
    rintro rfl
    exact hu rfl
  rw [hon]
  obtain ⟨x,A⟩:=y
  obtain ⟨A',hA'⟩:∃ A',pC A (pad c)=A':=⟨_,rfl⟩
  have hper:nM v bl f c (x,A)=if sO v bl c=true then (((f c x).1,A'),(f c x).2) else ((x,A'),true):=by rw [nM,hA']
  have hl1:=fun τ=>X8 (C6 v) (hS x) A τ (pad c)
  have hput:=fun τ (hw:pad c∉A)=>aE8 (C6 v) (hS x) A τ (pad c) hw
  simp only [XO,WX,YB,QG v (show c.length≤5 by omega)] at hl1 hput
  have hcal:=hy c
  have hfit:sO v bl c=jZ v bl (d7 v c):=rfl
  have hcc:(d7 v c).length=v.trams.length:=mA _ _ _ _
  obtain ⟨CS,hCS⟩:∃ CS,d7 v c=CS:=⟨_,rfl⟩
  have hrun:∀ (σ:St) (hσ:aK σ p=some (db v b m)),kK T (.func 109 [] []) [.ptr p 0,.agg (bV 5 (rl c)),.func 110 [.ptr p 0] []] σ (.agg (bV 3 (cW CS))):=fun σ hσ=>by
   have hpl:=rH hσ
   rw [←hCS]
   exact J2 v hv b m p σ hσ hpl _ (fun τ n hn=>by
    try simp only [QS,QC,Nat.reduceLT,reduceIte,Nat.reduceEqDiff,Nat.reduceAdd,Nat.reduceLeDiff,Nat.reduceMul,Nat.reduceBEq,d8,hR.len,hR.base,hR.base0,hR.bset,hR.bset0,hR.at1,hR.atq1,GS]
    simp [show p<n by omega]) (fY v) (LD hv) (fun i hi τ=>RS v b m p _ (lG hσ τ) i hi) (rl c) (rlI c) (RW c) hc.mins
  rw [hCS] at hl1 hput hfit hcc hcal
  have hpN:=hR.pl
  have hqN:=hR.ql
  have hP':=hP
  rw [hfit] at hP' hper
  rw [eL]
  -- behind the look into the map: the things that were seen
  have tail:∀ (e:Env) (K:KJ),Env.get e 1 = .ptr q 0→Env.get e 2 = .ptr (N+1) 0→Env.get e 5 = .ptr N 0→Env.get e 10 = .ptr (N+(τ.length+1+1+1+1+1+1)) 0→Env.get e 58 = .lit (v.seen.map bN) false none→Env.get e 59 = .int .i64 v.seen.length→Env.get e 60 = .int .i64 0 →
    (jZ v bl CS=true→∀ e',Env.get e' 2 = .ptr (N+1) 0→Env.get e' 5 = .ptr N 0→Env.get e' 10 = .ptr (N+(τ.length+1+1+1+1+1+1)) 0→K (some (.exit 0)) e' (Zp (x,A')++(kW id q N (some c) (rl c)++(τ++[.cells (bV 3 (cW CS))])))) →
    (jZ v bl CS=false→∀ e' τ',Env.get e' 9 = .bool true→K (some .ret) e' ((Zp (x,A')++(kW id q N (some c) (rl c)++(τ++[.cells (bV 3 (cW CS))])))++τ')) →
    rK (K:=⟨K⟩) T (.loop F4) e (Zp (x,A')++(kW id q N (some c) (rl c)++(τ++[.cells (bV 3 (cW CS))]))):=by
   intro e K e1 e2 e5 e10 e58 e59 e60 hKt hKf
   refine Z8 v hv b m p q (N+(τ.length+1+1+1+1+1+1)) (N+1) N bl CS hb hcc _ (hR.atq1 _ _) (hR.at1 _ _) ?_ ?_ ?_ e K e1 e2 e5 e10 e58 e59 e60 hKt hKf
   ·rw [eL,hR.base]
    simp only [sI]
    have:=kF τ [.cells (bV 3 (cW CS))]
    rw [this];rfl
   ·simp [hR.len,kW]
   ·simp [hR.len,kW]
  have hta:∀ (y:X×List K5) (b0 b1 b2 b3 b4 b5:ABlk),aK (Zp y++(b0::b1::b2::b3::b4::b5::(τ++[.cells (bV 3 (cW CS))]))) (N+(τ.length+1+1+1+1+1+1))=some (bV 3 (cW CS)):=fun y b0 b1 b2 b3 b4 b5=>by
   rw [hR.base]
   simp only [sI]
   rw [kF];rfl
  have htz:∀ (y:X×List K5) (b0 b1 b2 b3 b4 b5:ABlk) (cs:List AV),aK (Zp y++(b0::b1::b2::b3::b4::b5::(τ++[.cells cs]))) (N+(τ.length+1+1+1+1+1+1))=some cs:=fun y b0 b1 b2 b3 b4 b5 cs=>by
   rw [hR.base]
   simp only [sI]
   rw [kF];rfl
  have hts:∀ (y:X×List K5) (b0 b1 b2 b3 b4 b5:ABlk) (cs:List AV) (B:ABlk),(Zp y++(b0::b1::b2::b3::b4::b5::(τ++[.cells cs]))).set (N+(τ.length+1+1+1+1+1+1)) B=Zp y++(b0::b1::b2::b3::b4::b5::(τ++[B])):=fun y b0 b1 b2 b3 b4 b5 cs B=>by
   rw [hR.bset]
   simp only [List.set_cons_succ]
   rw [N8];rfl
  have hlen:∀ (y:X×List K5),(Zp y).length=N:=hR.len
  by_cases hw:pad c∈A
  ·have hA2:A'=A:=by rw [←hA',pC,if_pos hw]
   subst hA2
   simp only [hw,if_true] at hl1
   cases B
   ·(repeat (first|simp only [↓QA,QB,Nat.reduceLT,reduceIte,Nat.reduceEqDiff,Nat.reduceAdd,Nat.reduceLeDiff,Nat.reduceMul,Nat.reduceBEq,d8,hR.len,hR.base,hR.base0,hR.bset,hR.bset0,hR.at1,hR.atq1,a108,hE,heq]|refine rd0 rfl ?_))
    refine nL [.cells [.int .i64 0,.int .i64 0,.int .i64 0]] rfl ?_
    (repeat (first|simp only [↓QA,QB,Nat.reduceLT,reduceIte,Nat.reduceEqDiff,Nat.reduceAdd,Nat.reduceLeDiff,Nat.reduceMul,Nat.reduceBEq,d8,hR.len,hR.base,hR.base0,hR.bset,hR.bset0,hR.at1,hR.atq1,hl1,AN,AJ,hlen,htz,hts]|refine rd0 rfl ?_))
    refine tail _ _ ?_ ?_ ?_ ?_ ?_ ?_ ?_ ?_ ?_
    all_goals try try simp only [aE,QE,Nat.reduceLT,reduceIte,Nat.reduceEqDiff,Nat.reduceAdd,Nat.reduceLeDiff,Nat.reduceMul,Nat.reduceBEq,d8,hR.len,hR.base,hR.base0,hR.bset,hR.bset0,hR.at1,hR.atq1]
    ·intro hs e' q2 q5 q10
     have hc2:=fun A=>hcal (hP' hs) (x,A)
     rw [hs,if_pos rfl] at hper
     rw [hper,eL]
     (repeat (first|simp only [↓QA,QB,Nat.reduceLT,reduceIte,Nat.reduceEqDiff,Nat.reduceAdd,Nat.reduceLeDiff,Nat.reduceMul,Nat.reduceBEq,d8,hR.len,hR.base,hR.base0,hR.bset,hR.bset0,hR.at1,hR.atq1,q2,q5,q10,hta]|refine rd0 rfl ?_))
     refine .mono (hc2 _ _) fun w hw=>?_
     obtain ⟨hw1,τ',hw2⟩:=hw
     rw [hw1,hw2]
     (repeat (first|simp only [↓QA,QB,Nat.reduceLT,reduceIte,Nat.reduceEqDiff,Nat.reduceAdd,Nat.reduceLeDiff,Nat.reduceMul,Nat.reduceBEq,d8,hR.len,hR.base,hR.base0,hR.bset,hR.bset0,hR.at1,hR.atq1,q2,q5,q10]|refine rd0 rfl ?_))
     exact ⟨rfl,rl c,[.cells (bV 3 (cW CS))]++τ',by simp [kW],fun _=>rfl⟩
    ·intro hs e' τ' q9
     rw [hs] at hper
     simp only [Bool.false_eq_true,if_false] at hper
     rw [hper]
     (repeat (first|simp only [↓QA,QB,Nat.reduceLT,reduceIte,Nat.reduceEqDiff,Nat.reduceAdd,Nat.reduceLeDiff,Nat.reduceMul,Nat.reduceBEq,d8,hR.len,hR.base,hR.base0,hR.bset,hR.bset0,hR.at1,hR.atq1,q9]|refine rd0 rfl ?_))
     exact ⟨rfl,rl c,[.cells (bV 3 (cW CS))]++τ',by simp [Fam.out],fun _=>rfl⟩
   ·rw [Bool.true_and] at hgo
    have hgo':o.isNone=true:=by simpa using hgo
    (repeat (first|simp only [↓QA,QB,Nat.reduceLT,reduceIte,Nat.reduceEqDiff,Nat.reduceAdd,Nat.reduceLeDiff,Nat.reduceMul,Nat.reduceBEq,d8,hR.len,hR.base,hR.base0,hR.bset,hR.bset0,hR.at1,hR.atq1,a108,hE,heq,hgo']|refine rd0 rfl ?_))
    refine nL [.cells [.int .i64 0,.int .i64 0,.int .i64 0]] rfl ?_
    (repeat (first|simp only [↓QA,QB,Nat.reduceLT,reduceIte,Nat.reduceEqDiff,Nat.reduceAdd,Nat.reduceLeDiff,Nat.reduceMul,Nat.reduceBEq,d8,hR.len,hR.base,hR.base0,hR.bset,hR.bset0,hR.at1,hR.atq1,hl1,AN,AJ,hlen,htz,hts]|refine rd0 rfl ?_))
    refine tail _ _ ?_ ?_ ?_ ?_ ?_ ?_ ?_ ?_ ?_
    all_goals try try simp only [aE,QE,Nat.reduceLT,reduceIte,Nat.reduceEqDiff,Nat.reduceAdd,Nat.reduceLeDiff,Nat.reduceMul,Nat.reduceBEq,d8,hR.len,hR.base,hR.base0,hR.bset,hR.bset0,hR.at1,hR.atq1]
    ·intro hs e' q2 q5 q10
     have hc2:=fun A=>hcal (hP' hs) (x,A)
     rw [hs,if_pos rfl] at hper
     rw [hper,eL]
     (repeat (first|simp only [↓QA,QB,Nat.reduceLT,reduceIte,Nat.reduceEqDiff,Nat.reduceAdd,Nat.reduceLeDiff,Nat.reduceMul,Nat.reduceBEq,d8,hR.len,hR.base,hR.base0,hR.bset,hR.bset0,hR.at1,hR.atq1,q2,q5,q10,hta]|refine rd0 rfl ?_))
     refine .mono (hc2 _ _) fun w hw=>?_
     obtain ⟨hw1,τ',hw2⟩:=hw
     rw [hw1,hw2]
     (repeat (first|simp only [↓QA,QB,Nat.reduceLT,reduceIte,Nat.reduceEqDiff,Nat.reduceAdd,Nat.reduceLeDiff,Nat.reduceMul,Nat.reduceBEq,d8,hR.len,hR.base,hR.base0,hR.bset,hR.bset0,hR.at1,hR.atq1,q2,q5,q10]|refine rd0 rfl ?_))
     exact ⟨rfl,rl c,[.cells (bV 3 (cW CS))]++τ',by simp [kW],fun _=>rfl⟩
    ·intro hs e' τ' q9
     rw [hs] at hper
     simp only [Bool.false_eq_true,if_false] at hper
     rw [hper]
     (repeat (first|simp only [↓QA,QB,Nat.reduceLT,reduceIte,Nat.reduceEqDiff,Nat.reduceAdd,Nat.reduceLeDiff,Nat.reduceMul,Nat.reduceBEq,d8,hR.len,hR.base,hR.base0,hR.bset,hR.bset0,hR.at1,hR.atq1,q9]|refine rd0 rfl ?_))
     exact ⟨rfl,rl c,[.cells (bV 3 (cW CS))]++τ',by simp [Fam.out],fun _=>rfl⟩
  ·have hA2:A'=A++[pad c]:=by rw [←hA',pC,if_neg hw]
   subst hA2
   simp only [hw,if_false] at hl1
   have hput:=fun τ=>hput τ hw
   cases B
   ·(repeat (first|simp only [↓QA,QB,Nat.reduceLT,reduceIte,Nat.reduceEqDiff,Nat.reduceAdd,Nat.reduceLeDiff,Nat.reduceMul,Nat.reduceBEq,d8,hR.len,hR.base,hR.base0,hR.bset,hR.bset0,hR.at1,hR.atq1,a108,hE,heq]|refine rd0 rfl ?_))
    refine nL [.cells [.int .i64 0,.int .i64 0,.int .i64 0]] rfl ?_
    (repeat (first|simp only [↓QA,QB,Nat.reduceLT,reduceIte,Nat.reduceEqDiff,Nat.reduceAdd,Nat.reduceLeDiff,Nat.reduceMul,Nat.reduceBEq,d8,hR.len,hR.base,hR.base0,hR.bset,hR.bset0,hR.at1,hR.atq1,hl1,AN,AJ,hlen,htz,hts]|refine rd0 rfl ?_))
    refine cM (hrun _ (hR.at1 _ _)) ?_
    (repeat (first|simp only [↓QA,QB,Nat.reduceLT,reduceIte,Nat.reduceEqDiff,Nat.reduceAdd,Nat.reduceLeDiff,Nat.reduceMul,Nat.reduceBEq,d8,hR.len,hR.base,hR.base0,hR.bset,hR.bset0,hR.at1,hR.atq1,hlen,htz,hts,hput]|refine rd0 rfl ?_))
    refine tail _ _ ?_ ?_ ?_ ?_ ?_ ?_ ?_ ?_ ?_
    all_goals try try simp only [aE,QE,Nat.reduceLT,reduceIte,Nat.reduceEqDiff,Nat.reduceAdd,Nat.reduceLeDiff,Nat.reduceMul,Nat.reduceBEq,d8,hR.len,hR.base,hR.base0,hR.bset,hR.bset0,hR.at1,hR.atq1]
    ·intro hs e' q2 q5 q10
     have hc2:=fun A=>hcal (hP' hs) (x,A)
     rw [hs,if_pos rfl] at hper
     rw [hper,eL]
     (repeat (first|simp only [↓QA,QB,Nat.reduceLT,reduceIte,Nat.reduceEqDiff,Nat.reduceAdd,Nat.reduceLeDiff,Nat.reduceMul,Nat.reduceBEq,d8,hR.len,hR.base,hR.base0,hR.bset,hR.bset0,hR.at1,hR.atq1,q2,q5,q10,hta]|refine rd0 rfl ?_))
     refine .mono (hc2 _ _) fun w hw=>?_
     obtain ⟨hw1,τ',hw2⟩:=hw
     rw [hw1,hw2]
     (repeat (first|simp only [↓QA,QB,Nat.reduceLT,reduceIte,Nat.reduceEqDiff,Nat.reduceAdd,Nat.reduceLeDiff,Nat.reduceMul,Nat.reduceBEq,d8,hR.len,hR.base,hR.base0,hR.bset,hR.bset0,hR.at1,hR.atq1,q2,q5,q10]|refine rd0 rfl ?_))
     exact ⟨rfl,rl c,[.cells (bV 3 (cW CS))]++τ',by simp [kW],fun _=>rfl⟩
    ·intro hs e' τ' q9
     rw [hs] at hper
     simp only [Bool.false_eq_true,if_false] at hper
     rw [hper]
     (repeat (first|simp only [↓QA,QB,Nat.reduceLT,reduceIte,Nat.reduceEqDiff,Nat.reduceAdd,Nat.reduceLeDiff,Nat.reduceMul,Nat.reduceBEq,d8,hR.len,hR.base,hR.base0,hR.bset,hR.bset0,hR.at1,hR.atq1,q9]|refine rd0 rfl ?_))
     exact ⟨rfl,rl c,[.cells (bV 3 (cW CS))]++τ',by simp [Fam.out],fun _=>rfl⟩
   ·rw [Bool.true_and] at hgo
    have hgo':o.isNone=true:=by simpa using hgo
    (repeat (first|simp only [↓QA,QB,Nat.reduceLT,reduceIte,Nat.reduceEqDiff,Nat.reduceAdd,Nat.reduceLeDiff,Nat.reduceMul,Nat.reduceBEq,d8,hR.len,hR.base,hR.base0,hR.bset,hR.bset0,hR.at1,hR.atq1,a108,hE,heq,hgo']|refine rd0 rfl ?_))
    refine nL [.cells [.int .i64 0,.int .i64 0,.int .i64 0]] rfl ?_
    (repeat (first|simp only [↓QA,QB,Nat.reduceLT,reduceIte,Nat.reduceEqDiff,Nat.reduceAdd,Nat.reduceLeDiff,Nat.reduceMul,Nat.reduceBEq,d8,hR.len,hR.base,hR.base0,hR.bset,hR.bset0,hR.at1,hR.atq1,hl1,AN,AJ,hlen,htz,hts]|refine rd0 rfl ?_))
    refine cM (hrun _ (hR.at1 _ _)) ?_
    (repeat (first|simp only [↓QA,QB,Nat.reduceLT,reduceIte,Nat.reduceEqDiff,Nat.reduceAdd,Nat.reduceLeDiff,Nat.reduceMul,Nat.reduceBEq,d8,hR.len,hR.base,hR.base0,hR.bset,hR.bset0,hR.at1,hR.atq1,hlen,htz,hts,hput]|refine rd0 rfl ?_))
    refine tail _ _ ?_ ?_ ?_ ?_ ?_ ?_ ?_ ?_ ?_
    all_goals try try simp only [aE,QE,Nat.reduceLT,reduceIte,Nat.reduceEqDiff,Nat.reduceAdd,Nat.reduceLeDiff,Nat.reduceMul,Nat.reduceBEq,d8,hR.len,hR.base,hR.base0,hR.bset,hR.bset0,hR.at1,hR.atq1]
    ·intro hs e' q2 q5 q10
     have hc2:=fun A=>hcal (hP' hs) (x,A)
     rw [hs,if_pos rfl] at hper
     rw [hper,eL]
     (repeat (first|simp only [↓QA,QB,Nat.reduceLT,reduceIte,Nat.reduceEqDiff,Nat.reduceAdd,Nat.reduceLeDiff,Nat.reduceMul,Nat.reduceBEq,d8,hR.len,hR.base,hR.base0,hR.bset,hR.bset0,hR.at1,hR.atq1,q2,q5,q10,hta]|refine rd0 rfl ?_))
     refine .mono (hc2 _ _) fun w hw=>?_
     obtain ⟨hw1,τ',hw2⟩:=hw
     rw [hw1,hw2]
     (repeat (first|simp only [↓QA,QB,Nat.reduceLT,reduceIte,Nat.reduceEqDiff,Nat.reduceAdd,Nat.reduceLeDiff,Nat.reduceMul,Nat.reduceBEq,d8,hR.len,hR.base,hR.base0,hR.bset,hR.bset0,hR.at1,hR.atq1,q2,q5,q10]|refine rd0 rfl ?_))
     exact ⟨rfl,rl c,[.cells (bV 3 (cW CS))]++τ',by simp [kW],fun _=>rfl⟩
    ·intro hs e' τ' q9
     rw [hs] at hper
     simp only [Bool.false_eq_true,if_false] at hper
     rw [hper]
     (repeat (first|simp only [↓QA,QB,Nat.reduceLT,reduceIte,Nat.reduceEqDiff,Nat.reduceAdd,Nat.reduceLeDiff,Nat.reduceMul,Nat.reduceBEq,d8,hR.len,hR.base,hR.base0,hR.bset,hR.bset0,hR.at1,hR.atq1,q9]|refine rd0 rfl ?_))
     exact ⟨rfl,rl c,[.cells (bV 3 (cW CS))]++τ',by simp [Fam.out],fun _=>rfl⟩
end Go.Am.Room
set_option maxRecDepth 8000
namespace Go.Am.Room
def dX:=And.intro @bH (And.intro @aI (And.intro @aW (And.intro @aT (And.intro @aS (And.intro @aR (And.intro @bF (And.intro @bC (And.intro @bA (And.intro @dH (And.intro @d6 (And.intro @Nat.not_lt_zero (And.intro @List.length_append.{0} (And.intro @Nat.zero_add (And.intro @Nat.mul_one (And.intro @Int.toNat_natCast (And.intro @eU (And.intro @gD (And.intro @gJ (And.intro @lS (And.intro @gI (And.intro @jA (And.intro @iZ (And.intro @i7 (And.intro @i6 (And.intro @i9 (And.intro @iY (And.intro @Nat.add_lt_add_iff_left (And.intro @Nat.lt_add_right_iff_pos (And.intro @pM (And.intro @pL (And.intro @B3 (@BU))))))))))))))))))))))))))))))))
theorem WZ (k:Nat):ZX k = .func (if k=0 then 116 else if k=1 then 117 else 118) [] []:=by
 unfold ZX;split
 ·rfl
 ·split<;>rfl
def sN (v:Net) (r:Rail) (rs:List Rail) (l:List Int) (n:Int):List (List Int):=(if r.shut=1 then [] else aU n (r.mins.hi+1-n).toNat).flatMap fun n=>gC rs (l++[n])
def iP (r:Rail):List AV:=[.int .i64 r.a,.int .i64 r.b,.int .i64 r.mins.lo,.int .i64 r.mins.hi,.int .i64 r.shut]
theorem d4 (r:Rail):iP r=[.int .i64 r.a,.int .i64 r.b,.int .i64 r.mins.lo,.int .i64 r.mins.hi,.int .i64 r.shut]:=by simp only [iP]
def aI3 {X:Type} (Zp ZDp:X×List K5→St) (F:List Int→X×List K5→(X×List K5)×Bool) (v:Net) (q id N:Nat) (l:List Int) (r:Rail) (rs:List Rail) (τ:St) (R:(Option (List Int)×(X×List K5))×Bool) (k:Nat) (e:Env) (σ:St):Prop :=
 Env.get e 0 = .int .i64 l.length∧Env.get e 2 = .ptr (N+1) 0∧Env.get e 6 = .ptr (N+4) 0∧Env.get e 7 = .ptr (N+5) 0∧Env.get e 14 = .ptr (N+(τ.length+1+1+1+1+1+1)) 0∧∃ n o y c τ2,Env.get e 15 = .int .i64 n∧r.mins.lo≤n∧n≤r.mins.hi+1∧k=(r.mins.hi+1-n).toNat∧(∀ u,o=some u→u.length=v.rails.length) ∧
   σ=Zp y++(kW id q N o (n4 (rl l) l.length c)++(τ++(.cells (iP r)::τ2)))∧cI (kU F) (sN v r rs l n) (o,y)=R
theorem IQ {X:Type} {Zp ZDp:X×List K5→St} {v:Net} {b p m q N:Nat} {bl:List Int} (hR:Fam Zp ZDp (db v b m) p q N) (hS:∀ x,MemAt (fun A=>Zp (x,A)) (db v b m) (tEs v) p m N) (hv:Vd v) (hb:ButIs b bl) {id:Nat} {P:List Int→Prop} {f:List Int→X→X×Bool} (hy:FV Zp ZDp id v P f) (hP:∀ c,LeafOk v c→sO v bl c=true→P c) :
  ∀ (rs:List Rail) (l:List Int) (o:Option (List Int)) (y:X×List K5) (τ:St),rs=v.rails.drop l.length→l.length≤v.rails.length→(∀ i,i<l.length→0≤rl l i∧rl l i≤20)→(∀ u,o=some u→u.length=v.rails.length) →
   Run T (.callv (ER q N) [.int .i64 l.length] (Zp y++(kW id q N o (rl l)++τ))) (E8 Zp ZDp id q N l τ (cI (kU (nM v bl f)) (gC rs l) (o,y)))
 |[],l,o,y,τ,hrs,hl,hbd,ho=>by
  have hl2:l.length=v.rails.length:=by
   have:=congrArg List.length hrs
   simp at this
   omega
  simp only [gC,RF]
  refine RJ hR hS hv hb hy l ⟨hl2,fun r h0 h1=>?_⟩ (hP l ⟨hl2,fun r h0 h1=>?_⟩) o ho y τ
  all_goals
   have:=hbd r.toNat (by omega)
   simpa [rlI,rl] using this
 |r::rs,l,o,y,τ,hrs,hl,hbd,ho=>by
  have hlt:l.length<v.rails.length:=by
   have:=congrArg List.length hrs
   simp at this
   omega
  have hnr:=hv.nra
  have hdr:=List.drop_eq_getElem_cons hlt
  rw [←hrs] at hdr
  have hs:v.rails[l.length]=r:=by have:=(List.cons.inj hdr).1;exact this.symm
  have hrs2:rs=v.rails.drop (l.length+1):=(List.cons.inj hdr).2
  have hra:=hv.ra _ (List.getElem_mem hlt)
  rw [hs] at hra
  have hmi:=hra.mins
  have hsh:=hra.shut
  obtain ⟨S,hS2⟩:∃ S:Nat,r.shut=(S:Int):=⟨r.shut.toNat,by omega⟩
  have hS3:S<3:=by omega
  have hE:((l.length:Int)==(v.rails.length:Int))=false:=by simp;omega
  have i5:(0:Int)≤(l.length:Int)∧(l.length:Int)<((5:Nat):Int):=⟨by omega,by omega⟩
  have c5:l.length+1≤5:=by omega
  have iS:(0:Int)≤(S:Int)∧(S:Int)<((3:Nat):Int):=⟨by omega,by omega⟩
  have hcg:=RO hS3
  have hct:=fun σ=>FO S hS3 true σ
  have hcf:=fun σ=>FO S hS3 false σ
  have hc1:u4 (S:Int) true = !decide (S=0):=by
   have:((S:Int)=0)=(S=0):=by rw [eq_iff_iff];omega
   simp [u4]
  have hc2:u4 (S:Int) false = !decide (S=1):=by
   have:((S:Int)=1)=(S=1):=by rw [eq_iff_iff];omega
   simp [u4];omega
  rw [hc1] at hct
  rw [hc2] at hcf
  have hcE:=WZ S
  obtain ⟨CF,hCF⟩:∃ CF,(if S=0 then 116 else if S=1 then 117 else 118)=CF:=⟨_,rfl⟩
  rw [hCF] at hcE
  rw [hcE] at hcg
  simp only [hcE] at hct hcf
  have hwd:IntKind.i64.wrap ((l.length:Int)+1)=((l.length+1:Nat):Int):=bX hlt (by omega)
  have ih:=fun (n:Int) (hn:0≤n∧n≤20) (o:Option (List Int)) (y:X×List K5) (τ:St) (ho:∀ u,o=some u→u.length=v.rails.length)=>IQ hR hS hv hb hy hP rs (l++[n]) o y τ (by rw [hrs2];simp) (by simp;omega) (fun i hi=>by
   rw [GB]
   simp only [n4]
   by_cases e:i=l.length
   ·subst e
    rw [if_pos rfl]
    exact hn
   ·rw [if_neg e]
    exact hbd i (by simp at hi;omega)) ho
  obtain ⟨F,hF⟩:∃ F,nM v bl f=F:=⟨_,rfl⟩
  rw [hF] at ih ⊢
  obtain ⟨R,hRR⟩:∃ R,cI (kU F) (gC (r::rs) l) (o,y)=R:=⟨_,rfl⟩
  rw [hRR]
  have hsplit:gC (r::rs) l=(if S=0 then [] else gC rs (l++[0]))++sN v r rs l r.mins.lo:=by
   have e0:(r.shut=0)=(S=0):=by rw [eq_iff_iff];omega
   simp only [gC,chP,List.flatMap_append,sN,B8,e0]
   congr 1
   split<;>simp
  rw [hsplit,yG] at hRR
  have hht:∀ (y:X×List K5) (b0 b1 b2 b3 b4 b5:ABlk) (cs:List AV) (τ2:St),aK (Zp y++(b0::b1::b2::b3::b4::b5::(τ++(.cells cs::τ2)))) (N+(τ.length+1+1+1+1+1+1))=some cs:=fun y b0 b1 b2 b3 b4 b5 cs τ2=>by
   rw [hR.base]
   simp only [sI]
   rw [kF];rfl
  have hlen:∀ (y:X×List K5),(Zp y).length=N:=hR.len
  simp only [AX]
  refine .callf (.call (af:=a108) rfl (by simp [a108]) (iL (K:=fun j e σ'=>(j=none∨j=some .ret)∧E8 Zp ZDp id q N l τ R ⟨none,[],σ',Env.get e 9⟩) ?_ fun o ho=>ho) fun w hw=>⟨hw.1,_,rfl,.inl hw.2⟩)
  have hst0:=tW 5 (rl l) 0 (show l.length<5 by omega)
  rw [xK] at hst0
  rw [eL]
  -- the loop over minutes
  have loop:∀ (e:Env) (K:KJ) (y:X×List K5) (o:Option (List Int)) (τ2:St),(∀ u,o=some u→u.length=v.rails.length)→Env.get e 0 = .int .i64 l.length→Env.get e 2 = .ptr (N+1) 0→Env.get e 6 = .ptr (N+4) 0→Env.get e 7 = .ptr (N+5) 0→Env.get e 14 = .ptr (N+(τ.length+1+1+1+1+1+1)) 0→Env.get e 15 = .int .i64 r.mins.lo→cI (kU F) (sN v r rs l r.mins.lo) (o,y)=R →
    (∀ e' y' o' τ2 c,Env.get e' 0 = .int .i64 l.length→Env.get e' 2 = .ptr (N+1) 0→R=((o',y'),true)→K (some (.exit 2)) e' (Zp y'++(kW id q N o' (n4 (rl l) l.length c)++(τ++(.cells (iP r)::τ2))))) →
    (∀ e' A τ2,Env.get e' 9 = .bool false→R.2=false→K (some .ret) e' (Fam.out Zp ZDp (R.1.2,R.2)++(kW id q N R.1.1 A++(τ++(.cells (iP r)::τ2))))) →
    rK (K:=⟨K⟩) T (.loop AU) e (Zp y++(kW id q N o (rl l)++(τ++(.cells (iP r)::τ2)))):=by
   intro e K y o τ2 ho e0 e2 e6 e7 e14 e15 hq hKx hKf
   refine aG1 (aI3 Zp ZDp F v q id N l r rs τ R) ?_ (r.mins.hi+1-r.mins.lo).toNat _ _ ?_
   ·rintro k e σ ⟨e0,e2,e6,e7,e14,n,o,y,c,τ2,e15,hn0,hn1,hk,ho,rfl,hq⟩
    subst hk
    have hst:=tW 5 (n4 (rl l) l.length c) n (show l.length<5 by omega)
    rw [wY,←GB l n] at hst
    rw [eL]
    cases hle:decide (n≤r.mins.hi)
    ·have hn2:¬n≤r.mins.hi:=by simpa using hle
     have hrn:sN v r rs l n=[]:=by
      rw [sN,HK hn2];simp
     rw [hrn] at hq
     simp only [cI] at hq
     (repeat (first|simp only [↓QA,QB,Nat.reduceLT,reduceIte,Nat.reduceEqDiff,Nat.reduceAdd,Nat.reduceLeDiff,Nat.reduceMul,Nat.reduceBEq,dX,hR.len,hR.base,hR.base0,hR.bset,hR.bset0,hR.at1,hR.atq1,AU,e0,e2,e6,e7,e14,e15,hht,d4,hle]|refine rd0 rfl ?_))
     have:=fun e'=>hKx e' y o τ2 c
     simp only [eL,d4] at this
     refine this _ ?_ ?_ hq.symm
     all_goals try simp only [aE,QE,Nat.reduceLT,reduceIte,Nat.reduceEqDiff,Nat.reduceAdd,Nat.reduceLeDiff,Nat.reduceMul,Nat.reduceBEq,dX,hR.len,hR.base,hR.base0,hR.bset,hR.bset0,hR.at1,hR.atq1,e0,e2]
    ·have hn2:n≤r.mins.hi:=by simpa using hle
     by_cases hS1:S=1
     ·have hrn:sN v r rs l n=[]:=by
       rw [sN,if_pos (by omega)];simp
      rw [hrn] at hq
      simp only [cI] at hq
      have hd1:(!decide (S=1))=false:=by simp [hS1]
      rw [hd1] at hcf
      (repeat (first|simp only [↓QA,QB,Nat.reduceLT,reduceIte,Nat.reduceEqDiff,Nat.reduceAdd,Nat.reduceLeDiff,Nat.reduceMul,Nat.reduceBEq,dX,hR.len,hR.base,hR.base0,hR.bset,hR.bset0,hR.at1,hR.atq1,AU,e0,e2,e6,e7,e14,e15,hht,d4,hle,hS2,iS,hcg,Nat.add_zero]|refine rd0 rfl ?_))
      refine cM (hcf _) ?_
      (repeat (first|simp only [↓QA,QB,Nat.reduceLT,reduceIte,Nat.reduceEqDiff,Nat.reduceAdd,Nat.reduceLeDiff,Nat.reduceMul,Nat.reduceBEq,dX,hR.len,hR.base,hR.base0,hR.bset,hR.bset0,hR.at1,hR.atq1,e0,e2,e6,e7,e14,e15]|refine rd0 rfl ?_))
      have:=fun e'=>hKx e' y o τ2 c
      simp only [eL,d4,hS2] at this
      refine this _ ?_ ?_ hq.symm
      all_goals try simp only [aE,QE,Nat.reduceLT,reduceIte,Nat.reduceEqDiff,Nat.reduceAdd,Nat.reduceLeDiff,Nat.reduceMul,Nat.reduceBEq,dX,hR.len,hR.base,hR.base0,hR.bset,hR.bset0,hR.at1,hR.atq1,e0,e2]
     ·have hd1:(!decide (S=1))=true:=by simp [hS1]
      rw [hd1] at hcf
      have hrn:sN v r rs l n=gC rs (l++[n])++sN v r rs l (n+1):=by
       rw [sN,sN,if_neg (by omega),if_neg (by omega),FG hn2,List.flatMap_cons]
      rw [hrn,yG] at hq
      have hwn:IntKind.i64.wrap (n+1)=n+1:=dU ⟨by omega,by omega⟩
      have hc:=ih n ⟨by omega,by omega⟩ o y (τ++(.cells (iP r)::τ2)) ho
      simp only [eL,d4,hS2,List.length_append,List.length_cons,List.length_nil,Nat.zero_add] at hc
      obtain ⟨r1,hr1⟩:∃ r1,cI (kU F) (gC rs (l++[n])) (o,y)=r1:=⟨_,rfl⟩
      rw [hr1] at hq hc
      (repeat (first|simp only [↓QA,QB,Nat.reduceLT,reduceIte,Nat.reduceEqDiff,Nat.reduceAdd,Nat.reduceLeDiff,Nat.reduceMul,Nat.reduceBEq,dX,hR.len,hR.base,hR.base0,hR.bset,hR.bset0,hR.at1,hR.atq1,AU,e0,e2,e6,e7,e14,e15,hht,d4,hle,hS2,iS,hcg,Nat.add_zero]|refine rd0 rfl ?_))
      refine cM (hcf _) ?_
      (repeat (first|simp only [↓QA,QB,Nat.reduceLT,reduceIte,Nat.reduceEqDiff,Nat.reduceAdd,Nat.reduceLeDiff,Nat.reduceMul,Nat.reduceBEq,dX,hR.len,hR.base,hR.base0,hR.bset,hR.bset0,hR.at1,hR.atq1,e0,e2,e6,e7,e14,e15,i5,c5,hst,hwd]|refine rd0 rfl ?_))
      refine .mono hc fun w hw=>?_
      obtain ⟨hw1,A,τ',hw2,hw3⟩:=hw
      rw [hw1,hw2]
      cases hr2:r1.2
      ·rw [hr2] at hq
       simp only [Bool.false_eq_true,if_false] at hq
       (repeat (first|simp only [↓QA,QB,Nat.reduceLT,reduceIte,Nat.reduceEqDiff,Nat.reduceAdd,Nat.reduceLeDiff,Nat.reduceMul,Nat.reduceBEq,dX,hR.len,hR.base,hR.base0,hR.bset,hR.bset0,hR.at1,hR.atq1,e0,e2,e6,e7,e14,e15]|refine rd0 rfl ?_))
       subst hq
       have hKf':=fun e'=>hKf e' A (τ2++τ')
       simp only [d4,hS2] at hKf'
       first|exact hKf' _ (by try simp only [aE,QE,Nat.reduceLT,reduceIte,Nat.reduceEqDiff,Nat.reduceAdd,Nat.reduceLeDiff,Nat.reduceMul,Nat.reduceBEq,dX,hR.len,hR.base,hR.base0,hR.bset,hR.bset0,hR.at1,hR.atq1]) trivial|exact hKf' _ (by try simp only [aE,QE,Nat.reduceLT,reduceIte,Nat.reduceEqDiff,Nat.reduceAdd,Nat.reduceLeDiff,Nat.reduceMul,Nat.reduceBEq,dX,hR.len,hR.base,hR.base0,hR.bset,hR.bset0,hR.at1,hR.atq1]) rfl|exact hKf' _ (by try simp only [aE,QE,Nat.reduceLT,reduceIte,Nat.reduceEqDiff,Nat.reduceAdd,Nat.reduceLeDiff,Nat.reduceMul,Nat.reduceBEq,dX,hR.len,hR.base,hR.base0,hR.bset,hR.bset0,hR.at1,hR.atq1])
      ·rw [hr2] at hq
       simp only [if_true] at hq
       have hA:=hw3 hr2
       rw [hA]
       simp only [Fam.out,if_true]
       rw [eL]
       (repeat (first|simp only [↓QA,QB,Nat.reduceLT,reduceIte,Nat.reduceEqDiff,Nat.reduceAdd,Nat.reduceLeDiff,Nat.reduceMul,Nat.reduceBEq,dX,hR.len,hR.base,hR.base0,hR.bset,hR.bset0,hR.at1,hR.atq1,e0,e2,e6,e7,e14,e15,hwn]|refine rd0 rfl ?_))
       refine ⟨(r.mins.hi+1-(n+1)).toNat,by omega,?_,?_,?_,?_,?_,n+1,r1.1.1,r1.1.2,n,τ2++τ',?_,by omega,by omega,rfl,fun u hu=>?_,?_,hq⟩
       ·try simp only [aE,QE,Nat.reduceLT,reduceIte,Nat.reduceEqDiff,Nat.reduceAdd,Nat.reduceLeDiff,Nat.reduceMul,Nat.reduceBEq,dX,hR.len,hR.base,hR.base0,hR.bset,hR.bset0,hR.at1,hR.atq1,e0]
       ·try simp only [aE,QE,Nat.reduceLT,reduceIte,Nat.reduceEqDiff,Nat.reduceAdd,Nat.reduceLeDiff,Nat.reduceMul,Nat.reduceBEq,dX,hR.len,hR.base,hR.base0,hR.bset,hR.bset0,hR.at1,hR.atq1,e2]
       ·try simp only [aE,QE,Nat.reduceLT,reduceIte,Nat.reduceEqDiff,Nat.reduceAdd,Nat.reduceLeDiff,Nat.reduceMul,Nat.reduceBEq,dX,hR.len,hR.base,hR.base0,hR.bset,hR.bset0,hR.at1,hR.atq1,e6]
       ·try simp only [aE,QE,Nat.reduceLT,reduceIte,Nat.reduceEqDiff,Nat.reduceAdd,Nat.reduceLeDiff,Nat.reduceMul,Nat.reduceBEq,dX,hR.len,hR.base,hR.base0,hR.bset,hR.bset0,hR.at1,hR.atq1,e7]
       ·try simp only [aE,QE,Nat.reduceLT,reduceIte,Nat.reduceEqDiff,Nat.reduceAdd,Nat.reduceLeDiff,Nat.reduceMul,Nat.reduceBEq,dX,hR.len,hR.base,hR.base0,hR.bset,hR.bset0,hR.at1,hR.atq1,e14]
       ·try simp only [aE,QE,Nat.reduceLT,reduceIte,Nat.reduceEqDiff,Nat.reduceAdd,Nat.reduceLeDiff,Nat.reduceMul,Nat.reduceBEq,dX,hR.len,hR.base,hR.base0,hR.bset,hR.bset0,hR.at1,hR.atq1]
       ·rw [←hr1] at hu
        rcases w4 F _ o y u hu with h|h
        ·exact ho u h
        ·have:=D0 h
         have hlr:l.length+1+rs.length=v.rails.length:=by rw [hrs2];simp;omega
         simp at this
         omega
       ·rw [eL,GB,d4,hS2]
        try simp
   ·refine ⟨e0,e2,e6,e7,e14,r.mins.lo,o,y,0,τ2,e15,Int.le_refl _,by omega,rfl,ho,?_,hq⟩
    rw [xK]
  have fin:∀ (y:X×List K5) (o:Option (List Int)) (τ2:St),R=((o,y),true)→E8 Zp ZDp id q N l τ R ⟨none,[],Zp y++(kW id q N o (rl l)++(τ++(.cells (iP r)::τ2))),.bool true⟩:=fun y o τ2 hq=>by
   rw [hq]
   exact ⟨rfl,rl l,.cells (iP r)::τ2,by simp [Fam.out],fun _=>rfl⟩
  by_cases hS0:S=0
  ·have hd0:(!decide (S=0))=false:=by simp [hS0]
   rw [hd0] at hct
   rw [if_pos hS0] at hRR
   simp only [cI,if_true] at hRR
   (repeat (first|simp only [↓QA,QB,Nat.reduceLT,reduceIte,Nat.reduceEqDiff,Nat.reduceAdd,Nat.reduceLeDiff,Nat.reduceMul,Nat.reduceBEq,dX,hR.len,hR.base,hR.base0,hR.bset,hR.bset0,hR.at1,hR.atq1,a108,hE,hlt,hs,hlen,hS2,hht,iS,hcg,Nat.add_zero]|refine rd0 rfl ?_))
   refine cM (hct _) ?_
   (repeat (first|simp only [↓QA,QB,Nat.reduceLT,reduceIte,Nat.reduceEqDiff,Nat.reduceAdd,Nat.reduceLeDiff,Nat.reduceMul,Nat.reduceBEq,dX,hR.len,hR.base,hR.base0,hR.bset,hR.bset0,hR.at1,hR.atq1,hht]|refine rd0 rfl ?_))
   have lp:=fun e K=>loop e K y o [] ho
   simp only [eL,d4,hS2] at lp
   refine lp _ _ ?_ ?_ ?_ ?_ ?_ ?_ hRR ?_ ?_
   all_goals try try simp only [aE,QE,Nat.reduceLT,reduceIte,Nat.reduceEqDiff,Nat.reduceAdd,Nat.reduceLeDiff,Nat.reduceMul,Nat.reduceBEq,dX,hR.len,hR.base,hR.base0,hR.bset,hR.bset0,hR.at1,hR.atq1]
   ·intro e' y' o' τ2 c q0 q2 hq
    have hst0:=tW 5 (n4 (rl l) l.length c) 0 (show l.length<5 by omega)
    rw [wY,xK] at hst0
    have fn:=fin y' o' τ2 hq
    simp only [eL,d4,hS2] at fn
    (repeat (first|simp only [↓QA,QB,Nat.reduceLT,reduceIte,Nat.reduceEqDiff,Nat.reduceAdd,Nat.reduceLeDiff,Nat.reduceMul,Nat.reduceBEq,dX,hR.len,hR.base,hR.base0,hR.bset,hR.bset0,hR.at1,hR.atq1,q0,q2,i5,c5,hst0]|refine rd0 rfl ?_))
    exact fn
   ·intro e' A τ2 q9 hq
    (repeat (first|simp only [↓QA,QB,Nat.reduceLT,reduceIte,Nat.reduceEqDiff,Nat.reduceAdd,Nat.reduceLeDiff,Nat.reduceMul,Nat.reduceBEq,dX,hR.len,hR.base,hR.base0,hR.bset,hR.bset0,hR.at1,hR.atq1,q9]|refine rd0 rfl ?_))
    exact ⟨by rw [hq],A,_,rfl,fun h=>by rw [hq] at h;cases h⟩
  ·have hd0:(!decide (S=0))=true:=by simp [hS0]
   rw [hd0] at hct
   rw [if_neg hS0] at hRR
   have hc:=ih 0 ⟨by omega,by omega⟩ o y (τ++[.cells (iP r)]) ho
   have hr0:rl (l++[0])=rl l:=by rw [GB,xK]
   rw [hr0] at hc
   simp only [eL,d4,hS2,List.length_append,List.length_cons,List.length_nil,Nat.zero_add] at hc
   obtain ⟨r1,hr1⟩:∃ r1,cI (kU F) (gC rs (l++[0])) (o,y)=r1:=⟨_,rfl⟩
   rw [hr1] at hRR hc
   (repeat (first|simp only [↓QA,QB,Nat.reduceLT,reduceIte,Nat.reduceEqDiff,Nat.reduceAdd,Nat.reduceLeDiff,Nat.reduceMul,Nat.reduceBEq,dX,hR.len,hR.base,hR.base0,hR.bset,hR.bset0,hR.at1,hR.atq1,a108,hE,hlt,hs,hlen,hS2,hht,iS,hcg,Nat.add_zero]|refine rd0 rfl ?_))
   refine cM (hct _) ?_
   (repeat (first|simp only [↓QA,QB,Nat.reduceLT,reduceIte,Nat.reduceEqDiff,Nat.reduceAdd,Nat.reduceLeDiff,Nat.reduceMul,Nat.reduceBEq,dX,hR.len,hR.base,hR.base0,hR.bset,hR.bset0,hR.at1,hR.atq1,hht,i5,c5,hst0,hwd]|refine rd0 rfl ?_))
   refine .mono hc fun w hw=>?_
   obtain ⟨hw1,A,τ',hw2,hw3⟩:=hw
   rw [hw1,hw2]
   cases hr2:r1.2
   ·rw [hr2] at hRR
    simp only [Bool.false_eq_true,if_false] at hRR
    (repeat (first|simp only [↓QA,QB,Nat.reduceLT,reduceIte,Nat.reduceEqDiff,Nat.reduceAdd,Nat.reduceLeDiff,Nat.reduceMul,Nat.reduceBEq,dX,hR.len,hR.base,hR.base0,hR.bset,hR.bset0,hR.at1,hR.atq1]|refine rd0 rfl ?_))
    rw [←hRR]
    exact ⟨rfl,A,.cells (iP r)::τ',by simp [d4,hS2],fun h=>by cases h⟩
   ·rw [hr2] at hRR
    simp only [if_true] at hRR
    have hA:=hw3 hr2
    rw [hr0] at hA
    rw [hA]
    simp only [Fam.out,if_true]
    have ho1:∀ u,r1.1.1=some u→u.length=v.rails.length:=fun u hu=>by
     rw [←hr1] at hu
     rcases w4 F _ o y u hu with h|h
     ·exact ho u h
     ·have:=D0 h
      have hlr:l.length+1+rs.length=v.rails.length:=by rw [hrs2];simp;omega
      simp at this
      omega
    rw [eL]
    (repeat (first|simp only [↓QA,QB,Nat.reduceLT,reduceIte,Nat.reduceEqDiff,Nat.reduceAdd,Nat.reduceLeDiff,Nat.reduceMul,Nat.reduceBEq,dX,hR.len,hR.base,hR.base0,hR.bset,hR.bset0,hR.at1,hR.atq1,hht]|refine rd0 rfl ?_))
    have lp:=fun e K=>loop e K r1.1.2 r1.1.1 τ' ho1
    simp only [eL,d4,hS2] at lp
    refine lp _ _ ?_ ?_ ?_ ?_ ?_ ?_ hRR ?_ ?_
    all_goals try try simp only [aE,QE,Nat.reduceLT,reduceIte,Nat.reduceEqDiff,Nat.reduceAdd,Nat.reduceLeDiff,Nat.reduceMul,Nat.reduceBEq,dX,hR.len,hR.base,hR.base0,hR.bset,hR.bset0,hR.at1,hR.atq1]
    ·intro e' y' o' τ2 c q0 q2 hq
     have hst0:=tW 5 (n4 (rl l) l.length c) 0 (show l.length<5 by omega)
     rw [wY,xK] at hst0
     have fn:=fin y' o' τ2 hq
     simp only [eL,d4,hS2] at fn
     (repeat (first|simp only [↓QA,QB,Nat.reduceLT,reduceIte,Nat.reduceEqDiff,Nat.reduceAdd,Nat.reduceLeDiff,Nat.reduceMul,Nat.reduceBEq,dX,hR.len,hR.base,hR.base0,hR.bset,hR.bset0,hR.at1,hR.atq1,q0,q2,i5,c5,hst0]|refine rd0 rfl ?_))
     exact fn
    ·intro e' A τ2 q9 hq
     (repeat (first|simp only [↓QA,QB,Nat.reduceLT,reduceIte,Nat.reduceEqDiff,Nat.reduceAdd,Nat.reduceLeDiff,Nat.reduceMul,Nat.reduceBEq,dX,hR.len,hR.base,hR.base0,hR.bset,hR.bset0,hR.at1,hR.atq1,q9]|refine rd0 rfl ?_))
     exact ⟨by rw [hq],A,_,rfl,fun h=>by rw [hq] at h;cases h⟩
end Go.Am.Room
set_option maxRecDepth 8000
namespace Go.Am.Room
def mC:=And.intro @bH (And.intro @aI (And.intro @aW (And.intro @aT (And.intro @aS (And.intro @aR (And.intro @bF (And.intro @bC (And.intro @bA (And.intro @dH (And.intro @d6 (And.intro @Nat.not_lt_zero (And.intro @List.length_append.{0} (And.intro @Nat.zero_add (And.intro @Nat.mul_one (And.intro @Int.toNat_natCast (And.intro @eU (And.intro @gD (And.intro @gJ (And.intro @lS (And.intro @gI (And.intro @jA (And.intro @iZ (And.intro @i7 (And.intro @i6 (And.intro @i9 (And.intro @iY (And.intro @Nat.add_lt_add_iff_left (And.intro @Nat.lt_add_right_iff_pos (And.intro @pM (@pL))))))))))))))))))))))))))))))
def gH {X:Type} (v:Net) (bl:List Int) (f:List Int→X→X×Bool) (x:X) (A:List K5):(X×List K5)×Bool:=cI (nM v bl f) (gC v.rails []) (x,A)
theorem Q5 {X:Type} {Zp ZDp:X×List K5→St} {v:Net} {b p m q N:Nat} {bl:List Int} (hR:Fam Zp ZDp (db v b m) p q N) (hS:∀ x,MemAt (fun A=>Zp (x,A)) (db v b m) (tEs v) p m N) (hv:Vd v) (hb:ButIs b bl) {id:Nat} {P:List Int→Prop} {f:List Int→X→X×Bool} (hy:FV Zp ZDp id v P f) (hP:∀ c,LeafOk v c→sO v bl c=true→P c) (y:X×List K5) :
  Run T (.call 106 [.yield id,.ptr q 0] (Zp y)) fun o=>∃ τ',o.σ=Fam.out Zp ZDp (cI (nM v bl f) (gC v.rails []) y)++τ':=by
 have hn:=IQ hR hS hv hb hy hP v.rails [] none y [] (by simp) (by simp) (fun i hi=>by simp at hi) (fun u hu=>by cases hu)
 have hl:=hR.len y
 have hz:[AV.int .i64 0,.int .i64 0,.int .i64 0,.int .i64 0,.int .i64 0]=bV 5 (rl []):=by simp [bV,rl,List.range_succ]
 obtain ⟨ho1,ho2⟩:=C0 (nM v bl f) (gC v.rails []) none y (HJ _ _ (fun r hr=>(hv.ra r hr).mins.1)) (fun a _ h=>by cases h)
 have hend:∀ w,E8 Zp ZDp id q N [] [] (cI (kU (nM v bl f)) (gC v.rails []) (none,y)) w→∃ τ',w.σ=Fam.out Zp ZDp (cI (nM v bl f) (gC v.rails []) y)++τ':=by
  rintro w ⟨_,A,τ',h2,_⟩
  refine ⟨kW id q N (cI (kU (nM v bl f)) (gC v.rails []) (none,y)).1.1 A++([]++τ'),?_⟩
  rw [h2,show ((cI (kU (nM v bl f)) (gC v.rails []) (none,y)).1.2,(cI (kU (nM v bl f)) (gC v.rails []) (none,y)).2)=cI (nM v bl f) (gC v.rails []) y from Prod.ext ho1 ho2]
 rw [eL,AX] at hn
 simp only [List.length_nil,Option.getD_none,Option.isNone_none] at hn
 refine .call (af:=a106) rfl (by simp [a106]) (iL (K:=fun j e σ'=>(j=none∨j=some .ret)∧∃ τ',σ'=Fam.out Zp ZDp (cI (nM v bl f) (gC v.rails []) y)++τ') ?_ fun o ho=>ho) fun o ho=>⟨ho.1,_,rfl,.inl ho.2⟩
 (repeat (first|simp only [↓QA,QB,Nat.reduceLT,reduceIte,Nat.reduceEqDiff,Nat.reduceAdd,Nat.reduceLeDiff,Nat.reduceMul,Nat.reduceBEq,mC,hR.len,hR.base,hR.base0,hR.bset,hR.bset0,hR.at1,hR.at0,a106,hl,hz]|refine rd0 rfl ?_))
 refine cM (LA _) ?_
 (repeat (first|simp only [↓QA,QB,Nat.reduceLT,reduceIte,Nat.reduceEqDiff,Nat.reduceAdd,Nat.reduceLeDiff,Nat.reduceMul,Nat.reduceBEq,mC,hR.len,hR.base,hR.base0,hR.bset,hR.bset0,hR.at1,hR.at0,hl,hz,tG]|refine rd0 rfl ?_))
 simp only [tG] at hn
 refine .mono hn fun w hw=>?_
 have:=hend w hw
 (repeat (first|simp only [↓QA,QB,Nat.reduceLT,reduceIte,Nat.reduceEqDiff,Nat.reduceAdd,Nat.reduceLeDiff,Nat.reduceMul,Nat.reduceBEq,mC,hR.len,hR.base,hR.base0,hR.bset,hR.bset0,hR.at1,hR.at0]|refine rd0 rfl ?_))
 exact this
theorem aEB {X M:Type} {Z ZD:X→M→St} {obj:List AV} {es:M→List (AV×AV)} {p m q N:Nat} (h:Fam1 Z ZD obj es p m q N):Fam (fun y:X×M=>Z y.1 y.2) (fun y=>ZD y.1 y.2) obj p q N :=
 ⟨fun y=>(h.ship y.1).len y.2,fun y=>h.lenD y.1 y.2,fun y=>(h.ship y.1).at0 y.2,fun y=>h.atq0 y.1 y.2,fun x y k i hk hi=>h.keep _ _ _ _ k i hk hi,fun x y k i hk hi=>h.keepD _ _ _ _ k i hk hi,h.pl,h.ql⟩
theorem zE {X:Type} {Z ZD:X→List K5→St} {v:Net} {b p m q N:Nat} {bl:List Int} (hF:Fam1 Z ZD (db v b m) (tEs v) p m q N) (hv:Vd v) (hb:ButIs b bl) {id:Nat} {P:List Int→Prop} {f:List Int→X→X×Bool} (hy:wK Z ZD id (qU v) P f) (hP:∀ c,LeafOk v c→sO v bl c=true→P c) (x:X) (A:List K5) :
  Run T (.call 106 [.yield id,.ptr q 0] (Z x A)) fun o=>∃ τ',o.σ=Fam1.out Z ZD ((gH v bl f x A).1.1,(gH v bl f x A).2) (gH v bl f x A).1.2++τ' :=
 Q5 (aEB hF) (fun x=>hF.ship x) hv hb (f:=f) (fun t ht x τ=>hy t ht false none x.1 x.2 τ) hP (x,A)
theorem vA {X:Type} (v:Net) (bl:List Int) (f:List Int→X→X×Bool) (x:X) (A:List K5):((gH v bl f x A).1.1,(gH v bl f x A).2)=cI f (TL v bl) x:=by
 have key:∀ (l:List (List Int)) (x:X) (A:List K5),((cI (nM v bl f) l (x,A)).1.1,(cI (nM v bl f) l (x,A)).2)=cI f (l.filter (sO v bl)) x:=by
  intro l
  induction l with
  |nil=>intro x A;rfl
  |cons c l ih =>
   intro x A
   simp only [cI,List.filter_cons]
   cases h:sO v bl c
   ·have hp:nM v bl f c (x,A)=((x,pC A (pad c)),true):=by simp only [nM,h,Bool.false_eq_true,if_false]
    rw [hp]
    simp only [if_true,Bool.false_eq_true,if_false]
    exact ih x _
   ·have hp:nM v bl f c (x,A)=(((f c x).1,pC A (pad c)),(f c x).2):=by simp only [nM,h,if_true]
    rw [hp]
    simp only [if_true,cI]
    split
    ·exact ih _ _
    ·rfl
 exact key _ x A
def TOk (v:Net) (bl c:List Int):Prop:=LeafOk v c∧sO v bl c=true
theorem oJ {X:Type} {S:List K5→St} {v:Net} {b p m N:Nat} {bl:List Int} (hS:MemAt S (db v b m) (tEs v) p m N) (hv:Vd v) (hb:ButIs b bl) (U UD:X→St) (n:Nat) (hU:∀ x,(U x).length=n) (hUD:∀ x,(UD x).length=n) (ok:∀ x y,y∈U x→∀ k,N≤k→aL k y) (okD:∀ x y,y∈UD x→∀ k,N≤k→aL k y)
  (J:AJump) {f:List Int→X→X×Bool} (e:Env) (k:Nat) (ps:List Nat) (a bb:ACode) (ek:Env.get e k = .func 106 [] [.ptr (N+n) 0])
  (hy:wK (fun x B=>S B++(U x++[.cells [.ptr p 0],.loop .ready none e ps a bb])) (fun x B=>S B++(UD x++[.cells [.ptr p 0],.loop .done (some J) e ps a bb])) (N+n+1) (qU v) (TOk v bl) f)
  (x:X) (A:List K5) (K:KJ)
  (hT:∀ τ,(cI f (TL v bl) x).2=true→K none e (S (gH v bl f x A).1.2++(U (cI f (TL v bl) x).1++(.cells [.ptr p 0]::.dead::τ))))
  (hD:∀ τ,(cI f (TL v bl) x).2=false→K (some J) e (S (gH v bl f x A).1.2++(UD (cI f (TL v bl) x).1++(.cells [.ptr p 0]::.dead::τ)))) :
  rK (K:=⟨K⟩) T (.rangeFunc (.t k) ps a bb) e (S A++(U x++[.cells [.ptr p 0]])):=by
 have hrun:=zE (XN hS U UD n hU hUD ok okD e ps a bb .ready .done none (some J)) hv hb hy (fun c h1 h2=>⟨h1,h2⟩) x A
 rw [vA] at hrun
 exact UY (A:=List Int) hS U UD n hU hUD J e k ps a bb 106 ek (cI f (TL v bl) x) (gH v bl f x A).1.2 x A hrun K hT hD
def H8 (_:List Int) (x:Unit):Unit×Bool:=(x,false)
theorem RB (l:List (List Int)):(cI H8 l ()).2=l.isEmpty:=by
 cases l<;>simp [cI,H8]
def HZ (v:Net) (bl:List Int) (A:List K5):List K5:=(gH v bl H8 () A).1.2
theorem EX {S:List K5→St} {v:Net} {b p m N:Nat} {bl:List Int} (hR:MemAt S (db v b m) (tEs v) p m N) (hv:Vd v) (hb:ButIs b bl) (A:List K5) :
  BZ T (.func 93 [] []) [.ptr p 0] (S A) (.bool !(aJ v bl).isEmpty) (S (HZ v bl A)):=by
 have hit:=RB (TL v bl)
 rw [OI hv] at hit
 refine y0 hR (af:=a93) rfl (by simp [a93]) ?_
 (repeat (first|simp only [↓QA,QB,Nat.reduceLT,reduceIte,Nat.reduceEqDiff,Nat.reduceAdd,Nat.reduceLeDiff,Nat.reduceMul,Nat.reduceBEq,mC,hR.len,hR.base,hR.base0,hR.bset,hR.bset0,hR.at1,hR.at0,a93]|refine rd0 rfl ?_))
 refine tA rfl (by simp [a80]) ?_
 (repeat (first|simp only [↓QA,QB,Nat.reduceLT,reduceIte,Nat.reduceEqDiff,Nat.reduceAdd,Nat.reduceLeDiff,Nat.reduceMul,Nat.reduceBEq,mC,hR.len,hR.base,hR.base0,hR.bset,hR.bset0,hR.at1,hR.at0,a80]|refine rd0 rfl ?_))
 refine oJ hR hv hb (fun _:Unit=>[.cells [.bool false]]) (fun _=>[.cells [.bool true]]) 1 (fun _=>rfl) (fun _=>rfl) (fun _ y hy k _=>by simp at hy;subst hy;simp [aL,okVs,okV]) (fun _ y hy k _=>by simp at hy;subst hy;simp [aL,okVs,okV]) .ret (f:=H8) _ 4 [5,6] _ _ ?_ ?_ () A _ ?_ ?_
 ·try simp only [aE,QE,Nat.reduceLT,reduceIte,Nat.reduceEqDiff,Nat.reduceAdd,Nat.reduceLeDiff,Nat.reduceMul,Nat.reduceBEq,mC,hR.len,hR.base,hR.base0,hR.bset,hR.bset0,hR.at1,hR.at0]
 ·refine RC hR _ _ 1 (fun _=>rfl) (fun _=>rfl) .ret _ _ (qU v) (fun _ _ _=>rfl) _ _ ?_
  intro t _ fl tk x A' τ
  simp only [lZ,qU]
  (repeat (first|simp only [↓QA,QB,Nat.reduceLT,reduceIte,Nat.reduceEqDiff,Nat.reduceAdd,Nat.reduceLeDiff,Nat.reduceMul,Nat.reduceBEq,mC,hR.len,hR.base,hR.base0,hR.bset,hR.bset0,hR.at1,hR.at0,aA9,H8]|refine rd0 rfl ?_))
  exact .inr ⟨[],by simp⟩
 ·intro τ h2
  rw [hit] at h2
  (repeat (first|simp only [↓QA,QB,Nat.reduceLT,reduceIte,Nat.reduceEqDiff,Nat.reduceAdd,Nat.reduceLeDiff,Nat.reduceMul,Nat.reduceBEq,mC,hR.len,hR.base,hR.base0,hR.bset,hR.bset0,hR.at1,hR.at0,h2]|refine rd0 rfl ?_))
  refine ⟨_,_,rfl,rfl,?_⟩
  try simp only [QS,QC,Nat.reduceLT,reduceIte,Nat.reduceEqDiff,Nat.reduceAdd,Nat.reduceLeDiff,Nat.reduceMul,Nat.reduceBEq,mC,hR.len,hR.base,hR.base0,hR.bset,hR.bset0,hR.at1,hR.at0]
 ·intro τ h2
  rw [hit] at h2
  (repeat (first|simp only [↓QA,QB,Nat.reduceLT,reduceIte,Nat.reduceEqDiff,Nat.reduceAdd,Nat.reduceLeDiff,Nat.reduceMul,Nat.reduceBEq,mC,hR.len,hR.base,hR.base0,hR.bset,hR.bset0,hR.at1,hR.at0,h2]|refine rd0 rfl ?_))
  refine ⟨_,_,rfl,rfl,?_⟩
  try simp only [QS,QC,Nat.reduceLT,reduceIte,Nat.reduceEqDiff,Nat.reduceAdd,Nat.reduceLeDiff,Nat.reduceMul,Nat.reduceBEq,mC,hR.len,hR.base,hR.base0,hR.bset,hR.bset0,hR.at1,hR.at0]
end Go.Am.Room
