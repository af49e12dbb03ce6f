/- A part of the proof of TramMoved: an abstract machine, or what functions come to on it. -/
import Derived.Test.YtnjlkiflililkaaTramMovedQ3
set_option linter.unusedVariables false
set_option linter.unusedSimpArgs false
set_option linter.defProp false
set_option maxRecDepth 4000
namespace Go.Am.Room
def aR:=And.intro @bD (And.intro @aI (And.intro @aX (And.intro @aW (And.intro @aV (And.intro @aS (And.intro @bC (And.intro @a9 (@aZ))))))))
def pA (x:Int×Int×Int):AV:=.tuple [.int .i64 x.1,.int .i64 x.2.1,.int .i64 x.2.2]
theorem PD (v:Net) (t:Tram) (hst:2≤v.stations∧v.stations≤5) (hnr:v.rails.length≤5):dY T 76 [bX v,cV t] (.int .i64 (f9 v t)):=by
 refine bA (af:=a76) rfl (by simp [a76]) dd ?_
 (repeat (first|simp only [↓QA,QB,Nat.reduceLT,reduceIte,Nat.reduceEqDiff,Nat.reduceAdd,Nat.reduceLeDiff,Nat.reduceMul,Nat.reduceBEq,aR,a76]|refine rd0 rfl ?_))
 ((first|refine aE (j7 v t.frm hst) rfl dd ?_|refine aF (j7 v t.frm hst) rfl dd ?_);(repeat (first|simp only [↓QA,QB,Nat.reduceLT,reduceIte,Nat.reduceEqDiff,Nat.reduceAdd,Nat.reduceLeDiff,Nat.reduceMul,Nat.reduceBEq,aR]|refine rd0 rfl ?_)))
 cases h1:mD v t.frm
 ·(repeat (first|simp only [↓QA,QB,Nat.reduceLT,reduceIte,Nat.reduceEqDiff,Nat.reduceAdd,Nat.reduceLeDiff,Nat.reduceMul,Nat.reduceBEq,aR]|refine rd0 rfl ?_))
  simp [f9,h1]
 ·(repeat (first|simp only [↓QA,QB,Nat.reduceLT,reduceIte,Nat.reduceEqDiff,Nat.reduceAdd,Nat.reduceLeDiff,Nat.reduceMul,Nat.reduceBEq,aR]|refine rd0 rfl ?_))
  ((first|refine aE (gA t.leaves 0 60) rfl dd ?_|refine aF (gA t.leaves 0 60) rfl dd ?_);(repeat (first|simp only [↓QA,QB,Nat.reduceLT,reduceIte,Nat.reduceEqDiff,Nat.reduceAdd,Nat.reduceLeDiff,Nat.reduceMul,Nat.reduceBEq,aR]|refine rd0 rfl ?_)))
  cases h2:inR t.leaves 0 60
  ·(repeat (first|simp only [↓QA,QB,Nat.reduceLT,reduceIte,Nat.reduceEqDiff,Nat.reduceAdd,Nat.reduceLeDiff,Nat.reduceMul,Nat.reduceBEq,aR]|refine rd0 rfl ?_))
   simp [f9,h1,h2]
  ·(repeat (first|simp only [↓QA,QB,Nat.reduceLT,reduceIte,Nat.reduceEqDiff,Nat.reduceAdd,Nat.reduceLeDiff,Nat.reduceMul,Nat.reduceBEq,aR]|refine rd0 rfl ?_))
   ((first|refine aE (gA t.due 0 400) rfl dd ?_|refine aF (gA t.due 0 400) rfl dd ?_);(repeat (first|simp only [↓QA,QB,Nat.reduceLT,reduceIte,Nat.reduceEqDiff,Nat.reduceAdd,Nat.reduceLeDiff,Nat.reduceMul,Nat.reduceBEq,aR]|refine rd0 rfl ?_)))
   cases h3:inR t.due 0 400
   ·(repeat (first|simp only [↓QA,QB,Nat.reduceLT,reduceIte,Nat.reduceEqDiff,Nat.reduceAdd,Nat.reduceLeDiff,Nat.reduceMul,Nat.reduceBEq,aR]|refine rd0 rfl ?_))
    simp [f9,h1,h2,h3]
   ·(repeat (first|simp only [↓QA,QB,Nat.reduceLT,reduceIte,Nat.reduceEqDiff,Nat.reduceAdd,Nat.reduceLeDiff,Nat.reduceMul,Nat.reduceBEq,aR]|refine rd0 rfl ?_))
    ((first|refine aE (gA t.path.length 1 4) rfl dd ?_|refine aF (gA t.path.length 1 4) rfl dd ?_);(repeat (first|simp only [↓QA,QB,Nat.reduceLT,reduceIte,Nat.reduceEqDiff,Nat.reduceAdd,Nat.reduceLeDiff,Nat.reduceMul,Nat.reduceBEq,aR]|refine rd0 rfl ?_)))
    cases h4:inR t.path.length 1 4
    ·(repeat (first|simp only [↓QA,QB,Nat.reduceLT,reduceIte,Nat.reduceEqDiff,Nat.reduceAdd,Nat.reduceLeDiff,Nat.reduceMul,Nat.reduceBEq,aR]|refine rd0 rfl ?_))
     simp [f9,h1,h2,h3,h4]
    ·have hpl:=eK.1 h4
     have hwl:IntKind.i64.wrap ((v.rails.length:Int)-1)=(v.rails.length:Int)-1:=eO ⟨by omega,by omega⟩
     obtain ⟨q,hq⟩:∃ q:Int→Bool,(fun r=>inR r 0 ((v.rails.length:Int)-1))=q:=⟨_,rfl⟩
     have hqr:∀ r,inR r 0 ((v.rails.length:Int)-1)=q r:=fun r=>by rw [←hq]
     have hE:f9 v t=if t.path.all q=false then 4 else if d4 v t.frm t.path=false then 2 else 0:=by
      rw [f9,if_neg (by simp [h1]),if_neg (by simp [h2,h3]),if_neg (by simp [h4]),hq]
     rw [hE]
     (repeat (first|simp only [↓QA,QB,Nat.reduceLT,reduceIte,Nat.reduceEqDiff,Nat.reduceAdd,Nat.reduceLeDiff,Nat.reduceMul,Nat.reduceBEq,aR]|refine rd0 rfl ?_))
     refine bY (S:=Nat) 0 (fun k=>k≤t.path.length∧(t.path.drop k).all q=t.path.all q) (fun k=>t.path.length-k)
      (fun k=>[(2,.ptr 0 0),(3,.ptr 1 0),(5,.int .i64 k)]) (fun _=>[.cells (aB v),.cells [.str t.name,.int .i64 t.frm,.int .i64 t.leaves,.int .i64 t.due,ints t.path]]) ⟨by simp,by simp⟩ (by simp [aB,ints]) ?_ fun k hk=>?_
     ·try simp only [aC,QE,Nat.reduceLT,reduceIte,Nat.reduceEqDiff,Nat.reduceAdd,Nat.reduceLeDiff,Nat.reduceMul,Nat.reduceBEq,aR]
      try simp
     ·obtain ⟨hk,hb⟩:=hk
      (repeat (first|simp only [↓QA,QB,Nat.reduceLT,reduceIte,Nat.reduceEqDiff,Nat.reduceAdd,Nat.reduceLeDiff,Nat.reduceMul,Nat.reduceBEq,aR,ZJ]|refine rd0 rfl ?_))
      refine aG (fun h=>?_) fun h=>?_
      ·have hk1:k<t.path.length:=by simpa using h
       have hw:=bV hk1 (by omega)
       rw [List.drop_eq_getElem_cons hk1,List.all_cons] at hb
       obtain ⟨r,hr⟩:∃ r,t.path[k]=r:=⟨_,rfl⟩
       rw [hr] at hb
       have hin:=gA r 0 ((v.rails.length:Int)-1)
       rw [hqr r] at hin
       (repeat (first|simp only [↓QA,QB,Nat.reduceLT,reduceIte,Nat.reduceEqDiff,Nat.reduceAdd,Nat.reduceLeDiff,Nat.reduceMul,Nat.reduceBEq,aR,hk1,hr,hwl]|refine rd0 rfl ?_))
       ((first|refine aE (hin) rfl dd ?_|refine aF (hin) rfl dd ?_);(repeat (first|simp only [↓QA,QB,Nat.reduceLT,reduceIte,Nat.reduceEqDiff,Nat.reduceAdd,Nat.reduceLeDiff,Nat.reduceMul,Nat.reduceBEq,aR,hk1,hr,hwl]|refine rd0 rfl ?_)))
       cases h5:q r
       ·rw [h5,Bool.false_and] at hb
        (repeat (first|simp only [↓QA,QB,Nat.reduceLT,reduceIte,Nat.reduceEqDiff,Nat.reduceAdd,Nat.reduceLeDiff,Nat.reduceMul,Nat.reduceBEq,aR,←hb]|refine rd0 rfl ?_))
       ·rw [h5,Bool.true_and] at hb
        (repeat (first|simp only [↓QA,QB,Nat.reduceLT,reduceIte,Nat.reduceEqDiff,Nat.reduceAdd,Nat.reduceLeDiff,Nat.reduceMul,Nat.reduceBEq,aR,hw]|refine rd0 rfl ?_))
        refine ⟨k+1,⟨by omega,hb⟩,by omega,?_⟩
        try simp only [aC,QE,Nat.reduceLT,reduceIte,Nat.reduceEqDiff,Nat.reduceAdd,Nat.reduceLeDiff,Nat.reduceMul,Nat.reduceBEq,aR,hw]
        try simp [aJ]
      ·have hk1:k=t.path.length:=by simp at h;omega
       rw [hk1,List.drop_length,List.all_nil] at hb
       have hp:∀ r∈t.path,0≤r∧r<v.rails.length:=fun r hr=>by
        have:=List.all_eq_true.1 hb.symm r hr
        rw [←hqr,eK] at this
        omega
       (repeat (first|simp only [↓QA,QB,Nat.reduceLT,reduceIte,Nat.reduceEqDiff,Nat.reduceAdd,Nat.reduceLeDiff,Nat.reduceMul,Nat.reduceBEq,aR]|refine rd0 rfl ?_))
       ((first|refine aE (xB v t.frm t.path hp (by omega)) rfl dd ?_|refine aF (xB v t.frm t.path hp (by omega)) rfl dd ?_);(repeat (first|simp only [↓QA,QB,Nat.reduceLT,reduceIte,Nat.reduceEqDiff,Nat.reduceAdd,Nat.reduceLeDiff,Nat.reduceMul,Nat.reduceBEq,aR]|refine rd0 rfl ?_)))
       cases h6:d4 v t.frm t.path
       ·(repeat (first|simp only [↓QA,QB,Nat.reduceLT,reduceIte,Nat.reduceEqDiff,Nat.reduceAdd,Nat.reduceLeDiff,Nat.reduceMul,Nat.reduceBEq,aR,←hb]|refine rd0 rfl ?_))
        rfl
       ·(repeat (first|simp only [↓QA,QB,Nat.reduceLT,reduceIte,Nat.reduceEqDiff,Nat.reduceAdd,Nat.reduceLeDiff,Nat.reduceMul,Nat.reduceBEq,aR,←hb]|refine rd0 rfl ?_))
        rfl
theorem JI {k:Nat} {ns:List ByteArray} {s:ByteArray} {b:ABlk} {ex:Bool} {τ:St} (hk:ns.length=k) (hn:k<16):cZ 1 16 (b::.tok 1 k ex::τ) (.lit (ns.map .str) false (some 1)) (.lit [.str s] true none)=some (.lit ((ns++[s]).map .str) false (some 1),b::.tok 1 (k+1) true::τ):=by
 rw [vY (ex:=ex) ⟨oT 1 _ ns (fun x=>YT _),by simp [aL,AV.cells,AV.cell],by simp [room,hk];omega,by simp [room,hk];omega⟩ (by simp) (by simp [hk])]
 simp [hk]
theorem OE {v:Net} {k:Nat} (h:k<v.trams.length):(v.trams.take (k+1)).map Tram.name=(v.trams.take k).map Tram.name++[v.trams[k].name]:=by
 rw [List.take_succ_eq_append_getElem h,List.map_append];rfl
theorem yF (v:Net) (h:Fits v):dY T 18 [bX v] (pA (dL v)):=by
 refine bA (af:=a18) rfl (by simp [a18]) dd ?_
 have hfr:=h.rails
 have hft:=h.trams
 have hfs:=h.seen
 (repeat (first|simp only [↓QA,QB,Nat.reduceLT,reduceIte,Nat.reduceEqDiff,Nat.reduceAdd,Nat.reduceLeDiff,Nat.reduceMul,Nat.reduceBEq,aR,a18]|refine rd0 rfl ?_))
 ((first|refine aE (gA v.stations 2 5) rfl dd ?_|refine aF (gA v.stations 2 5) rfl dd ?_);(repeat (first|simp only [↓QA,QB,Nat.reduceLT,reduceIte,Nat.reduceEqDiff,Nat.reduceAdd,Nat.reduceLeDiff,Nat.reduceMul,Nat.reduceBEq,aR]|refine rd0 rfl ?_)))
 cases h1:inR v.stations 2 5
 ·(repeat (first|simp only [↓QA,QB,Nat.reduceLT,reduceIte,Nat.reduceEqDiff,Nat.reduceAdd,Nat.reduceLeDiff,Nat.reduceMul,Nat.reduceBEq,aR]|refine rd0 rfl ?_))
  simp [dL,h1,pA]
 ·have hst:=eK.1 h1
  have hc:dL v=oQ v:=by simp only [dL,h1,Bool.true_eq_false,if_false]
  rw [hc]
  (repeat (first|simp only [↓QA,QB,Nat.reduceLT,reduceIte,Nat.reduceEqDiff,Nat.reduceAdd,Nat.reduceLeDiff,Nat.reduceMul,Nat.reduceBEq,aR]|refine rd0 rfl ?_))
  cases h2:decide ((5:Int)<(v.rails.length:Int))
  case' true =>
   have h2':5<v.rails.length:=by first|(have:=of_decide_eq_false h2;omega)|(have:=of_decide_eq_true h2;omega)
   (repeat (first|simp only [↓QA,QB,Nat.reduceLT,reduceIte,Nat.reduceEqDiff,Nat.reduceAdd,Nat.reduceLeDiff,Nat.reduceMul,Nat.reduceBEq,aR]|refine rd0 rfl ?_))
   simp [oQ,h2',pA]
  have h2':¬5<v.rails.length:=by first|(have:=of_decide_eq_false h2;omega)|(have:=of_decide_eq_true h2;omega)
  have hc:oQ v=match bN (fun _ r=>cW v r) v.rails 0 with|some (i,e)=>(2,(i:Int),e)|none=>oS v:=by simp only [oQ,h2',if_false];try rfl
  rw [hc]
  (repeat (first|simp only [↓QA,QB,Nat.reduceLT,reduceIte,Nat.reduceEqDiff,Nat.reduceAdd,Nat.reduceLeDiff,Nat.reduceMul,Nat.reduceBEq,aR]|refine rd0 rfl ?_))
  refine bY (S:=Nat) 0 (fun k=>k≤v.rails.length∧bN (fun _ r=>cW v r) (v.rails.drop k) k=bN (fun _ r=>cW v r) v.rails 0) (fun k=>v.rails.length-k)
   (fun k=>[(1,.ptr 0 0),(5,.int .i64 k)]) (fun _=>[.cells (aB v)]) ⟨Nat.zero_le _,by simp⟩ (by simp [aB,ints]) ?_ fun k hs=>?_
  ·try simp only [aC,QE,Nat.reduceLT,reduceIte,Nat.reduceEqDiff,Nat.reduceAdd,Nat.reduceLeDiff,Nat.reduceMul,Nat.reduceBEq,aR]
   try simp
  ·obtain ⟨hk,hb⟩:=hs
   (repeat (first|simp only [↓QA,QB,Nat.reduceLT,reduceIte,Nat.reduceEqDiff,Nat.reduceAdd,Nat.reduceLeDiff,Nat.reduceMul,Nat.reduceBEq,aR,XU]|refine rd0 rfl ?_))
   refine aG (fun hd=>?_) fun hd=>?_
   ·have hk1:k<v.rails.length:=by simpa using hd
    rw [iN hk1] at hb
    have hw:=bV hk1 hfr
    obtain ⟨z,hz⟩:∃ z,v.rails[k]=z:=⟨_,rfl⟩
    rw [hz] at hb
    have hra:=O1 v z hst
    obtain ⟨E,hE⟩:∃ E,cW v z=E:=⟨_,rfl⟩
    rw [hE] at hb hra
    (repeat (first|simp only [↓QA,QB,Nat.reduceLT,reduceIte,Nat.reduceEqDiff,Nat.reduceAdd,Nat.reduceLeDiff,Nat.reduceMul,Nat.reduceBEq,aR,hk1,hz]|refine rd0 rfl ?_))
    ((first|refine aE (hra) rfl dd ?_|refine aF (hra) rfl dd ?_);(repeat (first|simp only [↓QA,QB,Nat.reduceLT,reduceIte,Nat.reduceEqDiff,Nat.reduceAdd,Nat.reduceLeDiff,Nat.reduceMul,Nat.reduceBEq,aR,hk1,hz]|refine rd0 rfl ?_)))
    cases hf:(E==0)
    ·have hf':E≠0:=by simpa using hf
     rw [if_neg hf'] at hb
     rw [←hb]
     (repeat (first|simp only [↓QA,QB,Nat.reduceLT,reduceIte,Nat.reduceEqDiff,Nat.reduceAdd,Nat.reduceLeDiff,Nat.reduceMul,Nat.reduceBEq,aR,hf]|refine rd0 rfl ?_))
     rfl
    ·have hf':E=0:=by simpa using hf
     rw [if_pos hf'] at hb
     (repeat (first|simp only [↓QA,QB,Nat.reduceLT,reduceIte,Nat.reduceEqDiff,Nat.reduceAdd,Nat.reduceLeDiff,Nat.reduceMul,Nat.reduceBEq,aR,hf,hw]|refine rd0 rfl ?_))
     refine ⟨k+1,⟨by omega,hb⟩,by omega,?_⟩
     try simp only [aC,QE,Nat.reduceLT,reduceIte,Nat.reduceEqDiff,Nat.reduceAdd,Nat.reduceLeDiff,Nat.reduceMul,Nat.reduceBEq,aR,hw]
     try simp [aJ]
   ·have hk1:k=v.rails.length:=by simp at hd;omega
    rw [jB hk1] at hb
    rw [←hb]
    (repeat (first|simp only [↓QA,QB,Nat.reduceLT,reduceIte,Nat.reduceEqDiff,Nat.reduceAdd,Nat.reduceLeDiff,Nat.reduceMul,Nat.reduceBEq,aR]|refine rd0 rfl ?_))
    cases h6:decide ((3:Int)<(v.trams.length:Int))
    case' true =>
     have h6':3<v.trams.length:=by first|(have:=of_decide_eq_false h6;omega)|(have:=of_decide_eq_true h6;omega)
     (repeat (first|simp only [↓QA,QB,Nat.reduceLT,reduceIte,Nat.reduceEqDiff,Nat.reduceAdd,Nat.reduceLeDiff,Nat.reduceMul,Nat.reduceBEq,aR]|refine rd0 rfl ?_))
     simp [oS,h6',pA]
    have h6':¬3<v.trams.length:=by first|(have:=of_decide_eq_false h6;omega)|(have:=of_decide_eq_true h6;omega)
    have hc:oS v=match bN (jF v) v.trams 0 with|some (i,e)=>(3,(i:Int),e)|none=>oX v:=by simp only [oS,h6',if_false];try rfl
    rw [hc]
    (repeat (first|simp only [↓QA,QB,Nat.reduceLT,reduceIte,Nat.reduceEqDiff,Nat.reduceAdd,Nat.reduceLeDiff,Nat.reduceMul,Nat.reduceBEq,aR]|refine rd0 rfl ?_))
    refine jP 7 1 [] rfl ?_
    refine bY (S:=Nat×Bool) (0,false) (fun s=>s.1≤v.trams.length∧bN (jF v) (v.trams.drop s.1) s.1=bN (jF v) v.trams 0) (fun s=>v.trams.length-s.1)
     (fun s=>[(1,.ptr 0 0),(7,.lit (((v.trams.take s.1).map Tram.name).map .str) false (some 1)),(8,.int .i64 s.1)]) (fun s=>[.cells (aB v),.tok 1 s.1 s.2]) ⟨Nat.zero_le _,by simp⟩ (by simp [aB,ints]) ?_ fun s hs=>?_
    ·try simp only [aC,QE,Nat.reduceLT,reduceIte,Nat.reduceEqDiff,Nat.reduceAdd,Nat.reduceLeDiff,Nat.reduceMul,Nat.reduceBEq,aR]
     try simp
    ·obtain ⟨k,ex⟩:=s
     obtain ⟨hk,hb⟩:=hs
     simp only at hk hb
     have hlen:((v.trams.take k).map Tram.name).length=k:=by simp [hk]
     (repeat (first|simp only [↓QA,QB,Nat.reduceLT,reduceIte,Nat.reduceEqDiff,Nat.reduceAdd,Nat.reduceLeDiff,Nat.reduceMul,Nat.reduceBEq,aR,X6]|refine rd0 rfl ?_))
     refine aG (fun hd=>?_) fun hd=>?_
     ·have hk1:k<v.trams.length:=by simpa using hd
      rw [iN hk1] at hb
      have hw:=bV hk1 hft
      have hap:=fun (τ:St)=>JI (k:=k) (ns:=(v.trams.take k).map Tram.name) (s:=v.trams[k].name) (b:=.cells (aB v)) (ex:=ex) (τ:=τ) hlen (by omega)
      simp only [aI] at hap
      have hset:jF v k v.trams[k]=if fresh v.trams[k].name ((v.trams.take k).map Tram.name)=0 then f9 v v.trams[k] else fresh v.trams[k].name ((v.trams.take k).map Tram.name):=rfl
      have hfre:=R7 v.trams[k].name ((v.trams.take k).map Tram.name) (h.names _ (List.getElem_mem hk1)) (by rw [hlen];omega)
      have htn:=OE hk1
      obtain ⟨p,hpe⟩:∃ p,v.trams[k]=p:=⟨_,rfl⟩
      rw [hpe] at hset hap hb htn hfre
      obtain ⟨F,hF⟩:∃ F,fresh p.name ((v.trams.take k).map Tram.name)=F:=⟨_,rfl⟩
      rw [hF] at hset hfre
      have htr:=PD v p hst (by omega)
      obtain ⟨E,hE⟩:∃ E,f9 v p=E:=⟨_,rfl⟩
      rw [hE] at htr hset
      (repeat (first|simp only [↓QA,QB,Nat.reduceLT,reduceIte,Nat.reduceEqDiff,Nat.reduceAdd,Nat.reduceLeDiff,Nat.reduceMul,Nat.reduceBEq,aR,hk1,hpe]|refine rd0 rfl ?_))
      ((first|refine s7 (hfre) (by try simp only [QS,QC,Nat.reduceLT,reduceIte,Nat.reduceEqDiff,Nat.reduceAdd,Nat.reduceLeDiff,Nat.reduceMul,Nat.reduceBEq,aR]) trivial ?_|refine wF (hfre) (by try simp only [QS,QC,Nat.reduceLT,reduceIte,Nat.reduceEqDiff,Nat.reduceAdd,Nat.reduceLeDiff,Nat.reduceMul,Nat.reduceBEq,aR]) trivial ?_);(repeat (first|simp only [↓QA,QB,Nat.reduceLT,reduceIte,Nat.reduceEqDiff,Nat.reduceAdd,Nat.reduceLeDiff,Nat.reduceMul,Nat.reduceBEq,aR,hk1,hpe,hap]|refine rd0 rfl ?_)))
      cases hf:(F==0)
      ·have hf':F≠0:=by simpa using hf
       rw [if_neg hf'] at hset
       rw [hset,if_neg hf'] at hb
       rw [←hb]
       (repeat (first|simp only [↓QA,QB,Nat.reduceLT,reduceIte,Nat.reduceEqDiff,Nat.reduceAdd,Nat.reduceLeDiff,Nat.reduceMul,Nat.reduceBEq,aR,hf]|refine rd0 rfl ?_))
       rfl
      ·have hf':F=0:=by simpa using hf
       rw [if_pos hf'] at hset
       rw [hset] at hb
       (repeat (first|simp only [↓QA,QB,Nat.reduceLT,reduceIte,Nat.reduceEqDiff,Nat.reduceAdd,Nat.reduceLeDiff,Nat.reduceMul,Nat.reduceBEq,aR,hf,hk1,hpe]|refine rd0 rfl ?_))
       ((first|refine aE (htr) rfl dd ?_|refine aF (htr) rfl dd ?_);(repeat (first|simp only [↓QA,QB,Nat.reduceLT,reduceIte,Nat.reduceEqDiff,Nat.reduceAdd,Nat.reduceLeDiff,Nat.reduceMul,Nat.reduceBEq,aR,hk1,hpe]|refine rd0 rfl ?_)))
       cases h9:(E==0)
       ·have h9':E≠0:=by simpa using h9
        rw [if_neg h9'] at hb
        (repeat (first|simp only [↓QA,QB,Nat.reduceLT,reduceIte,Nat.reduceEqDiff,Nat.reduceAdd,Nat.reduceLeDiff,Nat.reduceMul,Nat.reduceBEq,aR,h9]|refine rd0 rfl ?_))
        rw [←hb]
        rfl
       ·have h9':E=0:=by simpa using h9
        rw [if_pos h9'] at hb
        (repeat (first|simp only [↓QA,QB,Nat.reduceLT,reduceIte,Nat.reduceEqDiff,Nat.reduceAdd,Nat.reduceLeDiff,Nat.reduceMul,Nat.reduceBEq,aR,h9,hw]|refine rd0 rfl ?_))
        refine ⟨(k+1,true),⟨by simp only;omega,hb⟩,by simp only;omega,?_⟩
        try simp only [aC,QE,Nat.reduceLT,reduceIte,Nat.reduceEqDiff,Nat.reduceAdd,Nat.reduceLeDiff,Nat.reduceMul,Nat.reduceBEq,aR,htn,hw]
        try simp [aJ]
     ·have hk1:k=v.trams.length:=by simp at hd;omega
      rw [jB hk1] at hb
      rw [←hb,hk1]
      (repeat (first|simp only [↓QA,QB,Nat.reduceLT,reduceIte,Nat.reduceEqDiff,Nat.reduceAdd,Nat.reduceLeDiff,Nat.reduceMul,Nat.reduceBEq,aR]|refine rd0 rfl ?_))
      cases h7:decide ((3:Int)<(v.seen.length:Int))
      case' true =>
       have h7':3<v.seen.length:=by first|(have:=of_decide_eq_false h7;omega)|(have:=of_decide_eq_true h7;omega)
       (repeat (first|simp only [↓QA,QB,Nat.reduceLT,reduceIte,Nat.reduceEqDiff,Nat.reduceAdd,Nat.reduceLeDiff,Nat.reduceMul,Nat.reduceBEq,aR]|refine rd0 rfl ?_))
       simp [oX,h7',pA]
      have h7':¬3<v.seen.length:=by first|(have:=of_decide_eq_false h7;omega)|(have:=of_decide_eq_true h7;omega)
      have hc:oX v=match bN (jV v) v.seen 0 with|some (i,e)=>(4,(i:Int),e)|none=>(0,0,0):=by simp only [oX,h7',if_false];try rfl
      rw [hc]
      have hwl:IntKind.i64.wrap ((v.trams.length:Int)-1)=(v.trams.length:Int)-1:=eO ⟨by omega,by omega⟩
      (repeat (first|simp only [↓QA,QB,Nat.reduceLT,reduceIte,Nat.reduceEqDiff,Nat.reduceAdd,Nat.reduceLeDiff,Nat.reduceMul,Nat.reduceBEq,aR]|refine rd0 rfl ?_))
      refine bY (S:=Nat) 0 (fun k=>k≤v.seen.length∧bN (jV v) (v.seen.drop k) k=bN (jV v) v.seen 0) (fun k=>v.seen.length-k)
       (fun k=>[(1,.ptr 0 0),(10,.int .i64 k)]) (fun _=>[.cells (aB v),.tok 1 v.trams.length ex]) ⟨Nat.zero_le _,by simp⟩ (by simp [aB,ints]) ?_ fun m hm=>?_
      ·try simp only [aC,QE,Nat.reduceLT,reduceIte,Nat.reduceEqDiff,Nat.reduceAdd,Nat.reduceLeDiff,Nat.reduceMul,Nat.reduceBEq,aR]
       try simp
      ·obtain ⟨hm,hbm⟩:=hm
       (repeat (first|simp only [↓QA,QB,Nat.reduceLT,reduceIte,Nat.reduceEqDiff,Nat.reduceAdd,Nat.reduceLeDiff,Nat.reduceMul,Nat.reduceBEq,aR,XZ]|refine rd0 rfl ?_))
       refine aG (fun hd3=>?_) fun hd3=>?_
       ·have hm1:m<v.seen.length:=by simpa using hd3
        rw [iN hm1] at hbm
        have hw3:=bV hm1 hfs
        obtain ⟨x,hx⟩:∃ x,v.seen[m]=x:=⟨_,rfl⟩
        rw [hx] at hbm
        have hle:jV v m x=if inR x.tram 0 ((v.trams.length:Int)-1)=false then 4 else if inR x.minute (-1) 400=false then 7 else 0:=rfl
        rw [hle] at hbm
        (repeat (first|simp only [↓QA,QB,Nat.reduceLT,reduceIte,Nat.reduceEqDiff,Nat.reduceAdd,Nat.reduceLeDiff,Nat.reduceMul,Nat.reduceBEq,aR,hm1,hx,hwl]|refine rd0 rfl ?_))
        ((first|refine aE (gA x.tram 0 ((v.trams.length:Int)-1)) rfl dd ?_|refine aF (gA x.tram 0 ((v.trams.length:Int)-1)) rfl dd ?_);(repeat (first|simp only [↓QA,QB,Nat.reduceLT,reduceIte,Nat.reduceEqDiff,Nat.reduceAdd,Nat.reduceLeDiff,Nat.reduceMul,Nat.reduceBEq,aR,hm1,hx,hwl]|refine rd0 rfl ?_)))
        cases hi:inR x.tram 0 ((v.trams.length:Int)-1)
        ·rw [hi] at hbm
         (repeat (first|simp only [↓QA,QB,Nat.reduceLT,reduceIte,Nat.reduceEqDiff,Nat.reduceAdd,Nat.reduceLeDiff,Nat.reduceMul,Nat.reduceBEq,aR,hm1]|refine rd0 rfl ?_))
         rw [←hbm]
         rfl
        ·rw [hi] at hbm
         simp only [Bool.true_eq_false,if_false] at hbm
         (repeat (first|simp only [↓QA,QB,Nat.reduceLT,reduceIte,Nat.reduceEqDiff,Nat.reduceAdd,Nat.reduceLeDiff,Nat.reduceMul,Nat.reduceBEq,aR,hm1,hx]|refine rd0 rfl ?_))
         ((first|refine aE (gA x.minute (-1) 400) rfl dd ?_|refine aF (gA x.minute (-1) 400) rfl dd ?_);(repeat (first|simp only [↓QA,QB,Nat.reduceLT,reduceIte,Nat.reduceEqDiff,Nat.reduceAdd,Nat.reduceLeDiff,Nat.reduceMul,Nat.reduceBEq,aR,hm1,hx]|refine rd0 rfl ?_)))
         cases hi2:inR x.minute (-1) 400
         ·rw [hi2] at hbm
          (repeat (first|simp only [↓QA,QB,Nat.reduceLT,reduceIte,Nat.reduceEqDiff,Nat.reduceAdd,Nat.reduceLeDiff,Nat.reduceMul,Nat.reduceBEq,aR,hm1]|refine rd0 rfl ?_))
          rw [←hbm]
          simp [pA]
         ·rw [hi2] at hbm
          (repeat (first|simp only [↓QA,QB,Nat.reduceLT,reduceIte,Nat.reduceEqDiff,Nat.reduceAdd,Nat.reduceLeDiff,Nat.reduceMul,Nat.reduceBEq,aR,hm1,hw3]|refine rd0 rfl ?_))
          refine ⟨m+1,⟨by omega,by rw [←hbm];rfl⟩,by omega,?_⟩
          try simp only [aC,QE,Nat.reduceLT,reduceIte,Nat.reduceEqDiff,Nat.reduceAdd,Nat.reduceLeDiff,Nat.reduceMul,Nat.reduceBEq,aR,hw3]
          try simp
       ·have hm1:m=v.seen.length:=by simp at hd3;omega
        rw [jB hm1] at hbm
        rw [←hbm]
        (repeat (first|simp only [↓QA,QB,Nat.reduceLT,reduceIte,Nat.reduceEqDiff,Nat.reduceAdd,Nat.reduceLeDiff,Nat.reduceMul,Nat.reduceBEq,aR]|refine rd0 rfl ?_))
        rfl
def fK (v:Net):List Int→Int→List Int→Option Int
 |[],s,_=>some s
 |r::l,s,met=>if s=0∨cY (c9 v r) s<0∨met.contains (cY (c9 v r) s)=true then none else fK v l (cY (c9 v r) s) (met++[cY (c9 v r) s])
def iQ (v:Net) (s:Int) (p:List Int):Bool:=match fK v p s [s] with|some o=>o==0&&!p.isEmpty|none=>false
def fB (v:Net) (s:Int) (p:List Int):Bool:=match fK v p s [s] with|some o=>!(o==0)|none=>false
theorem pV (v:Net):∀ (l:List Int) (s:Int) (met:List Int),s≠0→jY v l s met=(match fK v l s met with|some o=>o==0|none=>false)
 |[],s,met,h=>by simp [jY,fK]
 |r::l,s,met,h=>by
  simp only [jY,fK]
  obtain ⟨o,ho⟩:∃ o,cY (c9 v r) s=o:=⟨_,rfl⟩
  rw [ho]
  by_cases h1:o<0
  ·simp [h1]
  ·by_cases h2:met.contains o=true
   ·rw [if_pos (.inr (.inl h2)),if_pos (.inr (.inr h2))]
   ·by_cases h3:o=0
    ·subst h3
     rw [if_neg (show ¬(s=0∨(0:Int)<0∨met.contains 0=true) from fun q=>by rcases q with q|q|q;exact h q;omega;exact h2 q)]
     cases l with
     |nil=>rw [if_neg (by simp only [ne_eq,not_true_eq_false,and_false,or_false];exact fun q=>by rcases q with q|q;omega;exact h2 q)];simp [jY,fK]
     |cons x l=>rw [if_pos (.inr (.inr ⟨rfl,by simp⟩))];simp [fK]
    ·rw [if_neg (fun q=>by rcases q with q|q|q;exact h1 q;exact h2 q;exact h3 q.1),if_neg (fun q=>by rcases q with q|q|q;exact h q;exact h1 q;exact h2 q)]
     exact pV v l o _ h3
theorem xV {v:Net} {s:Int} {p:List Int} (h:1≤p.length∧p.length≤4):d4 v s p=iQ v s p:=by
 have h1:inR p.length 1 4=true:=eK.2 (by omega)
 have he:p.isEmpty=false:=by cases p<;>simp at h ⊢
 rw [d4,iQ,he]
 by_cases hs:s=0
 ·rw [if_pos (.inr hs),hs]
  cases p with
  |nil=>simp at he
  |cons x l=>simp [fK]
 ·rw [if_neg (by simp [h1,hs]),pV v p s [s] hs]
  cases fK v p s [s]<;>simp
theorem A3 (v:Net) (r:Int) (t:List Int):∀ (l:List Int) (s:Int) (met:List Int) (x:Int),fK v (l++r::t) s met=some x→∃ o,fK v l s met=some o∧o≠0
 |[],s,met,x,h=>by
  simp only [List.nil_append,fK] at h
  split at h
  ·cases h
  ·rename_i hn
   exact ⟨s,rfl,fun e=>hn (.inl e)⟩
 |y::l,s,met,x,h=>by
  simp only [List.cons_append,fK] at h ⊢
  split at h
  ·cases h
  ·rename_i hn
   rw [if_neg hn]
   exact A3 v r t l _ _ x h
theorem GK {r:Rail} {s:Int} (h:¬cY r s<0):(s=r.a∧cY r s=r.b)∨(s=r.b∧cY r s=r.a):=by
 unfold cY at h ⊢
 split
 ·rename_i h1;exact .inl ⟨h1,rfl⟩
 ·rename_i h1
  rw [if_neg h1] at h
  split
  ·rename_i h2;exact .inr ⟨h2,rfl⟩
  ·rename_i h2
   rw [if_neg h2] at h
   omega
theorem FY (v:Net) (r:Int):∀ (l:List Int) (s:Int) (met:List Int),(c9 v r).a∈met→(c9 v r).b∈met→r∈l→fK v l s met=none
 |[],s,met,_,_,h=>by cases h
 |y::l,s,met,ha,hb,h=>by
  simp only [fK]
  split
  ·rfl
  ·rename_i hn
   rcases List.mem_cons.1 h with rfl|h
   ·exfalso
    rw [not_or,not_or] at hn
    obtain ⟨h1,h2,h3⟩:=hn
    apply h3
    rw [List.contains_iff_mem]
    rcases GK h2 with ⟨_,e⟩|⟨_,e⟩<;>rw [e]<;>assumption
   ·exact FY v r l _ _ (List.mem_append_left _ ha) (List.mem_append_left _ hb) h
theorem qJ (v:Net):∀ (l:List Int) (s:Int) (met:List Int) (x:Int),s∈met→fK v l s met=some x→l.Nodup
 |[],s,met,x,_,_=>List.nodup_nil
 |y::l,s,met,x,hs,h=>by
  simp only [fK] at h
  split at h
  ·cases h
  ·rename_i hn
   rw [not_or,not_or] at hn
   obtain ⟨h1,h2,h3⟩:=hn
   have hm:cY (c9 v y) s∈met++[cY (c9 v y) s]:=by simp
   have hs':s∈met++[cY (c9 v y) s]:=List.mem_append_left _ hs
   refine List.nodup_cons.2 ⟨fun hy=>?_,qJ v l _ _ x hm h⟩
   have hab:(c9 v y).a∈met++[cY (c9 v y) s]∧(c9 v y).b∈met++[cY (c9 v y) s]:=by
    rcases GK h2 with ⟨e1,e2⟩|⟨e1,e2⟩
    ·rw [←e1,←e2];exact ⟨hs',hm⟩
    ·rw [←e1,←e2];exact ⟨hm,hs'⟩
   rw [FY v y l _ _ hab.1 hab.2 hy] at h
   cases h
def pE (b:Int):List Int:=if b<0 then [] else [b]
def u4 (v:Net) (b r:Int):Bool:=!(r==b)&&!decide ((c9 v r).shut=1)
def IA (v:Net) (b:Int) (l:List Int):List (List Int):=((aT 0 v.rails.length).filter (u4 v b)).map fun r=>l++[r]
def uA (v:Net) (s b:Int):Nat→List (List Int)
 |0=>[[]]
 |k+1=>(uA v s b k).flatMap fun l=>(IA v b l).filter (fB v s)
def E7 (v:Net) (s b:Int):Nat→List (List Int)
 |0=>[]
 |k+1=>E7 v s b k++(uA v s b k).flatMap fun l=>(IA v b l).filter (iQ v s)
theorem tN (v:Net) (but:List Int):∀ k,∀ l∈eD v but k,l.length=k
 |0,l,h=>by simp [eD] at h;simp [h]
 |k+1,l,h=>by
  simp only [eD,List.mem_flatMap,n8,List.mem_map] at h
  obtain ⟨a,ha,r,_,rfl⟩:=h
  simp [tN v but k a ha]
theorem mE {α β:Type} (p:β→Bool) (f:α→List β):∀ l:List α,(l.flatMap f).filter p=l.flatMap fun x=>(f x).filter p
 |[]=>rfl
 |x::l=>by rw [List.flatMap_cons,List.filter_append,mE p f l,List.flatMap_cons]
theorem mJ {α β:Type} (p:α→Bool) (f:α→List β):∀ l:List α,(l.filter p).flatMap f=l.flatMap fun x=>if p x=true then f x else []
 |[]=>rfl
 |x::l=>by
  rw [List.flatMap_cons,List.filter_cons,←mJ p f l]
  split<;>simp
theorem AX {v:Net} {s b:Int} {q:List Int→Bool} {l:List Int} (h:∀ r,q (l++[r])=true→fB v s l=true∧r∉l):(n8 v (pE b) l).filter q=if fB v s l=true then (IA v b l).filter q else []:=by
 have e:(n8 v (pE b) l).filter q=(IA v b l).filter q:=by
  simp only [n8,IA,List.filter_map,List.filter_filter]
  congr 1
  refine List.filter_congr fun r hr=>?_
  have hr0:=(cF _ _ _).1 hr
  simp only [Function.comp_def]
  cases hq:q (l++[r]) with
  |false=>simp
  |true =>
   have hc:l.contains r=false:=by rw [Bool.eq_false_iff,Ne,List.contains_iff_mem];exact (h r hq).2
   have hb:(pE b).contains r=(r==b):=by
    unfold pE
    split
    ·rw [Bool.eq_iff_iff];simp;omega
    ·rw [Bool.eq_iff_iff];simp
   simp only [pY,u4,hc,hb,Bool.true_and,Bool.not_false,Bool.and_true]
   rw [Bool.and_comm]
 rw [e]
 split
 ·rfl
 ·rename_i hb
  rw [List.filter_eq_nil_iff]
  intro x hx
  simp only [IA,List.mem_map] at hx
  obtain ⟨r,_,rfl⟩:=hx
  intro hq
  exact hb (h r hq).1
theorem KO {v:Net} {s:Int} {l:List Int} {r:Int} (h:fB v s (l++[r])=true):fB v s l=true∧r∉l:=by
 unfold fB at h
 split at h
 ·rename_i o ho
  obtain ⟨x,hx,h0⟩:=A3 v r [] l s [s] o ho
  refine ⟨by simp [fB,hx,h0],?_⟩
  have:=qJ v _ s [s] o (by simp) ho
  rw [List.nodup_append] at this
  intro hm
  exact this.2.2 r hm r (by simp) rfl
 ·cases h
theorem NM {v:Net} {s:Int} {l:List Int} {r:Int} (h:iQ v s (l++[r])=true):fB v s l=true∧r∉l:=by
 unfold iQ at h
 split at h
 ·rename_i o ho
  obtain ⟨x,hx,h0⟩:=A3 v r [] l s [s] o ho
  refine ⟨by simp [fB,hx,h0],?_⟩
  have:=qJ v _ s [s] o (by simp) ho
  rw [List.nodup_append] at this
  intro hm
  exact this.2.2 r hm r (by simp) rfl
 ·cases h
theorem vJ {v:Net} {s b:Int} (hs:s≠0):∀ k,uA v s b k=(eD v (pE b) k).filter (fB v s)
 |0=>by
  have h:fB v s []=true:=by simp [fB,fK,hs]
  simp only [uA,eD,List.filter_cons,h,if_true,List.filter_nil]
 |k+1=>by
  simp only [uA,eD]
  rw [vJ hs k,mE,mJ]
  congr 1
  funext l
  exact (AX fun r=>KO).symm
theorem EP {v:Net} {s b:Int} (hs:s≠0):∀ k,k≤4→E7 v s b k=dS v s (pE b) k
 |0,_=>rfl
 |k+1,hk=>by
  simp only [E7,dS,eD]
  rw [EP hs k (by omega),vJ hs k,mJ]
  congr 1
  have e:((eD v (pE b) k).flatMap (n8 v (pE b))).filter (d4 v s)=((eD v (pE b) k).flatMap (n8 v (pE b))).filter (iQ v s):=by
   refine List.filter_congr fun l hl=>?_
   have:=tN v (pE b) (k+1) l hl
   exact xV (by omega)
  rw [e,mE]
  congr 1
  funext l
  exact (AX fun r=>NM).symm
theorem NZ (v:Net) (but:List Int):cJ v 0 but=[]:=by
 have key:∀ k,dS v 0 but k=[]:=by
  intro k
  induction k with
  |zero=>rfl
  |succ k ih =>
   rw [dS,ih,List.nil_append,List.filter_eq_nil_iff]
   intro l _
   simp [d4]
 exact key 4
theorem aEX (v:Net) {s b:Int} (hs:s≠0):E7 v s b 4=cJ v s (pE b):=EP hs 4 (Nat.le_refl _)
def uK (ss:List Stay) (rail m s t:Int):Prop:=s≤t∧ss.any (iB rail t m)=false∧∀ y,s≤y→y<t→ss.any (iB rail y m)=true
theorem D9 {ss:List Stay} {rail m s t u:Int} (h:uK ss rail m s t) (k:uK ss rail m s u):t=u:=by
 obtain ⟨h1,h2,h3⟩:=h
 obtain ⟨k1,k2,k3⟩:=k
 by_cases a:t<u
 ·rw [k3 t h1 a] at h2;cases h2
 ·by_cases b:u<t
  ·rw [h3 u k1 b] at k2;cases k2
  ·omega
theorem xA {ss:List Stay} {rail m s B:Int} (hB:∀ x∈ss,x.til≤B) (h:ss.any (iB rail s m)=true):s<B:=by
 rw [List.any_eq_true] at h
 obtain ⟨x,hx,hc⟩:=h
 have:=hB x hx
 simp [iB] at hc
 omega
theorem DM {ss:List Stay} {rail m B:Int} (hB:∀ x∈ss,x.til≤B):∀ (k:Nat) (s:Int),B≤s+k→uK ss rail m s (uO ss rail m k s)
 |0,s,h=>⟨by simp [uO],by
   rw [uO,Bool.eq_false_iff]
   intro hc
   have:=xA hB hc
   omega,fun y h1 h2=>by simp [uO] at h2;omega⟩
 |k+1,s,h=>by
  rw [uO]
  split
  ·rename_i hc
   obtain ⟨h1,h2,h3⟩:=DM hB k (s+1) (by omega)
   refine ⟨by omega,h2,fun y q1 q2=>?_⟩
   by_cases e:y=s
   ·subst e;exact hc
   ·exact h3 y (by omega) q2
  ·rename_i hc
   exact ⟨Int.le_refl _,by simpa using hc,fun y q1 q2=>by omega⟩
theorem xR {ss:List Stay} {rail m B s:Int} (hB:∀ x∈ss,x.til≤B) (h:B≤s+1000):uK ss rail m s (jN ss rail s m):=DM hB 1000 s h
theorem W1 {ss:List Stay} {rail m B s t:Int} (hB:∀ x∈ss,x.til≤B) (h:uK ss rail m s t) (hs:s≤B):t≤B:=by
 by_cases e:s=t
 ·omega
 ·have h1:=h.1
  have:=xA hB (h.2.2 (t-1) (by omega) (by omega))
  omega
theorem J9 {rail m s:Int} {x:Stay} (h:iB rail s m x=true) {y:Int} (h1:s≤y) (h2:y<x.til):iB rail y m x=true:=by
 simp [iB] at h ⊢
 omega
theorem vX {rail m s:Int} {x:Stay} (h:iB rail s m x=true):s<x.til:=by
 simp [iB] at h
 omega
def qO (ss:List Stay) (rail m s t:Int):Prop:=s≤t∧∀ y,s≤y→y<t→ss.any (iB rail y m)=true
theorem DW (ss:List Stay) (rail m s:Int):qO ss rail m s s:=⟨Int.le_refl _,fun y h1 h2=>by omega⟩
theorem CP {ss:List Stay} {rail m s t u:Int} {x:Stay} (h:qO ss rail m s t) (hx:x∈ss) (ht:t≤u) (hc:iB rail u m x=true) (hm:∀ y,t≤y→y<u→ss.any (iB rail y m)=true):qO ss rail m s x.til:=by
 have:=vX hc
 refine ⟨by have:=h.1;omega,fun y h1 h2=>?_⟩
 by_cases a:y<t
 ·exact h.2 y h1 a
 ·by_cases b:y<u
  ·exact hm y (by omega) b
  ·rw [List.any_eq_true]
   exact ⟨x,hx,J9 hc (by omega) h2⟩
theorem DF {ss:List Stay} {rail m s t:Int} (h:qO ss rail m s t) (hf:ss.any (iB rail t m)=false):uK ss rail m s t:=⟨h.1,hf,h.2⟩
theorem y5 {ss:List Stay} {rail m B s t:Int} (hB:∀ x∈ss,x.til≤B) (h:qO ss rail m s t) (hs:s≤B):t≤B:=by
 by_cases e:s=t
 ·omega
 ·have h1:=h.1
  have:=xA hB (h.2 (t-1) (by omega) (by omega))
  omega
structure RunOk (v:Net) (ps:List (List Int)):Prop where
 len:ps.length=v.trams.length
 few:∀ p∈ps,p.length≤4
 rails:∀ p∈ps,∀ r∈p,0≤r∧r<v.rails.length
def BS (v:Net) (m:Int→Int):Prop:=∀ r:Int,0≤r→r<v.rails.length→0≤m r∧m r≤20
structure StaysOk (ss:List Stay) (n:Nat):Prop where
 len:ss.length≤n
 til:∀ x∈ss,x.til≤60+20*n
 frm:∀ x∈ss,0≤x.frm
theorem H9 {ss:List Stay} {n k:Nat} (h:StaysOk ss n) (hk:n≤k):StaysOk ss k:=⟨by have:=h.len;omega,fun x hx=>by have:=h.til x hx;omega,h.frm⟩
theorem E2 {ss:List Stay} {n:Nat} (h:StaysOk ss n) (hn:n≤40) {rail m s:Int} (h0:0≤s) (hs:s≤60+20*n):uK ss rail m s (jN ss rail s m)∧s≤jN ss rail s m∧jN ss rail s m≤60+20*n:=by
 have h1:=xR (rail:=rail) (m:=m) h.til (show (60:Int)+20*n≤s+1000 by omega)
 exact ⟨h1,h1.1,W1 h.til h1 hs⟩
theorem RB {m:Int→Int} {i:Int}:∀ (l:List Int) (a:Int) (ss:List Stay) (n:Nat),StaysOk ss n→n+l.length≤40→0≤a→a≤60+20*n→(∀ r∈l,0≤m r∧m r≤20) →
  StaysOk (mK m i l a ss).1 (n+l.length)∧a≤(mK m i l a ss).2∧(mK m i l a ss).2≤60+20*(n+l.length:Nat)
 |[],a,ss,n,h,hn,h0,h1,hm=>by simp only [mK,List.length_nil,Nat.add_zero];exact ⟨h,Int.le_refl _,h1⟩
 |r::l,a,ss,n,h,hn,h0,h1,hm=>by
  simp only [List.length_cons] at hn ⊢
  obtain ⟨f1,f2,f3⟩:=E2 (rail:=r) (m:=m r) h (by omega) h0 h1
  have hmr:=hm r (by simp)
  simp only [mK]
  obtain ⟨q1,q2,q3⟩:=RB (m:=m) (i:=i) l (jN ss r a (m r)+m r) (ss++[⟨i,r,jN ss r a (m r),jN ss r a (m r)+m r⟩]) (n+1) ⟨by have:=h.len;simp;omega,fun x hx=>by
   rcases List.mem_append.1 hx with hx|hx
   ·have:=h.til x hx;omega
   ·simp only [List.mem_singleton] at hx;subst hx;simp only;omega,fun x hx=>by
   rcases List.mem_append.1 hx with hx|hx
   ·exact h.frm x hx
   ·simp only [List.mem_singleton] at hx;subst hx;simp only;omega⟩ (by omega) (by omega) (by omega) (fun x hx=>hm x (by simp [hx]))
  rw [show n+(l.length+1)=n+1+l.length by omega]
  exact ⟨q1,by omega,q3⟩
theorem s9 {v:Net} {i:Nat} (h:i<v.trams.length):lT v i=v.trams[i].leaves:=by simp [lT,h]
theorem WG {m:Int→Int} {i a:Int} {l:List Int} {ss:List Stay} {n:Nat} (h:StaysOk ss n) (hn:n+l.length≤40) (h0:0≤a) (h1:a≤60) (hm:∀ r∈l,0≤m r∧m r≤20) :
  StaysOk (jZ m i a l ss).1 (n+l.length)∧-1≤(jZ m i a l ss).2∧(jZ m i a l ss).2≤60+20*(n+l.length:Nat):=by
 unfold jZ
 split
 ·exact ⟨H9 h (by omega),by simp only;omega,by simp only;omega⟩
 ·obtain ⟨q1,q2,q3⟩:=RB (i:=i) l a ss n h hn h0 (by omega) hm
  exact ⟨q1,by omega,q3⟩
theorem oE (v:Net) (m:Int→Int) (ps:List (List Int)):∀ k,(dP v m ps k).2.length=k
 |0=>rfl
 |k+1=>by simp [dP,oE v m ps k]
theorem A6 {v:Net} {ps:List (List Int)} (h:RunOk v ps) {i:Nat} (hi:i<v.trams.length):cH ps i∈ps:=by
 have:i<ps.length:=by rw [h.len];exact hi
 simp [cH,this]
theorem JR {v:Net} (hv:Vd v) {m:Int→Int} (hm:BS v m) {ps:List (List Int)} (hp:RunOk v ps):∀ k,k≤v.trams.length→StaysOk (dP v m ps k).1 (4*k)∧∀ c∈(dP v m ps k).2,-1≤c∧c≤300
 |0,_=>⟨⟨by simp [dP],by simp [dP],by simp [dP]⟩,by simp [dP]⟩
 |k+1,hk=>by
  have hn:=hv.ntr
  obtain ⟨h1,h2⟩:=JR hv hm hp k (by omega)
  have ht:=sD hv (show k<v.trams.length by omega)
  have hpm:=A6 hp (show k<v.trams.length by omega)
  have hpl:=hp.few _ hpm
  have h60:=ht.leaves
  rw [←s9 (show k<v.trams.length by omega)] at h60
  obtain ⟨q1,q2,q3⟩:=WG (m:=m) (i:=k) (a:=lT v k) (l:=cH ps k) h1 (by omega) h60.1 h60.2 (fun r hr=>by
   have:=hp.rails _ hpm r hr
   exact hm r this.1 this.2)
  simp only [dP]
  refine ⟨H9 q1 (by omega),fun c hc=>?_⟩
  rcases List.mem_append.1 hc with hc|hc
  ·exact h2 c hc
  ·simp only [List.mem_singleton] at hc
   subst hc
   omega
theorem TC {v:Net} (hv:Vd v):RunOk v (gR v):=by
 have key:∀ p∈gR v,p.length≤4∧∀ r∈p,0≤r∧r<v.rails.length:=by
  intro p hp
  simp only [gR,List.mem_map] at hp
  obtain ⟨t,ht,rfl⟩:=hp
  obtain ⟨i,hi,rfl⟩:=List.getElem_of_mem ht
  have:=sD hv hi
  exact ⟨this.len.2,this.path⟩
 exact ⟨by simp [gR],fun p hp=>(key p hp).1,fun p hp=>(key p hp).2⟩
theorem AZ:∀ (l:List Int) (s:Span),s.lo≤s.hi→(l.foldl lI s).lo≤s.lo∧s.hi≤(l.foldl lI s).hi∧(∀ x∈l,(l.foldl lI s).lo≤x∧x≤(l.foldl lI s).hi)∧((l.foldl lI s).lo=s.lo∨(l.foldl lI s).lo∈l)∧((l.foldl lI s).hi=s.hi∨(l.foldl lI s).hi∈l)
 |[],s,h=>⟨Int.le_refl _,Int.le_refl _,fun x hx=>by simp at hx,.inl rfl,.inl rfl⟩
 |y::l,s,h=>by
  have hj:(lI s y).lo≤(lI s y).hi:=by simp only [lI];omega
  obtain ⟨a,b,c,d,e⟩:=AZ l (lI s y) hj
  simp only [List.foldl_cons]
  have h1:(lI s y).lo≤s.lo∧(lI s y).lo≤y∧((lI s y).lo=s.lo∨(lI s y).lo=y):=by simp only [lI];omega
  have h2:s.hi≤(lI s y).hi∧y≤(lI s y).hi∧((lI s y).hi=s.hi∨(lI s y).hi=y):=by simp only [lI];omega
  refine ⟨by omega,by omega,fun x hx=>?_,?_,?_⟩
  ·rcases List.mem_cons.1 hx with rfl|hx
   ·omega
   ·exact c x hx
  ·rcases d with d|d
   ·rcases h1.2.2 with h|h
    ·left;omega
    ·right;rw [d,h];simp
   ·right;simp [d]
  ·rcases e with e|e
   ·rcases h2.2.2 with h|h
    ·left;omega
    ·right;rw [e,h];simp
   ·right;simp [e]
theorem pS {l:List Int} (h:l≠[]):(gI l).lo∈l∧(gI l).hi∈l∧∀ x∈l,(gI l).lo≤x∧x≤(gI l).hi:=by
 cases l with
 |nil=>exact absurd rfl h
 |cons x l =>
  obtain ⟨a,b,c,d,e⟩:=AZ l ⟨x,x⟩ (Int.le_refl _)
  simp only [gI]
  refine ⟨?_,?_,fun y hy=>?_⟩
  ·rcases d with d|d
   ·rw [d];simp
   ·simp [d]
  ·rcases e with e|e
   ·rw [e];simp
   ·simp [e]
  ·rcases List.mem_cons.1 hy with rfl|hy
   ·exact ⟨a,b⟩
   ·exact c y hy
theorem DC {l k:List Int} (hl:l≠[]) (h:∀ x∈l,x∈k):(gI k).lo≤(gI l).lo∧(gI l).hi≤(gI k).hi:=by
 have hk:k≠[]:=by
  intro e;subst e
  exact absurd (h _ (pS hl).1) (by simp)
 have a:=pS hl
 have b:=pS hk
 exact ⟨(b.2.2 _ (h _ a.1)).1,(b.2.2 _ (h _ a.2.1)).2⟩
theorem TM {l k:List Int} (h:∀ x,x∈l↔x∈k):gI l=gI k:=by
 by_cases hl:l=[]
 ·subst hl
  have:k=[]:=by
   cases k with
   |nil=>rfl
   |cons y k=>exact absurd ((h y).2 (by simp)) (by simp)
  rw [this]
 ·have hk:k≠[]:=by
   intro e;subst e
   exact absurd ((h _).1 (pS hl).1) (by simp)
  have a:=DC hl fun x hx=>(h x).1 hx
  have b:=DC hk fun x hx=>(h x).2 hx
  obtain ⟨p,q⟩:(gI l).lo=(gI k).lo∧(gI l).hi=(gI k).hi:=⟨by omega,by omega⟩
  generalize gI l=x at *
  generalize gI k=y at *
  cases x;cases y;simp only at p q;rw [p,q]
theorem z0 {α:Type} {p:α→Bool} {l:List α}:(l.filter p).length=l.length↔∀ x∈l,p x=true:=by
 rw [List.length_filter_eq_length_iff]
theorem sQ {α:Type} {p:α→Bool} {l:List α}:fC (l.filter p).length l.length=1↔∀ x∈l,p x=true:=by
 rw [←z0]
 unfold fC
 split
 ·rename_i h;simp [h]
 ·rename_i h
  split
  ·simp [h]
  ·simp [h]
theorem rR {α:Type} {p:α→Bool} {l:List α}:fC (l.filter p).length l.length=2↔l≠[]∧∀ x∈l,p x=false:=by
 unfold fC
 split
 ·rename_i h
  simp only [show ¬(1:Int)=2 by omega,false_iff]
  rintro ⟨h1,h2⟩
  rw [z0] at h
  cases l with
  |nil=>exact h1 rfl
  |cons x l =>
   have a:=h x (by simp)
   have b:=h2 x (by simp)
   rw [a] at b;cases b
 ·rename_i h
  split
  ·rename_i h0
   simp only [true_iff]
   refine ⟨fun e=>?_,fun x hx=>?_⟩
   ·subst e;simp at h
   ·have:=List.eq_nil_of_length_eq_zero h0
    rw [List.filter_eq_nil_iff] at this
    simpa using this x hx
  ·rename_i h0
   simp only [show ¬(0:Int)=2 by omega,false_iff]
   rintro ⟨h1,h2⟩
   apply h0
   rw [List.length_eq_zero_iff,List.filter_eq_nil_iff]
   intro x hx
   simp [h2 x hx]
theorem oZ (a b:Nat):fC a b=0∨fC a b=1∨fC a b=2:=by
 unfold fC;split
 ·simp
 ·split<;>simp
theorem J1 {α β:Type} {p:α→Bool} {q:β→Bool} {l:List α} {k:List β} (h1:∀ x∈l,∃ y∈k,q y=p x) (h2:∀ y∈k,∃ x∈l,p x=q y):fC (l.filter p).length l.length=fC (k.filter q).length k.length:=by
 have a:fC (l.filter p).length l.length=1↔fC (k.filter q).length k.length=1:=by
  rw [sQ,sQ]
  constructor
  ·intro h y hy;obtain ⟨x,hx,e⟩:=h2 y hy;rw [←e];exact h x hx
  ·intro h x hx;obtain ⟨y,hy,e⟩:=h1 x hx;rw [←e];exact h y hy
 have b:fC (l.filter p).length l.length=2↔fC (k.filter q).length k.length=2:=by
  rw [rR,rR]
  constructor
  ·rintro ⟨hn,h⟩
   refine ⟨fun e=>?_,fun y hy=>?_⟩
   ·subst e
    obtain ⟨x,hx⟩:=List.exists_mem_of_ne_nil l hn
    obtain ⟨y,hy,_⟩:=h1 x hx
    simp at hy
   ·obtain ⟨x,hx,e⟩:=h2 y hy;rw [←e];exact h x hx
  ·rintro ⟨hn,h⟩
   refine ⟨fun e=>?_,fun x hx=>?_⟩
   ·subst e
    obtain ⟨y,hy⟩:=List.exists_mem_of_ne_nil k hn
    obtain ⟨x,hx,_⟩:=h2 y hy
    simp at hx
   ·obtain ⟨y,hy,e⟩:=h1 x hx;rw [←e];exact h y hy
 rcases oZ (l.filter p).length l.length with h|h|h<;>rcases oZ (k.filter q).length k.length with h'|h'|h'<;>simp_all
def chP (r:Rail):List Int:=(if r.shut=0 then [] else [0])++(if r.shut=1 then [] else zV r.mins)
def fT:List Rail→List Int→List (List Int)
 |[],l=>[l]
 |r::rs,l=>(chP r).flatMap fun n=>fT rs (l++[n])
def rlI (c:List Int) (r:Int):Int:=(c[r.toNat]?).getD 0
def rF (s:State):List Int:=(s.closed.zip s.mins).map fun x=>if x.1=true then 0 else x.2
theorem FG {s:State} (h:s.closed.length=s.mins.length):eff s=rlI (rF s):=by
 funext r
 simp only [eff,rlI,rF,List.getElem?_map,List.getElem?_zip_eq_some,List.zip]
 obtain ⟨i,hi⟩:∃ i,r.toNat=i:=⟨_,rfl⟩
 rw [hi]
 by_cases hl:i<s.closed.length
 ·have hm:i<s.mins.length:=by omega
  have e:(List.zipWith Prod.mk s.closed s.mins)[i]? = some (s.closed[i],s.mins[i]):=by
   rw [List.getElem?_zipWith];simp [hl,hm]
  rw [e]
  simp [hl,hm]
 ·have hm:¬i<s.mins.length:=by omega
  have e:(List.zipWith Prod.mk s.closed s.mins)[i]? = none:=by
   rw [List.getElem?_zipWith];simp [show s.closed.length≤i by omega]
  rw [e]
  simp [show s.closed.length≤i by omega,show s.mins.length≤i by omega]
theorem lC {s:Span} {x:Int}:x∈zV s↔s.lo≤x∧x≤s.hi:=by
 rw [zV,cF];omega
theorem BQ {l:List Int} {x:Int} {k:Nat} (h:l.length=k):((l++[x])[k]?).getD 0=x:=by subst h;simp
def PI (rs:List Rail) (k:Nat) (c:List Int):Prop:=c.length=k∧∀ i (h:i<k) (hr:i<rs.length),(c[i]?).getD 0∈chP rs[i]
theorem wS (s:State) (h:s.closed.length=s.mins.length) (c:Bool) (m:Int):rF ⟨s.closed++[c],s.mins++[m]⟩=rF s++[if c=true then 0 else m]:=by
 simp only [rF,List.zip]
 rw [List.zipWith_append h]
 simp
theorem sS {rs:List Rail}:∀ k,k≤rs.length→∀ s∈mY rs k,s.closed.length=k∧s.mins.length=k∧PI rs k (rF s)
 |0,_,s,h=>by
  simp [mY] at h
  subst h
  exact ⟨rfl,rfl,rfl,fun i h=>by omega⟩
 |k+1,hk,s,h=>by
  have hk1:k<rs.length:=by omega
  simp only [mY,List.getElem?_eq_getElem hk1,List.mem_flatMap,yW,List.mem_map,List.mem_filter] at h
  obtain ⟨s0,hs0,m,hm,c,⟨_,hc⟩,rfl⟩:=h
  obtain ⟨h1,h2,h3,h4⟩:=sS k (by omega) s0 hs0
  rw [wS s0 (by omega)]
  refine ⟨by simp [h1],by simp [h2],by simp [h3],fun i hi hr=>?_⟩
  by_cases e:i=k
  ·subst e
   rw [BQ h3]
   simp only [chP,List.mem_append]
   simp only [tW,Bool.not_eq_true',Bool.or_eq_false_iff,Bool.and_eq_false_iff,decide_eq_false_iff_not] at hc
   cases c
   ·simp only [Bool.not_false,false_or,Bool.true_eq_false] at hc
    simp only [Bool.false_eq_true,if_false]
    exact .inr (by rw [if_neg hc.2];exact hm)
   ·simp only [Bool.true_eq_false,false_or] at hc
    simp only [if_true]
    exact .inl (by rw [if_neg hc.1];simp)
  ·rw [List.getElem?_append_left (by omega)]
   exact h4 i (by omega) hr
theorem S7 {rs:List Rail} (hr:∀ r∈rs,r.mins.lo≤r.mins.hi∧1≤r.mins.lo):∀ k,k≤rs.length→∀ c,PI rs k c→∃ s∈mY rs k,rF s=c
 |0,_,c,h=>⟨⟨[],[]⟩,by simp [mY],by have:=h.1;rw [List.length_eq_zero_iff.1 this];rfl⟩
 |k+1,hk,c,h=>by
  have hk1:k<rs.length:=by omega
  obtain ⟨hl,hc⟩:=h
  obtain ⟨d,x,rfl⟩:∃ d x,c=d++[x]:=by
   rcases List.eq_nil_or_concat c with rfl|⟨d,x,rfl⟩
   ·simp at hl
   ·exact ⟨d,x,by simp⟩
  have hd:d.length=k:=by simpa using hl
  obtain ⟨s,hs,he⟩:=S7 hr k (by omega) d ⟨hd,fun i hi hri=>by
   have:=hc i (by omega) hri
   rwa [List.getElem?_append_left (by omega)] at this⟩
  have hsl:=sS k (by omega) s hs
  have hx:=hc k (by omega) hk1
  rw [BQ hd] at hx
  simp only [chP,List.mem_append] at hx
  have hrk:=hr _ (List.getElem_mem hk1)
  simp only [mY,List.getElem?_eq_getElem hk1]
  rcases hx with hx|hx
  ·split at hx
   ·cases hx
   ·rename_i h0
    simp only [List.mem_singleton] at hx
    subst hx
    refine ⟨⟨s.closed++[true],s.mins++[rs[k].mins.lo]⟩,?_,by rw [wS s (by omega),he];simp⟩
    simp only [List.mem_flatMap,yW,List.mem_map,List.mem_filter]
    exact ⟨s,hs,rs[k].mins.lo,lC.2 ⟨Int.le_refl _,hrk.1⟩,true,⟨by simp,by simp [tW,h0]⟩,rfl⟩
  ·split at hx
   ·cases hx
   ·rename_i h1
    refine ⟨⟨s.closed++[false],s.mins++[x]⟩,?_,by rw [wS s (by omega),he];simp⟩
    simp only [List.mem_flatMap,yW,List.mem_map,List.mem_filter]
    exact ⟨s,hs,x,hx,false,⟨by simp,by simp [tW,h1]⟩,rfl⟩
theorem kB:∀ (rs:List Rail) (l c:List Int),c∈fT rs l↔∃ t,c=l++t∧PI rs rs.length t
 |[],l,c=>by
  simp only [fT,List.mem_singleton]
  constructor
  ·rintro rfl;exact ⟨[],by simp,rfl,fun i h=>by simp at h⟩
  ·rintro ⟨t,rfl,ht,_⟩
   simp at ht
   simp [ht]
 |r::rs,l,c=>by
  simp only [fT,List.mem_flatMap]
  constructor
  ·rintro ⟨n,hn,hc⟩
   obtain ⟨t,rfl,ht,hx⟩:=(kB rs _ c).1 hc
   refine ⟨n::t,by simp,by simp [ht],fun i h hr=>?_⟩
   cases i with
   |zero=>exact hn
   |succ i=>exact hx i (by simpa using h) (by simpa using hr)
  ·rintro ⟨t,rfl,ht,hx⟩
   cases t with
   |nil=>simp at ht
   |cons n t =>
    refine ⟨n,hx 0 (by simp) (by simp),(kB rs _ _).2 ⟨t,by simp,by simpa using ht,fun i h hr=>?_⟩⟩
    exact hx (i+1) (by simpa using h) (by simpa using hr)
theorem C1 {rs:List Rail} {l c:List Int} (h:c∈fT rs l):c.length=l.length+rs.length:=by
 obtain ⟨t,rfl,ht,_⟩:=(kB rs l c).1 h
 simp [ht]
theorem aAL {r:Rail} (h:1≤r.mins.lo):(chP r).Pairwise (·≠·):=by
 have hn:∀ (n:Nat) (a:Int),(aT a n).Pairwise (·≠·):=by
  intro n
  induction n with
  |zero=>intro a;exact List.Pairwise.nil
  |succ n ih =>
   intro a
   simp only [aT]
   refine List.Pairwise.cons (fun x hx=>?_) (ih (a+1))
   have:=(cF _ _ _).1 hx
   omega
 unfold chP
 rw [List.pairwise_append]
 refine ⟨by split<;>simp,by split;exact List.Pairwise.nil;exact hn _ _,fun a ha b hb=>?_⟩
 split at ha
 ·cases ha
 ·simp only [List.mem_singleton] at ha
  subst ha
  split at hb
  ·cases hb
  ·have:=lC.1 hb;omega
theorem HH:∀ (rs:List Rail) (l:List Int),(∀ r∈rs,1≤r.mins.lo)→(fT rs l).Pairwise (·≠·)
 |[],l,_=>by simp [fT]
 |r::rs,l,h=>by
  simp only [fT]
  rw [List.pairwise_flatMap]
  refine ⟨fun n _=>HH rs _ (fun x hx=>h x (by simp [hx])),List.Pairwise.imp ?_ (aAL (h r (by simp)))⟩
  intro n m hnm x hx y hy e
  obtain ⟨t,rfl,_⟩:=(kB _ _ _).1 hx
  obtain ⟨u,hu,_⟩:=(kB _ _ _).1 hy
  have e2:=e.trans hu
  rw [List.append_assoc,List.append_assoc] at e2
  have:=List.append_cancel_left e2
  simp at this
  exact hnm this.1
def dO (v:Net) (c:List Int):List Int:=gE v (gR v) (rlI c)
def qY (v:Net) (but c:List Int):Bool:=kX v but (dO v c)
def TL (v:Net) (but:List Int):List (List Int):=(fT v.rails []).filter (qY v but)
theorem pF {s:State} (h:s.closed.length=s.mins.length) (v:Net):iF v s=dO v (rF s):=by rw [iF,dO,FG h]
theorem nV {v:Net} {s:State} (h:s∈gV v):s.closed.length=v.rails.length∧s.mins.length=v.rails.length:=by
 have:=sS v.rails.length (Nat.le_refl _) s h
 exact ⟨this.1,this.2.1⟩
theorem HT {v:Net} {s:State} (h:s∈gV v):rF s∈fT v.rails []:=by
 have:=sS v.rails.length (Nat.le_refl _) s h
 exact (kB _ _ _).2 ⟨rF s,by simp,this.2.2⟩
theorem IQ {v:Net} (hv:Vd v) {c:List Int} (h:c∈fT v.rails []):∃ s∈gV v,rF s=c:=by
 obtain ⟨t,e,ht⟩:=(kB _ _ _).1 h
 rw [List.nil_append] at e
 subst e
 exact S7 (fun r hr=>by have:=(hv.ra r hr).mins;omega) v.rails.length (Nat.le_refl _) c ht
theorem v7 {v:Net} {bl:List Int} {s:State} (h:s∈bF v bl):rF s∈TL v bl:=by
 obtain ⟨h1,h2⟩:=List.mem_filter.1 h
 have hl:=nV h1
 refine List.mem_filter.2 ⟨HT h1,?_⟩
 rw [qY,←pF (by omega)]
 exact h2
theorem sR {v:Net} (hv:Vd v) {bl:List Int} {c:List Int} (h:c∈TL v bl):∃ s∈bF v bl,rF s=c:=by
 obtain ⟨h1,h2⟩:=List.mem_filter.1 h
 obtain ⟨s,hs,he⟩:=IQ hv h1
 have hl:=nV hs
 refine ⟨s,List.mem_filter.2 ⟨hs,?_⟩,he⟩
 rw [pF (by omega),he]
 exact h2
theorem sY {v:Net} {bl:List Int} {s:State} (h:s∈bF v bl):s.closed.length=v.rails.length∧s.mins.length=v.rails.length:=nV (List.mem_filter.1 h).1
theorem K3 {v:Net} (hv:Vd v) (bl:List Int):(TL v bl).isEmpty=(bF v bl).isEmpty:=by
 rw [Bool.eq_iff_iff,List.isEmpty_iff,List.isEmpty_iff,List.eq_nil_iff_forall_not_mem,List.eq_nil_iff_forall_not_mem]
 constructor
 ·intro h s hs;exact h _ (v7 hs)
 ·intro h c hc
  obtain ⟨s,hs,_⟩:=sR hv hc
  exact h s hs
theorem KB {v:Net} (hv:Vd v) (bl:List Int) (p:State→Bool) (q:List Int→Bool) (h:∀ s∈bF v bl,p s=q (rF s)):(bF v bl).all p=(TL v bl).all q:=by
 rw [Bool.eq_iff_iff,List.all_eq_true,List.all_eq_true]
 constructor
 ·intro a c hc
  obtain ⟨s,hs,rfl⟩:=sR hv hc
  rw [←h s hs]
  exact a s hs
 ·intro a s hs
  rw [h s hs]
  exact a _ (v7 hs)
theorem R4 {v:Net} (hv:Vd v) (bl:List Int) (p:State→Bool) (q:List Int→Bool) (h:∀ s∈bF v bl,p s=q (rF s)):(bF v bl).any p=(TL v bl).any q:=by
 rw [Bool.eq_iff_iff,List.any_eq_true,List.any_eq_true]
 constructor
 ·rintro ⟨s,hs,a⟩
  exact ⟨_,v7 hs,by rw [←h s hs];exact a⟩
 ·rintro ⟨c,hc,a⟩
  obtain ⟨s,hs,rfl⟩:=sR hv hc
  exact ⟨s,hs,by rw [h s hs];exact a⟩
def kU (v:Net):Nat→List (List Int)→List (List (List Int))
 |0,p=>[p]
 |k+1,p=>(cJ v (eR v p.length) []).flatMap fun w=>kU v k (p++[w])
theorem jK (v:Net):∀ k,∀ p∈iU v k,p.length=k
 |0,p,h=>by simp [iU] at h;simp [h]
 |k+1,p,h=>by
  simp only [iU,List.mem_flatMap,List.mem_map] at h
  obtain ⟨a,ha,w,_,rfl⟩:=h
  simp [jK v k a ha]
theorem kJ {α β:Type} {f g:α→List β}:∀ {l:List α},(∀ x∈l,f x=g x)→l.flatMap f=l.flatMap g
 |[],_=>rfl
 |x::l,h=>by rw [List.flatMap_cons,List.flatMap_cons,h x (by simp),kJ fun y hy=>h y (by simp [hy])]
theorem vN {α:Type}:∀ l:List α,(l.flatMap fun x=>[x])=l
 |[]=>rfl
 |x::l=>by rw [List.flatMap_cons,vN l];rfl
theorem EG (v:Net):∀ k j,(iU v j).flatMap (kU v k)=iU v (j+k)
 |0,j=>by
  have:kU v 0=fun x=>[x]:=by funext x;rfl
  rw [this,vN];rfl
 |k+1,j=>by
  rw [show j+(k+1)=(j+1)+k by omega,←EG v k (j+1)]
  simp only [iU]
  rw [List.flatMap_assoc]
  refine kJ fun p hp=>?_
  rw [kU,jK v j p hp,List.flatMap_map]
theorem wN (v:Net):iD v=kU v v.trams.length []:=by
 have:=EG v v.trams.length 0
 simp only [iU,List.flatMap_cons,List.flatMap_nil,List.append_nil,Nat.zero_add] at this
 exact this.symm
def gU (v:Net) (t:Nat) (w:List Int):Nat:=if w=cH (gR v) t then 0 else 1
def mvd (v:Net) (p:List (List Int)):Nat:=(dB v p).length
theorem nJ {p:List (List Int)} {t:Nat} (h:t<p.length) (w:List Int):cH (p++[w]) t=cH p t:=by simp [cH,List.getElem?_append_left h]
theorem JX (v:Net) (p:List (List Int)) (w:List Int):dB v (p++[w])=dB v p++(if w=cH (gR v) p.length then [] else [(p.length:Int)]):=by
 simp only [dB,List.length_append,List.length_cons,List.length_nil,Nat.zero_add,vZ,List.filter_append,Int.zero_add]
 congr 1
 ·refine List.filter_congr fun t ht=>?_
  have:=(cF _ _ _).1 ht
  rw [nJ (by omega)]
 ·have:cH (p++[w]) p.length=w:=by simp [cH]
  simp only [List.filter_cons,List.filter_nil,Int.toNat_natCast,this]
  split<;>rename_i h
  ·split
   ·rename_i e;simp [e] at h
   ·rfl
  ·split
   ·rfl
   ·rename_i e;simp [e] at h
theorem BR (v:Net) (p:List (List Int)) (w:List Int):mvd v (p++[w])=mvd v p+gU v p.length w:=by
 rw [mvd,JX,List.length_append,mvd,gU]
 split<;>simp
theorem LD (v:Net):∀ k p,∀ P∈kU v k p,mvd v p≤mvd v P
 |0,p,P,h=>by simp [kU] at h;subst h;exact Nat.le_refl _
 |k+1,p,P,h=>by
  simp only [kU,List.mem_flatMap] at h
  obtain ⟨w,_,hP⟩:=h
  have:=LD v k _ P hP
  rw [BR] at this
  omega
def dfs (v:Net) (q:List (List Int)→Bool):Nat→List (List Int)→Nat→Option (List (List Int))
 |0,p,left=>if (decide (left=0)&&q p)=true then some p else none
 |k+1,p,left=>(cJ v (eR v p.length) []).findSome? fun w=>if gU v p.length w≤left then dfs v q k (p++[w]) (left-gU v p.length w) else none
theorem CX {α β:Type} (q:β→Bool) (f:α→List β):∀ l:List α,(l.flatMap f).find? q=l.findSome? fun x=>(f x).find? q
 |[]=>rfl
 |x::l=>by
  rw [List.flatMap_cons,List.find?_append,List.findSome?_cons,CX q f l]
  cases (f x).find? q<;>rfl
theorem qS {α β:Type} {f g:α→Option β}:∀ {l:List α},(∀ x∈l,f x=g x)→l.findSome? f=l.findSome? g
 |[],_=>rfl
 |x::l,h=>by rw [List.findSome?_cons,List.findSome?_cons,h x (by simp),qS fun y hy=>h y (by simp [hy])]
theorem zK (v:Net) (q:List (List Int)→Bool):∀ k p left,dfs v q k p left=(kU v k p).find? fun P=>(mvd v P==mvd v p+left)&&q P
 |0,p,left=>by
  have h:decide (left=0)=(mvd v p==mvd v p+left):=by
   rw [Bool.eq_iff_iff,decide_eq_true_eq,beq_iff_eq];omega
  simp only [dfs,kU,List.find?_cons,List.find?_nil]
  rw [←h]
  cases (decide (left=0)&&q p)<;>rfl
 |k+1,p,left=>by
  simp only [dfs,kU]
  rw [CX]
  refine qS fun w _=>?_
  split
  ·rename_i h
   rw [zK v q k,BR,show mvd v p+gU v p.length w+(left-gU v p.length w)=mvd v p+left by omega]
  ·rename_i h
   symm
   rw [List.find?_eq_none]
   intro P hP
   have:=LD v k _ P hP
   rw [BR] at this
   simp only [Bool.and_eq_true,beq_iff_eq]
   omega
def uP (v:Net) (q:List (List Int)→Bool):Nat→Nat→Option (List (List Int))
 |0,_=>none
 |k+1,m=>match dfs v q v.trams.length [] m with|some p=>some p|none=>uP v q k (m+1)
theorem K9 {v:Net} {l:List State} {q:List (List Int)→Bool} (h:∀ p∈iD v,mR v l p=q p):∀ k m,iI v l k m=uP v q k m
 |0,m=>rfl
 |k+1,m=>by
  have e:(iD v).find? (pZ v l m)=dfs v q v.trams.length [] m:=by
   have hf:∀ (L:List (List (List Int))) (f g:List (List Int)→Bool),(∀ x∈L,f x=g x)→L.find? f=L.find? g:=by
    intro L f g
    induction L with
    |nil=>intro _;rfl
    |cons x L ih =>
     intro hh
     rw [List.find?_cons,List.find?_cons,hh x (by simp),ih fun y hy=>hh y (by simp [hy])]
   rw [zK,←wN]
   refine hf _ _ _ fun p hp=>?_
   have h0:mvd v []=0:=rfl
   rw [pZ,h p hp,h0,Nat.zero_add]
   rfl
  simp only [iI,uP,e]
  cases dfs v q v.trams.length [] m with
  |none=>exact K9 h k (m+1)
  |some p=>rfl
def HV (v:Net) (ps:List (List Int)) (c:List Int):Bool:=(List.range v.trams.length).all fun t=>iR v t (d8 (gE v ps (rlI c)) t)
def n4 (v:Net) (ps:List (List Int)):Bool:=(TL v []).all (HV v ps)
theorem W9 {v:Net} (hv:Vd v) (ps:List (List Int)):mR v (bF v []) ps=n4 v ps:=by
 refine KB hv [] _ _ fun s hs=>?_
 have hl:=sY hs
 rw [xM,HV,FG (by omega)]
theorem UK {v:Net} (hv:Vd v):iZ v (bF v [])=uP v (n4 v) (v.trams.length+1) 0:=K9 (fun p _=>W9 hv p) _ _
theorem vM (v:Net) (but:List Int):∀ k,∀ l∈eD v but k,∀ r∈l,0≤r∧r<v.rails.length
 |0,l,h,r,hr=>by simp [eD] at h;subst h;cases hr
 |k+1,l,h,r,hr=>by
  simp only [eD,List.mem_flatMap,n8,List.mem_map,List.mem_filter,cF] at h
  obtain ⟨a,ha,x,⟨hx,_⟩,rfl⟩:=h
  rcases List.mem_append.1 hr with hr|hr
  ·exact vM v but k a ha r hr
  ·simp only [List.mem_singleton] at hr;subst hr;omega
theorem CZ {v:Net} {s:Int} {but:List Int}:∀ k,∀ l∈dS v s but k,l.length≤k∧∀ r∈l,0≤r∧r<v.rails.length
 |0,l,h=>by simp [dS] at h
 |k+1,l,h=>by
  simp only [dS,List.mem_append,List.mem_filter] at h
  rcases h with h|⟨h,_⟩
  ·have:=CZ k l h
   exact ⟨by omega,this.2⟩
  ·refine ⟨?_,vM v but (k+1) l h⟩
   have key:∀ k,∀ l∈eD v but k,l.length=k:=by
    intro k
    induction k with
    |zero=>intro l h;simp [eD] at h;simp [h]
    |succ k ih =>
     intro l h
     simp only [eD,List.mem_flatMap,n8,List.mem_map] at h
     obtain ⟨a,ha,r,_,rfl⟩:=h
     simp [ih a ha]
   have:=key (k+1) l h
   omega
theorem zF {v:Net} {s:Int} {but l:List Int} (h:l∈cJ v s but):l.length≤4∧∀ r∈l,0≤r∧r<v.rails.length:=CZ 4 l h
theorem kD (v:Net) (but:List Int) (h5:v.rails.length≤5):∀ k,(eD v but k).length≤5^k
 |0=>by simp [eD]
 |k+1=>by
  have h:=zB (n8 v but) 5 (eD v but k) fun l _=>by
   have:=List.length_filter_le (pY v but l) (aT 0 v.rails.length)
   rw [kE] at this
   simp only [n8,List.length_map]
   omega
  have:=kD v but h5 k
  rw [Nat.pow_succ]
  simp only [eD]
  exact Nat.le_trans h (Nat.mul_le_mul_right 5 this)
theorem u5 {v:Net} (h5:v.rails.length≤5) (s:Int) (but:List Int):(cJ v s but).length≤1000:=by
 have c1:=kD v but h5 1
 have c2:=kD v but h5 2
 have c3:=kD v but h5 3
 have c4:=kD v but h5 4
 have f:=fun (l:List (List Int))=>List.length_filter_le (d4 v s) l
 have f1:=f (eD v but 1)
 have f2:=f (eD v but 2)
 have f3:=f (eD v but 3)
 have f4:=f (eD v but 4)
 have e:cJ v s but=((([]++(eD v but 1).filter (d4 v s))++(eD v but 2).filter (d4 v s))++(eD v but 3).filter (d4 v s))++(eD v but 4).filter (d4 v s):=rfl
 rw [e]
 simp only [List.length_append,List.length_nil]
 have p1:(5:Nat)^1=5:=rfl
 have p2:(5:Nat)^2=25:=rfl
 have p3:(5:Nat)^3=125:=rfl
 have p4:(5:Nat)^4=625:=rfl
 omega
theorem LN {v:Net}:∀ k p,∀ P∈kU v k p,P.length=p.length+k∧∀ w∈P,w∈p∨∃ s,w∈cJ v s []
 |0,p,P,h=>by simp [kU] at h;subst h;exact ⟨rfl,fun w hw=>.inl hw⟩
 |k+1,p,P,h=>by
  simp only [kU,List.mem_flatMap] at h
  obtain ⟨w,hw,hP⟩:=h
  obtain ⟨h1,h2⟩:=LN k _ P hP
  refine ⟨by rw [h1];simp;omega,fun x hx=>?_⟩
  rcases h2 x hx with q|q
  ·rcases List.mem_append.1 q with q|q
   ·exact .inl q
   ·simp only [List.mem_singleton] at q
    subst q
    exact .inr ⟨_,hw⟩
  ·exact .inr q
theorem tP {v:Net} {P:List (List Int)} (h:P∈iD v):RunOk v P:=by
 rw [wN] at h
 obtain ⟨h1,h2⟩:=LN _ _ P h
 refine ⟨by simpa using h1,fun p hp=>?_,fun p hp=>?_⟩
 ·rcases h2 p hp with q|⟨s,q⟩
  ·cases q
  ·exact (zF q).1
 ·rcases h2 p hp with q|⟨s,q⟩
  ·cases q
  ·exact (zF q).2
end Go.Am.Room
set_option maxRecDepth 4000
namespace Go.Am.Room
def cQ:=And.intro @bD (And.intro @aI (And.intro @aX (And.intro @aW (And.intro @aV (And.intro @aS (And.intro @bC (And.intro @a9 (And.intro @aZ (And.intro @dH (And.intro @dF (@Nat.not_lt_zero)))))))))))
def yY (v:Net) (but l:List Int) (k:Int):List (List Int):=((aT k ((v.rails.length:Int)-k).toNat).filter (pY v but l)).map fun r=>l++[r]
theorem aAO (v:Net) (but l:List Int):yY v but l 0=n8 v but l:=by simp [yY,n8]
theorem NI {v:Net} {k:Nat} (h:k<v.rails.length) (but l:List Int):yY v but l k=(if pY v but l (k:Int)=true then [l++[(k:Int)]] else [])++yY v but l ((k+1:Nat):Int):=by
 have:=m5 (a:=(k:Int)) (below:=v.rails.length) (by omega)
 rw [yY,this,List.filter_cons,show (k:Int)+1=((k+1:Nat):Int) by omega]
 split<;>rfl
theorem TH (v:Net) (but l:List Int):yY v but l (v.rails.length:Int)=[]:=by
 rw [yY,mW (by omega)];rfl
theorem uG {v:Net} (h5:v.rails.length≤5) (s:Int) (but:List Int) {k:Nat} (hk:k≤4):(dS v s but k).length≤1000:=by
 have st:∀ j,(dS v s but j).length≤(dS v s but (j+1)).length:=fun j=>by simp only [dS,List.length_append];omega
 have:=u5 h5 s but
 rw [cJ] at this
 have a0:(dS v s but 0).length≤(dS v s but 1).length:=st 0
 have a1:(dS v s but 1).length≤(dS v s but 2).length:=st 1
 have a2:(dS v s but 2).length≤(dS v s but 3).length:=st 2
 have a3:(dS v s but 3).length≤(dS v s but 4).length:=st 3
 have:k=0∨k=1∨k=2∨k=3∨k=4:=by omega
 rcases this with rfl|rfl|rfl|rfl|rfl<;>omega
theorem F7 (v:Net) (hv:Vd v) (s:Int) (but:List Int) (hbu:but.length<9223372036854775808):dY T 51 [bX v,.int .i64 s,ints but] (aN (cJ v s but)):=by
 refine bA (af:=a51) rfl (by simp [a51]) dd ?_
 have hnr:=hv.nra
 obtain ⟨Z,hZ⟩:∃ Z,cJ v s but=Z:=⟨_,rfl⟩
 have hZ':dS v s but 4=Z:=hZ
 rw [hZ]
 (repeat (first|simp only [↓QA,QB,Nat.reduceLT,reduceIte,Nat.reduceEqDiff,Nat.reduceAdd,Nat.reduceLeDiff,Nat.reduceMul,Nat.reduceBEq,cQ,a51]|refine rd0 rfl ?_))
 refine jP 7 1 [] rfl ?_
 refine bY (S:=Nat×Bool) (0,false) (fun a=>a.1≤4) (fun a=>4-a.1)
  (fun a=>[(1,.int .i64 s),(2,ints but),(3,.ptr 0 0),(7,.lit ((dS v s but a.1).map ints) false (some 1)),(8,aN (eD v but a.1)),(9,.int .i64 ((a.1+1:Nat):Int))])
  (fun a=>[.cells (aB v),.tok 1 (dS v s but a.1).length a.2]) (Nat.zero_le _) (by simp [aB,ints,dS]) ?_ fun a hk=>?_
 ·try simp only [aC,QE,Nat.reduceLT,reduceIte,Nat.reduceEqDiff,Nat.reduceAdd,Nat.reduceLeDiff,Nat.reduceMul,Nat.reduceBEq,cQ]
  simp [aN,ints,eD,dS,clr,clrs]
 ·obtain ⟨k,ex⟩:=a
  simp only at hk
  (repeat (first|simp only [↓QA,QB,Nat.reduceLT,reduceIte,Nat.reduceEqDiff,Nat.reduceAdd,Nat.reduceLeDiff,Nat.reduceMul,Nat.reduceBEq,cQ,YE,aN]|refine rd0 rfl ?_))
  refine aG (fun h=>?_) fun h=>?_
  ·have hk1:k<4:=by
    have h0:((k+1:Nat):Int)≤4:=by simpa using h
    omega
   have hwn:IntKind.i64.wrap (((k+1:Nat):Int)+1)=((k+1+1:Nat):Int):=bV (show k+1<6 by omega) (by omega)
   have c1:=uG (v:=v) (by omega) s but (show k≤4 by omega)
   have c2:=uG (v:=v) (by omega) s but (show k+1≤4 by omega)
   have c3:=kD v but (by omega) (k+1)
   have c6:=kD v but (by omega) k
   have p6:5^k≤5^4:=Nat.pow_le_pow_right (by omega) (by omega)
   have c4:=tN v but k
   have c5:=vM v but k
   have p5:5^(k+1)≤5^4:=Nat.pow_le_pow_right (by omega) (by omega)
   have p5':(5:Nat)^4=625:=rfl
   obtain ⟨W,hW⟩:∃ W,eD v but k=W:=⟨_,rfl⟩
   obtain ⟨X,hX⟩:∃ X,eD v but (k+1)=X:=⟨_,rfl⟩
   obtain ⟨O,hO⟩:∃ O,dS v s but k=O:=⟨_,rfl⟩
   obtain ⟨Y,hY⟩:∃ Y,dS v s but (k+1)=Y:=⟨_,rfl⟩
   rw [hO] at c1
   rw [hY] at c2
   rw [hX] at c3
   rw [hW] at c4 c5 c6
   have hX':W.flatMap (n8 v but)=X:=by rw [←hX,←hW];rfl
   have hY':O++(W.flatMap (n8 v but)).filter (d4 v s)=Y:=by rw [←hY,←hO,hX',←hX];rfl
   rw [hW,hO]
   (repeat (first|simp only [↓QA,QB,Nat.reduceLT,reduceIte,Nat.reduceEqDiff,Nat.reduceAdd,Nat.reduceLeDiff,Nat.reduceMul,Nat.reduceBEq,cQ]|refine rd0 rfl ?_))
   refine jP 10 1 [] rfl ?_
   refine bY (S:=Nat×List (List Int)×List (List Int)×Bool×Bool) (0,O,[],ex,false) (fun a=>a.1≤W.length∧a.2.2.1++(W.drop a.1).flatMap (n8 v but)=X∧a.2.1++((W.drop a.1).flatMap (n8 v but)).filter (d4 v s)=Y) (fun a=>W.length-a.1)
    (fun a=>[(1,.int .i64 s),(2,ints but),(3,.ptr 0 0),(7,.lit (a.2.1.map ints) false (some 1)),(8,aN W),(9,.int .i64 ((k+1:Nat):Int)),(10,.lit (a.2.2.1.map ints) false (some 2)),(11,.int .i64 a.1)])
    (fun a=>[.cells (aB v),.tok 1 a.2.1.length a.2.2.2.1,.tok 1 a.2.2.1.length a.2.2.2.2]) ⟨Nat.zero_le _,by simpa using hX',by simpa using hY'⟩ (by simp [aB,ints]) ?_ fun a ha=>?_
   ·try simp only [aC,QE,Nat.reduceLT,reduceIte,Nat.reduceEqDiff,Nat.reduceAdd,Nat.reduceLeDiff,Nat.reduceMul,Nat.reduceBEq,cQ,aN,ints]
    try simp
   ·obtain ⟨i,O,A,ex,ex2⟩:=a
    obtain ⟨hi,hA,hB⟩:=ha
    simp only at hi hA hB
    (repeat (first|simp only [↓QA,QB,Nat.reduceLT,reduceIte,Nat.reduceEqDiff,Nat.reduceAdd,Nat.reduceLeDiff,Nat.reduceMul,Nat.reduceBEq,cQ,YO,aN]|refine rd0 rfl ?_))
    refine aG (fun h2=>?_) fun h2=>?_
    ·have hi1:i<W.length:=by simpa using h2
     have hwi:=bV hi1 (by omega)
     obtain ⟨l,hl⟩:∃ l,W[i]=l:=⟨_,rfl⟩
     have hll:=c4 _ (List.getElem_mem hi1)
     have hlr:=c5 _ (List.getElem_mem hi1)
     rw [hl] at hll hlr
     rw [List.drop_eq_getElem_cons hi1,hl,List.flatMap_cons,←aAO] at hA hB
     rw [List.filter_append] at hB
     obtain ⟨F,hF⟩:∃ F,(W.drop (i+1)).flatMap (n8 v but)=F:=⟨_,rfl⟩
     rw [hF] at hA hB
     (repeat (first|simp only [↓QA,QB,Nat.reduceLT,reduceIte,Nat.reduceEqDiff,Nat.reduceAdd,Nat.reduceLeDiff,Nat.reduceMul,Nat.reduceBEq,cQ]|refine rd0 rfl ?_))
     refine bY (S:=Nat×List (List Int)×List (List Int)×Bool×Bool×St) (0,O,A,ex,ex2,[]) (fun a=>a.1≤v.rails.length∧a.2.2.1++(yY v but l a.1++F)=X∧a.2.1++((yY v but l a.1).filter (d4 v s)++F.filter (d4 v s))=Y) (fun a=>v.rails.length-a.1)
      (fun a=>[(1,.int .i64 s),(2,ints but),(3,.ptr 0 0),(7,.lit (a.2.1.map ints) false (some 1)),(8,aN W),(9,.int .i64 ((k+1:Nat):Int)),(10,.lit (a.2.2.1.map ints) false (some 2)),(11,.int .i64 i),(12,.int .i64 a.1)])
      (fun a=>.cells (aB v)::.tok 1 a.2.1.length a.2.2.2.1::.tok 1 a.2.2.1.length a.2.2.2.2.1::a.2.2.2.2.2) ⟨Nat.zero_le _,hA,hB⟩ (by simp [aB]) ?_ fun a ha=>?_
     ·try simp only [aC,QE,Nat.reduceLT,reduceIte,Nat.reduceEqDiff,Nat.reduceAdd,Nat.reduceLeDiff,Nat.reduceMul,Nat.reduceBEq,cQ,aN,ints]
      try simp
     ·obtain ⟨r,O,A,ex,ex2,τ⟩:=a
      obtain ⟨hr,hA,hB⟩:=ha
      simp only at hr hA hB
      (repeat (first|simp only [↓QA,QB,Nat.reduceLT,reduceIte,Nat.reduceEqDiff,Nat.reduceAdd,Nat.reduceLeDiff,Nat.reduceMul,Nat.reduceBEq,cQ,ZB,aN]|refine rd0 rfl ?_))
      refine aG (fun h3=>?_) fun h3=>?_
      ·have hr1:r<v.rails.length:=by simpa using h3
       have hwr:=bV hr1 (by omega)
       rw [NI hr1] at hA hB
       have hrk:pY v but l (r:Int)=(!decide (v.rails[r].shut=1)&&!but.contains (r:Int)&&!l.contains (r:Int)):=by rw [pY,wE hr1]
       obtain ⟨z,hz⟩:∃ z,v.rails[r]=z:=⟨_,rfl⟩
       rw [hz] at hrk
       obtain ⟨G,hG⟩:∃ G,yY v but l ((r+1:Nat):Int)=G:=⟨_,rfl⟩
       have no:pY v but l (r:Int)=false→A++(yY v but l ((r+1:Nat):Int)++F)=X∧O++((yY v but l ((r+1:Nat):Int)).filter (d4 v s)++F.filter (d4 v s))=Y:=fun q=>by
        rw [q] at hA hB
        exact ⟨by simpa using hA,by simpa using hB⟩
       have hzs:(z.shut==1)=decide (z.shut=1):=by rw [Bool.eq_iff_iff];simp
       rw [←hzs] at hrk
       (repeat (first|simp only [↓QA,QB,Nat.reduceLT,reduceIte,Nat.reduceEqDiff,Nat.reduceAdd,Nat.reduceLeDiff,Nat.reduceMul,Nat.reduceBEq,cQ,hr1,hz]|refine rd0 rfl ?_))
       cases q0:(z.shut==1)
       ·(repeat (first|simp only [↓QA,QB,Nat.reduceLT,reduceIte,Nat.reduceEqDiff,Nat.reduceAdd,Nat.reduceLeDiff,Nat.reduceMul,Nat.reduceBEq,cQ,q0]|refine rd0 rfl ?_))
        ((first|refine aE (rS but (r:Int) hbu) rfl dd ?_|refine aF (rS but (r:Int) hbu) rfl dd ?_);(repeat (first|simp only [↓QA,QB,Nat.reduceLT,reduceIte,Nat.reduceEqDiff,Nat.reduceAdd,Nat.reduceLeDiff,Nat.reduceMul,Nat.reduceBEq,cQ,hi1,hl,aN]|refine rd0 rfl ?_)))
        cases q1:but.contains (r:Int)
        ·(repeat (first|simp only [↓QA,QB,Nat.reduceLT,reduceIte,Nat.reduceEqDiff,Nat.reduceAdd,Nat.reduceLeDiff,Nat.reduceMul,Nat.reduceBEq,cQ,hi1,hl,aN]|refine rd0 rfl ?_))
         ((first|refine aE (rS l (r:Int) (by omega)) rfl dd ?_|refine aF (rS l (r:Int) (by omega)) rfl dd ?_);(repeat (first|simp only [↓QA,QB,Nat.reduceLT,reduceIte,Nat.reduceEqDiff,Nat.reduceAdd,Nat.reduceLeDiff,Nat.reduceMul,Nat.reduceBEq,cQ,hi1,hl,aN]|refine rd0 rfl ?_)))
         cases q2:l.contains (r:Int)
         ·rw [q0,q1,q2] at hrk
          rw [hrk] at hA hB
          simp only [Bool.not_false,Bool.and_self,if_true,List.singleton_append,List.cons_append,List.filter_cons] at hA hB
          have hal:A.length≤700:=by
           have:=congrArg List.length hA
           simp only [List.length_append] at this
           omega
          have hol:O.length≤1000:=by
           have:=congrArg List.length hB
           simp only [List.length_append] at this
           omega
          have a0:∀ (σ:St),cZ 1 8 σ (.lit [] true none) (.lit (l.map (.int .i64)) false none)=some ((pH 1 σ (l.map (.int .i64))).1,(pH 1 σ (l.map (.int .i64))).2):=fun σ=>E9 ⟨rfl,iE l,by simp [room];omega,by simp [room];omega⟩
          have a1:∀ (σ:St),cZ 1 8 (pH 1 σ (l.map (.int .i64))).2 (pH 1 σ (l.map (.int .i64))).1 (.lit [.int .i64 r] true none)=some (.lit (l.map (.int .i64)++[.int .i64 r]) false (some σ.length),σ++[.tok 1 (l.length+1) true]):=fun σ=>by
           rw [w7 ⟨iE l,by simp [aL,AV.cells,AV.cell],by simp [room];omega,by simp [room];omega⟩ (by simp)]
           simp
          have a2:=fun (b0 b1:ABlk) (τ:St) (t:Nat)=>iK (σ:=b0::b1::.tok 1 A.length ex2::τ) (t:=2) (ex:=ex2) (sz:=1) (b:=24) (xs:=A.map ints) (ys:=[.lit (l.map (.int .i64)++[.int .i64 r]) false (some t)]) (f:=true) (tk:=none) ⟨iM A,by simp [aL,AV.cells,AV.cell],by simp [room];omega,by simp [room];omega⟩ (by simp) A.length (by simp) rfl
          have a3:=fun (b0:ABlk) (τ:St) (t:Nat)=>iK (σ:=b0::.tok 1 O.length ex::τ) (t:=1) (ex:=ex) (sz:=1) (b:=24) (xs:=O.map ints) (ys:=[.lit (l.map (.int .i64)++[.int .i64 r]) false (some t)]) (f:=true) (tk:=none) ⟨iM O,by simp [aL,AV.cells,AV.cell],by simp [room];omega,by simp [room];omega⟩ (by simp) O.length (by simp) rfl
          have hld:=xB v s (l++[(r:Int)]) (fun x hx=>by
           rcases List.mem_append.1 hx with hx|hx
           ·exact hlr x hx
           ·simp only [List.mem_singleton] at hx;subst hx;omega) (by simp;omega)
          have hml:(l++[(r:Int)]).map (AV.int .i64)=l.map (.int .i64)++[.int .i64 r]:=by simp
          simp only [ints,hml] at hld
          (repeat (first|simp only [↓QA,QB,Nat.reduceLT,reduceIte,Nat.reduceEqDiff,Nat.reduceAdd,Nat.reduceLeDiff,Nat.reduceMul,Nat.reduceBEq,cQ,hi1,hl,ints,a0,a1,a2]|refine rd0 rfl ?_))
          ((first|refine s7 (hld) (by try simp only [QS,QC,Nat.reduceLT,reduceIte,Nat.reduceEqDiff,Nat.reduceAdd,Nat.reduceLeDiff,Nat.reduceMul,Nat.reduceBEq,cQ]) trivial ?_|refine wF (hld) (by try simp only [QS,QC,Nat.reduceLT,reduceIte,Nat.reduceEqDiff,Nat.reduceAdd,Nat.reduceLeDiff,Nat.reduceMul,Nat.reduceBEq,cQ]) trivial ?_);(repeat (first|simp only [↓QA,QB,Nat.reduceLT,reduceIte,Nat.reduceEqDiff,Nat.reduceAdd,Nat.reduceLeDiff,Nat.reduceMul,Nat.reduceBEq,cQ,a3]|refine rd0 rfl ?_)))
          cases q3:d4 v s (l++[(r:Int)])
          ·rw [q3] at hB
           (repeat (first|simp only [↓QA,QB,Nat.reduceLT,reduceIte,Nat.reduceEqDiff,Nat.reduceAdd,Nat.reduceLeDiff,Nat.reduceMul,Nat.reduceBEq,cQ,hwr]|refine rd0 rfl ?_))
           refine ⟨(r+1,O,A++[l++[(r:Int)]],ex,true,τ),⟨by simp only;omega,by rw [←hA];simp,by simpa using hB⟩,by simp only;omega,?_⟩
           try simp only [aC,QE,Nat.reduceLT,reduceIte,Nat.reduceEqDiff,Nat.reduceAdd,Nat.reduceLeDiff,Nat.reduceMul,Nat.reduceBEq,cQ,hwr,aN,ints,List.map_append,List.map_cons,List.map_nil]
           try simp [aJ]
          ·rw [q3] at hB
           (repeat (first|simp only [↓QA,QB,Nat.reduceLT,reduceIte,Nat.reduceEqDiff,Nat.reduceAdd,Nat.reduceLeDiff,Nat.reduceMul,Nat.reduceBEq,cQ,hwr,a3]|refine rd0 rfl ?_))
           refine ⟨(r+1,O++[l++[(r:Int)]],A++[l++[(r:Int)]],true,true,τ),⟨by simp only;omega,by rw [←hA];simp,by rw [←hB];simp⟩,by simp only;omega,?_⟩
           try simp only [aC,QE,Nat.reduceLT,reduceIte,Nat.reduceEqDiff,Nat.reduceAdd,Nat.reduceLeDiff,Nat.reduceMul,Nat.reduceBEq,cQ,hwr,aN,ints,List.map_append,List.map_cons,List.map_nil]
           try simp [aJ]
         ·have nn:=no (by rw [hrk,q2];simp)
          (repeat (first|simp only [↓QA,QB,Nat.reduceLT,reduceIte,Nat.reduceEqDiff,Nat.reduceAdd,Nat.reduceLeDiff,Nat.reduceMul,Nat.reduceBEq,cQ,hwr]|refine rd0 rfl ?_))
          refine ⟨(r+1,O,A,ex,ex2,τ),⟨by simp only;omega,nn⟩,by simp only;omega,?_⟩
          try simp only [aC,QE,Nat.reduceLT,reduceIte,Nat.reduceEqDiff,Nat.reduceAdd,Nat.reduceLeDiff,Nat.reduceMul,Nat.reduceBEq,cQ,hwr,aN,ints]
          try simp [aJ]
        ·have nn:=no (by rw [hrk,q1];simp)
         (repeat (first|simp only [↓QA,QB,Nat.reduceLT,reduceIte,Nat.reduceEqDiff,Nat.reduceAdd,Nat.reduceLeDiff,Nat.reduceMul,Nat.reduceBEq,cQ,hwr]|refine rd0 rfl ?_))
         refine ⟨(r+1,O,A,ex,ex2,τ),⟨by simp only;omega,nn⟩,by simp only;omega,?_⟩
         try simp only [aC,QE,Nat.reduceLT,reduceIte,Nat.reduceEqDiff,Nat.reduceAdd,Nat.reduceLeDiff,Nat.reduceMul,Nat.reduceBEq,cQ,hwr,aN,ints]
         try simp [aJ]
       ·have nn:=no (by rw [hrk,q0];simp)
        (repeat (first|simp only [↓QA,QB,Nat.reduceLT,reduceIte,Nat.reduceEqDiff,Nat.reduceAdd,Nat.reduceLeDiff,Nat.reduceMul,Nat.reduceBEq,cQ,q0,hwr]|refine rd0 rfl ?_))
        refine ⟨(r+1,O,A,ex,ex2,τ),⟨by simp only;omega,nn⟩,by simp only;omega,?_⟩
        try simp only [aC,QE,Nat.reduceLT,reduceIte,Nat.reduceEqDiff,Nat.reduceAdd,Nat.reduceLeDiff,Nat.reduceMul,Nat.reduceBEq,cQ,hwr,aN,ints]
        try simp [aJ]
      ·have hr1:r=v.rails.length:=by simp at h3;omega
       rw [hr1,TH] at hA hB
       simp only [List.nil_append,List.filter_nil] at hA hB
       (repeat (first|simp only [↓QA,QB,Nat.reduceLT,reduceIte,Nat.reduceEqDiff,Nat.reduceAdd,Nat.reduceLeDiff,Nat.reduceMul,Nat.reduceBEq,cQ,hwi]|refine rd0 rfl ?_))
       refine ⟨(i+1,O,A,ex,ex2),⟨by simp only;omega,by rw [hF];exact hA,by rw [hF];exact hB⟩,by simp only;omega,?_⟩
       try simp only [aC,QE,Nat.reduceLT,reduceIte,Nat.reduceEqDiff,Nat.reduceAdd,Nat.reduceLeDiff,Nat.reduceMul,Nat.reduceBEq,cQ,hwi,aN,ints]
       try simp [aJ]
    ·have hi1:i=W.length:=by simp at h2;omega
     rw [hi1,List.drop_length] at hA hB
     simp only [List.flatMap_nil,List.append_nil,List.filter_nil] at hA hB
     subst hA hB
     (repeat (first|simp only [↓QA,QB,Nat.reduceLT,reduceIte,Nat.reduceEqDiff,Nat.reduceAdd,Nat.reduceLeDiff,Nat.reduceMul,Nat.reduceBEq,cQ,hwn]|refine rd0 rfl ?_))
     refine ⟨(k+1,ex),by simp only;omega,by simp only;omega,?_⟩
     try simp only [aC,QE,Nat.reduceLT,reduceIte,Nat.reduceEqDiff,Nat.reduceAdd,Nat.reduceLeDiff,Nat.reduceMul,Nat.reduceBEq,cQ,hwn,hX,hY,aN,ints]
     try simp [aJ]
  ·have hk1:k=4:=by
    have h0:¬((k+1:Nat):Int)≤4:=by simpa using h
    omega
   subst hk1
   rw [hZ']
   (repeat (first|simp only [↓QA,QB,Nat.reduceLT,reduceIte,Nat.reduceEqDiff,Nat.reduceAdd,Nat.reduceLeDiff,Nat.reduceMul,Nat.reduceBEq,cQ,aN]|refine rd0 rfl ?_))
   try try simp only [QS,QC,Nat.reduceLT,reduceIte,Nat.reduceEqDiff,Nat.reduceAdd,Nat.reduceLeDiff,Nat.reduceMul,Nat.reduceBEq,cQ]
def B1 (x:List (List Int)×Int):AV:=.tuple [aN x.1,.int .i64 x.2]
theorem KZ (v:Net) (s:Int):clrs [bX v,.int .i64 s,.lit [] true none]=[bX v,.int .i64 s,ints []]:=by simp [clrs,(sA v).2,clr,ints]
theorem BJ (v:Net) (s:Int):okVs 0 [bX v,.int .i64 s,.lit [] true none]:=⟨(sA v).1,by simp [okV,okVs],by simp [okV,okVs],trivial⟩
end Go.Am.Room
set_option maxRecDepth 4000
namespace Go.Am.Room
def dG:=And.intro @bD (And.intro @aI (And.intro @aX (And.intro @aW (And.intro @aV (And.intro @aS (And.intro @bC (And.intro @a9 (And.intro @aZ (And.intro @dH (And.intro @dF (@Nat.not_lt_zero)))))))))))
def dX (s:State):AV:=.agg [.lit (s.closed.map .bool) false none,ints s.mins]
theorem aQ (s:State):dX s = .agg [.lit (s.closed.map .bool) false none,ints s.mins]:=by simp only [dX]
theorem pT (s:State):kV (dX s):=i7 (bE (iL tK s.closed) (bE (kC _) dD))
instance (s:State):Dat (dX s):=⟨pT s⟩
instance (l:List State):Dats (l.map dX):=⟨cL pT l⟩
theorem aY (σ:St) (m d:Nat) (l:List State):cT σ m d (l.map dX)=some (l.map dX):=jC (cL pT l) σ m d
def fF (l:List State):AV:=.lit (l.map dX) false none
theorem cE (l:List State):fF l = .lit (l.map dX) false none:=by simp only [fF]
theorem uI (σ:St) (m d:Nat) (l:List Bool):cT σ m d (l.map .bool)=some (l.map .bool):=jC (cL tK l) σ m d
theorem t9 (l:List Bool):aL 1 (l.map .bool)=true:=oT 1 _ l fun x=>SV _
theorem qV (l:List State):aL 2 (l.map dX)=true:=oT 2 dX l fun x=>by simp [cG,dX,AV.cells,AV.cell,ints]
def QQ (r:Rail) (s:State) (m:Int):List State:=([false,true].filter (tW r.shut)).map fun c=>⟨s.closed++[c],s.mins++[m]⟩
theorem LT (r:Rail) (s:State):yW r s=(aT r.mins.lo (r.mins.hi+1-r.mins.lo).toNat).flatMap (QQ r s):=rfl
def PQ:Nat→List Bool
 |0=>[false,true]
 |1=>[true]
 |_=>[]
def KE (r:Rail) (s:State) (m:Int) (c:Nat):List State:=((PQ c).filter (tW r.shut)).map fun c=>⟨s.closed++[c],s.mins++[m]⟩
theorem JW {c:Nat} (h:c<2) {b:Bool} (hb:((c:Int)==1)=b):PQ c=b::PQ (c+1):=by
 have:c=0∨c=1:=by omega
 rcases this with rfl|rfl
 ·have:b=false:=by rw [←hb];rfl
  subst this;rfl
 ·have:b=true:=by rw [←hb];rfl
  subst this;rfl
theorem DU {a b:Int} (h:a≤b):aT a (b+1-a).toNat=a::aT (a+1) (b+1-(a+1)).toNat:=by
 have:(b+1-a).toNat=(b+1-(a+1)).toNat+1:=by omega
 rw [this,aT]
theorem GS {a b:Int} (h:¬a≤b):aT a (b+1-a).toNat=[]:=by
 have:(b+1-a).toNat=0:=by omega
 rw [this,aT]
theorem wW {rs:List Rail} {k:Nat} (h:k<rs.length):mY rs (k+1)=(mY rs k).flatMap (yW rs[k]):=by
 simp only [mY,List.getElem?_eq_getElem h]
theorem A8 {rs:List Rail} (hr:∀ r∈rs,r.mins.hi≤r.mins.lo+1):∀ k,(mY rs k).length≤4^k
 |0=>by simp [mY]
 |k+1=>by
  have ih:=A8 hr k
  by_cases h:k<rs.length
  ·rw [wW h,Nat.pow_succ]
   refine Nat.le_trans (zB (yW rs[k]) 4 _ fun s _=>?_) (Nat.mul_le_mul_right 4 ih)
   rw [LT]
   have hm:=hr _ (List.getElem_mem h)
   refine Nat.le_trans (zB (QQ rs[k] s) 2 _ fun m _=>?_) ?_
   ·have:=List.length_filter_le (tW rs[k].shut) [false,true]
    simpa [QQ] using this
   ·rw [kE]
    omega
  ·simp only [mY,List.getElem?_eq_none (Nat.le_of_not_lt h)]
   exact Nat.le_trans ih (Nat.pow_le_pow_right (by omega) (by omega))
theorem KG (v:Net) (hv:Vd v):dY T 95 [bX v] (fF (gV v)):=by
 refine bA (af:=a95) rfl (by simp [a95]) dd ?_
 have hnr:=hv.nra
 rw [show gV v=mY v.rails v.rails.length from rfl]
 (repeat (first|simp only [↓QA,QB,Nat.reduceLT,reduceIte,Nat.reduceEqDiff,Nat.reduceAdd,Nat.reduceLeDiff,Nat.reduceMul,Nat.reduceBEq,dG,aQ,aY,a95]|refine rd0 rfl ?_))
 refine bY (S:=Nat) 0 (fun n=>n≤v.rails.length) (fun n=>v.rails.length-n) (fun n=>[(1,.ptr 0 0),(3,fF (mY v.rails n)),(4,.int .i64 n)]) (fun _=>[.cells (aB v)]) (Nat.zero_le _) (by simp [aB,ints]) ?_ fun n hn=>?_
 ·try simp only [aC,QE,Nat.reduceLT,reduceIte,Nat.reduceEqDiff,Nat.reduceAdd,Nat.reduceLeDiff,Nat.reduceMul,Nat.reduceBEq,dG,aQ,aY,cE]
  simp [mY,dX,ints,clr,clrs]
 ·(repeat (first|simp only [↓QA,QB,Nat.reduceLT,reduceIte,Nat.reduceEqDiff,Nat.reduceAdd,Nat.reduceLeDiff,Nat.reduceMul,Nat.reduceBEq,dG,aQ,aY,YM,cE]|refine rd0 rfl ?_))
  refine aG (fun h=>?_) fun h=>?_
  ·have hn1:n<v.rails.length:=by simpa using h
   have hwn:IntKind.i64.wrap ((n:Int)+1)=((n+1:Nat):Int):=bV hn1 (by omega)
   have hwl:∀ j,j≤5→(mY v.rails j).length≤1024:=fun j hj=>Nat.le_trans (A8 (fun r hr=>(hv.ra r hr).mins.2.2.2) j) (Nat.le_trans (Nat.pow_le_pow_right (by omega) hj) (by decide))
   have hsl:=hwl n (by omega)
   have hsl2:=hwl (n+1) (by omega)
   have hin:=sS (rs:=v.rails) n hn
   have hsu:=wW hn1
   have hra:=hv.ra _ (List.getElem_mem hn1)
   obtain ⟨r,hr⟩:∃ r,v.rails[n]=r:=⟨_,rfl⟩
   rw [hr] at hsu hra
   have hmi:=hra.mins
   rw [hsu] at hsl2
   obtain ⟨W,hW⟩:∃ W,mY v.rails n=W:=⟨_,rfl⟩
   rw [hW] at hsl hsl2 hsu hin
   rw [hW]
   obtain ⟨X,hX⟩:∃ X,W.flatMap (yW r)=X:=⟨_,rfl⟩
   rw [hX] at hsl2 hsu
   (repeat (first|simp only [↓QA,QB,Nat.reduceLT,reduceIte,Nat.reduceEqDiff,Nat.reduceAdd,Nat.reduceLeDiff,Nat.reduceMul,Nat.reduceBEq,dG,aQ,aY,hn1,hr]|refine rd0 rfl ?_))
   refine jP 6 2 [] rfl ?_
   refine bY (S:=Nat×List State×Bool) (0,[],false) (fun a=>a.1≤W.length∧a.2.1++(W.drop a.1).flatMap (yW r)=X) (fun a=>W.length-a.1)
    (fun a=>[(1,.ptr 0 0),(3,fF W),(4,.int .i64 n),(5,.ptr 1 0),(6,.lit (a.2.1.map dX) false (some 2)),(7,.int .i64 a.1)])
    (fun a=>[.cells (aB v),.cells [.int .i64 r.a,.int .i64 r.b,.int .i64 r.mins.lo,.int .i64 r.mins.hi,.int .i64 r.shut],.tok 2 a.2.1.length a.2.2]) ⟨Nat.zero_le _,by simpa using hX⟩ (by simp [aB,ints]) ?_ fun a ha=>?_
   ·try simp only [aC,QE,Nat.reduceLT,reduceIte,Nat.reduceEqDiff,Nat.reduceAdd,Nat.reduceLeDiff,Nat.reduceMul,Nat.reduceBEq,dG,aQ,aY,cE]
    try simp
   ·obtain ⟨k,acc,ex⟩:=a
    obtain ⟨hk,hacc⟩:=ha
    simp only at hk hacc
    (repeat (first|simp only [↓QA,QB,Nat.reduceLT,reduceIte,Nat.reduceEqDiff,Nat.reduceAdd,Nat.reduceLeDiff,Nat.reduceMul,Nat.reduceBEq,dG,aQ,aY,ZN,cE]|refine rd0 rfl ?_))
    refine aG (fun h2=>?_) fun h2=>?_
    ·have hk1:k<W.length:=by simpa using h2
     have hwk:=bV hk1 (by omega)
     obtain ⟨s,hs⟩:∃ s,W[k]=s:=⟨_,rfl⟩
     have hcl:=hin _ (List.getElem_mem hk1)
     rw [hs] at hcl
     obtain ⟨hl1,hl2,_⟩:=hcl
     rw [List.drop_eq_getElem_cons hk1,hs,List.flatMap_cons,LT] at hacc
     obtain ⟨F,hF⟩:∃ F,(W.drop (k+1)).flatMap (yW r)=F:=⟨_,rfl⟩
     rw [hF] at hacc
     (repeat (first|simp only [↓QA,QB,Nat.reduceLT,reduceIte,Nat.reduceEqDiff,Nat.reduceAdd,Nat.reduceLeDiff,Nat.reduceMul,Nat.reduceBEq,dG,aQ,aY]|refine rd0 rfl ?_))
     refine bY (S:=Int×List State×Bool×St) (r.mins.lo,acc,ex,[]) (fun a=>r.mins.lo≤a.1∧a.1≤r.mins.hi+1∧a.2.1++((aT a.1 (r.mins.hi+1-a.1).toNat).flatMap (QQ r s)++F)=X) (fun a=>(r.mins.hi+1-a.1).toNat)
      (fun a=>[(1,.ptr 0 0),(3,fF W),(4,.int .i64 n),(5,.ptr 1 0),(6,.lit (a.2.1.map dX) false (some 2)),(7,.int .i64 k),(8,.int .i64 a.1)])
      (fun a=>.cells (aB v)::.cells [.int .i64 r.a,.int .i64 r.b,.int .i64 r.mins.lo,.int .i64 r.mins.hi,.int .i64 r.shut]::.tok 2 a.2.1.length a.2.2.1::a.2.2.2) ⟨Int.le_refl _,by simp only;omega,hacc⟩ (by simp [aB]) ?_ fun a ha=>?_
     ·try simp only [aC,QE,Nat.reduceLT,reduceIte,Nat.reduceEqDiff,Nat.reduceAdd,Nat.reduceLeDiff,Nat.reduceMul,Nat.reduceBEq,dG,aQ,aY,cE]
      try simp
     ·obtain ⟨m,acc,ex,τ⟩:=a
      obtain ⟨hm0,hm1,hacc⟩:=ha
      simp only at hm0 hm1 hacc
      (repeat (first|simp only [↓QA,QB,Nat.reduceLT,reduceIte,Nat.reduceEqDiff,Nat.reduceAdd,Nat.reduceLeDiff,Nat.reduceMul,Nat.reduceBEq,dG,aQ,aY,ZH,cE]|refine rd0 rfl ?_))
      refine aG (fun h3=>?_) fun h3=>?_
      ·have hm2:m≤r.mins.hi:=by simpa using h3
       have hwm:IntKind.i64.wrap (m+1)=m+1:=eO ⟨by omega,by omega⟩
       rw [DU hm2,List.flatMap_cons,List.append_assoc] at hacc
       obtain ⟨G,hG⟩:∃ G,(aT (m+1) (r.mins.hi+1-(m+1)).toNat).flatMap (QQ r s)++F=G:=⟨_,rfl⟩
       rw [hG] at hacc
       (repeat (first|simp only [↓QA,QB,Nat.reduceLT,reduceIte,Nat.reduceEqDiff,Nat.reduceAdd,Nat.reduceLeDiff,Nat.reduceMul,Nat.reduceBEq,dG,aQ,aY]|refine rd0 rfl ?_))
       refine bY (S:=Nat×List State×Bool) (0,acc,ex) (fun a=>a.1≤2∧a.2.1++(KE r s m a.1++G)=X) (fun a=>2-a.1)
        (fun a=>[(1,.ptr 0 0),(3,fF W),(4,.int .i64 n),(5,.ptr 1 0),(6,.lit (a.2.1.map dX) false (some 2)),(7,.int .i64 k),(8,.int .i64 m),(9,.int .i64 a.1)])
        (fun a=>.cells (aB v)::.cells [.int .i64 r.a,.int .i64 r.b,.int .i64 r.mins.lo,.int .i64 r.mins.hi,.int .i64 r.shut]::.tok 2 a.2.1.length a.2.2::τ) ⟨by simp,hacc⟩ (by simp [aB]) ?_ fun a ha=>?_
       ·try simp only [aC,QE,Nat.reduceLT,reduceIte,Nat.reduceEqDiff,Nat.reduceAdd,Nat.reduceLeDiff,Nat.reduceMul,Nat.reduceBEq,dG,aQ,aY,cE]
        try simp
       ·obtain ⟨c,acc,ex⟩:=a
        obtain ⟨hc0,hacc⟩:=ha
        simp only at hc0 hacc
        (repeat (first|simp only [↓QA,QB,Nat.reduceLT,reduceIte,Nat.reduceEqDiff,Nat.reduceAdd,Nat.reduceLeDiff,Nat.reduceMul,Nat.reduceBEq,dG,aQ,aY,YL,cE]|refine rd0 rfl ?_))
        refine aG (fun h4=>?_) fun h4=>?_
        ·have hc2:c<2:=by
          have h0:(c:Int)<2:=by simpa using h4
          omega
         have hwc:=bV hc2 (by omega)
         obtain ⟨b,hb⟩:∃ b,((c:Int)==1)=b:=⟨_,rfl⟩
         rw [KE,JW hc2 hb,List.filter_cons] at hacc
         have hcan:tW r.shut b = !(b&&(r.shut==0)||!b&&(r.shut==1)):=by
          have e0:(r.shut==0)=decide (r.shut=0):=by rw [Bool.eq_iff_iff];simp
          have e1:(r.shut==1)=decide (r.shut=1):=by rw [Bool.eq_iff_iff];simp
          rw [tW,e0,e1]
         have hal:acc.length≤1024:=by
          have:=congrArg List.length hacc
          simp only [List.length_append] at this
          omega
         have b0:∀ (σ:St),cZ 1 1 σ (.lit [] true none) (.lit (s.closed.map .bool) false none)=some ((pH 1 σ (s.closed.map .bool)).1,(pH 1 σ (s.closed.map .bool)).2):=fun σ=>E9 ⟨rfl,t9 _,by simp [room];omega,by simp [room];omega⟩
         have b1:∀ (σ:St),cZ 1 1 (pH 1 σ (s.closed.map .bool)).2 (pH 1 σ (s.closed.map .bool)).1 (.lit [.bool b] true none)=some (.lit (s.closed.map .bool++[.bool b]) false (some σ.length),σ++[.tok 1 (s.closed.length+1) true]):=fun σ=>by
          rw [w7 ⟨t9 _,by simp [aL,AV.cells,AV.cell],by simp [room];omega,by simp [room];omega⟩ (by simp)]
          simp
         have a0:∀ (σ:St),cZ 1 8 σ (.lit [] true none) (.lit (s.mins.map (.int .i64)) false none)=some ((pH 1 σ (s.mins.map (.int .i64))).1,(pH 1 σ (s.mins.map (.int .i64))).2):=fun σ=>E9 ⟨rfl,iE _,by simp [room];omega,by simp [room];omega⟩
         have a1:∀ (σ:St),cZ 1 8 (pH 1 σ (s.mins.map (.int .i64))).2 (pH 1 σ (s.mins.map (.int .i64))).1 (.lit [.int .i64 m] true none)=some (.lit (s.mins.map (.int .i64)++[.int .i64 m]) false (some σ.length),σ++[.tok 1 (s.mins.length+1) true]):=fun σ=>by
          rw [w7 ⟨iE _,by simp [aL,AV.cells,AV.cell],by simp [room];omega,by simp [room];omega⟩ (by simp)]
          simp
         have a2:=fun (b0 b1:ABlk) (τ:St) (t u:Nat)=>iK (σ:=b0::b1::.tok 2 acc.length ex::τ) (t:=2) (ex:=ex) (sz:=2) (b:=48) (xs:=acc.map dX) (ys:=[.agg [.lit (s.closed.map .bool++[.bool b]) false (some t),.lit (s.mins.map (.int .i64)++[.int .i64 m]) false (some u)]]) (f:=true) (tk:=none) ⟨qV acc,by simp [aL,cG,AV.cells,AV.cell],by simp [room];omega,by simp [room];omega⟩ (by simp) acc.length (by simp) rfl
         have yes:tW r.shut b=true→(acc++[(⟨s.closed++[b],s.mins++[m]⟩:State)])++(KE r s m (c+1)++G)=X:=fun q=>by
          rw [q] at hacc
          rw [←hacc];simp [KE]
         have no:tW r.shut b=false→acc++(KE r s m (c+1)++G)=X:=fun q=>by
          rw [q] at hacc
          rw [←hacc];simp [KE]
         (repeat (first|simp only [↓QA,QB,Nat.reduceLT,reduceIte,Nat.reduceEqDiff,Nat.reduceAdd,Nat.reduceLeDiff,Nat.reduceMul,Nat.reduceBEq,dG,aQ,aY,hb]|refine rd0 rfl ?_))
         cases b
         ·cases q1:(r.shut==1)
          ·have hy:=yes (by rw [hcan,q1];simp)
           (repeat (first|simp only [↓QA,QB,Nat.reduceLT,reduceIte,Nat.reduceEqDiff,Nat.reduceAdd,Nat.reduceLeDiff,Nat.reduceMul,Nat.reduceBEq,dG,aQ,aY,q1]|refine rd0 rfl ?_))
           refine pP [.cells [.lit [] true none,.lit [] true none]] rfl ?_
           (repeat (first|simp only [↓QA,QB,Nat.reduceLT,reduceIte,Nat.reduceEqDiff,Nat.reduceAdd,Nat.reduceLeDiff,Nat.reduceMul,Nat.reduceBEq,dG,aQ,aY,hk1,hs,ints,b0,b1,a0,a1,a2]|refine rd0 rfl ?_))
           refine ⟨(c+1,acc++[⟨s.closed++[false],s.mins++[m]⟩],true),⟨by simp only;omega,hy⟩,by simp only;omega,?_⟩
           try simp only [aC,QE,Nat.reduceLT,reduceIte,Nat.reduceEqDiff,Nat.reduceAdd,Nat.reduceLeDiff,Nat.reduceMul,Nat.reduceBEq,dG,aQ,aY,hwc,cE,ints,uI,List.map_append,List.map_cons,List.map_nil]
           try simp [aJ]
          ·have hy:=no (by rw [hcan,q1];simp)
           (repeat (first|simp only [↓QA,QB,Nat.reduceLT,reduceIte,Nat.reduceEqDiff,Nat.reduceAdd,Nat.reduceLeDiff,Nat.reduceMul,Nat.reduceBEq,dG,aQ,aY,q1]|refine rd0 rfl ?_))
           refine ⟨(c+1,acc,ex),⟨by simp only;omega,hy⟩,by simp only;omega,?_⟩
           try simp only [aC,QE,Nat.reduceLT,reduceIte,Nat.reduceEqDiff,Nat.reduceAdd,Nat.reduceLeDiff,Nat.reduceMul,Nat.reduceBEq,dG,aQ,aY,hwc,cE,ints]
           try simp [aJ]
         ·cases q1:(r.shut==0)
          ·have hy:=yes (by rw [hcan,q1];simp)
           (repeat (first|simp only [↓QA,QB,Nat.reduceLT,reduceIte,Nat.reduceEqDiff,Nat.reduceAdd,Nat.reduceLeDiff,Nat.reduceMul,Nat.reduceBEq,dG,aQ,aY,q1]|refine rd0 rfl ?_))
           refine pP [.cells [.lit [] true none,.lit [] true none]] rfl ?_
           (repeat (first|simp only [↓QA,QB,Nat.reduceLT,reduceIte,Nat.reduceEqDiff,Nat.reduceAdd,Nat.reduceLeDiff,Nat.reduceMul,Nat.reduceBEq,dG,aQ,aY,hk1,hs,ints,b0,b1,a0,a1,a2]|refine rd0 rfl ?_))
           refine ⟨(c+1,acc++[⟨s.closed++[true],s.mins++[m]⟩],true),⟨by simp only;omega,hy⟩,by simp only;omega,?_⟩
           try simp only [aC,QE,Nat.reduceLT,reduceIte,Nat.reduceEqDiff,Nat.reduceAdd,Nat.reduceLeDiff,Nat.reduceMul,Nat.reduceBEq,dG,aQ,aY,hwc,cE,ints,uI,List.map_append,List.map_cons,List.map_nil]
           try simp [aJ]
          ·have hy:=no (by rw [hcan,q1];simp)
           (repeat (first|simp only [↓QA,QB,Nat.reduceLT,reduceIte,Nat.reduceEqDiff,Nat.reduceAdd,Nat.reduceLeDiff,Nat.reduceMul,Nat.reduceBEq,dG,aQ,aY,q1]|refine rd0 rfl ?_))
           refine ⟨(c+1,acc,ex),⟨by simp only;omega,hy⟩,by simp only;omega,?_⟩
           try simp only [aC,QE,Nat.reduceLT,reduceIte,Nat.reduceEqDiff,Nat.reduceAdd,Nat.reduceLeDiff,Nat.reduceMul,Nat.reduceBEq,dG,aQ,aY,hwc,cE,ints]
           try simp [aJ]
        ·have hc2:c=2:=by
          have h0:¬(c:Int)<2:=by simpa using h4
          omega
         subst hc2
         have he:KE r s m 2=[]:=rfl
         rw [he,List.nil_append,←hG] at hacc
         (repeat (first|simp only [↓QA,QB,Nat.reduceLT,reduceIte,Nat.reduceEqDiff,Nat.reduceAdd,Nat.reduceLeDiff,Nat.reduceMul,Nat.reduceBEq,dG,aQ,aY,hwm]|refine rd0 rfl ?_))
         refine ⟨(m+1,acc,ex,τ),⟨by simp only;omega,by simp only;omega,hacc⟩,by simp only;omega,?_⟩
         try simp only [aC,QE,Nat.reduceLT,reduceIte,Nat.reduceEqDiff,Nat.reduceAdd,Nat.reduceLeDiff,Nat.reduceMul,Nat.reduceBEq,dG,aQ,aY,hwm,cE,ints]
         try simp [aJ]
      ·have hm2:¬m≤r.mins.hi:=by simpa using h3
       rw [GS hm2] at hacc
       simp only [List.flatMap_nil,List.nil_append] at hacc
       (repeat (first|simp only [↓QA,QB,Nat.reduceLT,reduceIte,Nat.reduceEqDiff,Nat.reduceAdd,Nat.reduceLeDiff,Nat.reduceMul,Nat.reduceBEq,dG,aQ,aY,hwk]|refine rd0 rfl ?_))
       refine ⟨(k+1,acc,ex),⟨by simp only;omega,by rw [hF];exact hacc⟩,by simp only;omega,?_⟩
       try simp only [aC,QE,Nat.reduceLT,reduceIte,Nat.reduceEqDiff,Nat.reduceAdd,Nat.reduceLeDiff,Nat.reduceMul,Nat.reduceBEq,dG,aQ,aY,hwk,cE,ints]
       try simp [aJ]
    ·have hk1:k=W.length:=by simp at h2;omega
     rw [hk1,List.drop_length] at hacc
     simp only [List.flatMap_nil,List.append_nil] at hacc
     subst hacc
     (repeat (first|simp only [↓QA,QB,Nat.reduceLT,reduceIte,Nat.reduceEqDiff,Nat.reduceAdd,Nat.reduceLeDiff,Nat.reduceMul,Nat.reduceBEq,dG,aQ,aY,hwn]|refine rd0 rfl ?_))
     refine ⟨n+1,by omega,by omega,?_⟩
     try simp only [aC,QE,Nat.reduceLT,reduceIte,Nat.reduceEqDiff,Nat.reduceAdd,Nat.reduceLeDiff,Nat.reduceMul,Nat.reduceBEq,dG,aQ,aY,hwn,hsu,cE,ints]
     try simp [aJ]
  ·have hn1:n=v.rails.length:=by simp at h;omega
   subst hn1
   (repeat (first|simp only [↓QA,QB,Nat.reduceLT,reduceIte,Nat.reduceEqDiff,Nat.reduceAdd,Nat.reduceLeDiff,Nat.reduceMul,Nat.reduceBEq,dG,aQ,aY,cE]|refine rd0 rfl ?_))
   try try simp only [QS,QC,Nat.reduceLT,reduceIte,Nat.reduceEqDiff,Nat.reduceAdd,Nat.reduceLeDiff,Nat.reduceMul,Nat.reduceBEq,dG,aQ,aY]
end Go.Am.Room
set_option maxRecDepth 4000
namespace Go.Am.Room
def eM:=And.intro @bD (And.intro @aI (And.intro @aX (And.intro @aW (And.intro @aV (And.intro @aS (And.intro @bC (And.intro @a9 (And.intro @aZ (And.intro @dH (And.intro @dF (And.intro @Nat.not_lt_zero (And.intro @aQ (And.intro @aY (@uI))))))))))))))
def eZ (x:Stay):AV:=.agg [.int .i64 x.tram,.int .i64 x.rail,.int .i64 x.frm,.int .i64 x.til]
theorem bH (x:Stay):eZ x = .agg [.int .i64 x.tram,.int .i64 x.rail,.int .i64 x.frm,.int .i64 x.til]:=by simp only [eZ]
theorem tO (x:Stay):kV (eZ x):=i7 (bE (cR _ _) (bE (cR _ _) (bE (cR _ _) (bE (cR _ _) dD))))
instance (x:Stay):Dat (eZ x):=⟨tO x⟩
instance (l:List Stay):Dats (l.map eZ):=⟨cL tO l⟩
theorem bR (σ:St) (m d:Nat) (l:List Stay):cT σ m d (l.map eZ)=some (l.map eZ):=jC (cL tO l) σ m d
def FL (l:List Stay):AV:=.lit (l.map eZ) false none
theorem AP (l:List Stay):FL l = .lit (l.map eZ) false none:=by simp only [FL]
theorem A2 (l:List Stay):aL 4 (l.map eZ)=true:=oT 4 eZ l fun x=>by simp [cG,eZ,AV.cells,AV.cell]
theorem AF {α:Type} {p:α→Bool} {l:List α} {k:Nat} (h:k<l.length):(l.take (k+1)).any p=((l.take k).any p||p l[k]):=by
 rw [List.take_succ_eq_append_getElem h,List.any_append];simp
def N4 (ss:List Stay) (rail m s r:Int) (k:Nat) (n:Int):Prop:=(n=r∧(ss.take k).any (iB rail r m)=false)∨(r<n∧qO ss rail m s n)
theorem SW (ss:List Stay) (rail ready m B:Int) (hl:ss.length<9223372036854775808) (hB:∀ x∈ss,x.til≤B) (h0:0≤ready) (hr:ready≤B) (hB2:B≤1000) (hm:0≤m∧m≤20) :
  dY T 96 [.lit (ss.map eZ) false none,.int .i64 rail,.int .i64 ready,.int .i64 m] (.int .i64 (jN ss rail ready m)):=by
 refine bA (af:=a96) rfl (by simp [a96]) dd ?_
 have hfi:=xR (rail:=rail) (m:=m) hB (show B≤ready+1000 by omega)
 obtain ⟨Z,hZ⟩:∃ Z,jN ss rail ready m=Z:=⟨_,rfl⟩
 rw [hZ] at hfi ⊢
 (repeat (first|simp only [↓QA,QB,Nat.reduceLT,reduceIte,Nat.reduceEqDiff,Nat.reduceAdd,Nat.reduceLeDiff,Nat.reduceMul,Nat.reduceBEq,eM,bH,bR,a96]|refine rd0 rfl ?_))
 refine bY (S:=Int) ready (fun r=>qO ss rail m ready r) (fun r=>(B-r).toNat)
  (fun r=>[(0,.lit (ss.map eZ) false none),(1,.int .i64 rail),(2,.int .i64 r),(3,.int .i64 m)]) (fun _=>[]) (DW _ _ _ _) rfl ?_ fun r hb=>?_
 ·try simp only [aC,QE,Nat.reduceLT,reduceIte,Nat.reduceEqDiff,Nat.reduceAdd,Nat.reduceLeDiff,Nat.reduceMul,Nat.reduceBEq,eM,bH,bR]
  try simp
 ·have hrB:=y5 hB hb hr
  have hr0:=hb.1
  have hwm:IntKind.i64.wrap (r+m)=r+m:=eO ⟨by omega,by omega⟩
  (repeat (first|simp only [↓QA,QB,Nat.reduceLT,reduceIte,Nat.reduceEqDiff,Nat.reduceAdd,Nat.reduceLeDiff,Nat.reduceMul,Nat.reduceBEq,eM,bH,bR,XR]|refine rd0 rfl ?_))
  refine bY (S:=Nat×Int) (0,r) (fun a=>a.1≤ss.length∧N4 ss rail m ready r a.1 a.2) (fun a=>ss.length-a.1)
   (fun a=>[(0,.lit (ss.map eZ) false none),(1,.int .i64 rail),(2,.int .i64 r),(3,.int .i64 m),(9,.int .i64 a.2),(10,.int .i64 a.1)]) (fun _=>[]) ⟨by simp,.inl ⟨rfl,by simp⟩⟩ rfl ?_ fun a ha=>?_
  ·try simp only [aC,QE,Nat.reduceLT,reduceIte,Nat.reduceEqDiff,Nat.reduceAdd,Nat.reduceLeDiff,Nat.reduceMul,Nat.reduceBEq,eM,bH,bR]
   try simp
  ·obtain ⟨k,n⟩:=a
   obtain ⟨hk,hlk⟩:=ha
   simp only at hk hlk
   (repeat (first|simp only [↓QA,QB,Nat.reduceLT,reduceIte,Nat.reduceEqDiff,Nat.reduceAdd,Nat.reduceLeDiff,Nat.reduceMul,Nat.reduceBEq,eM,bH,bR,YI]|refine rd0 rfl ?_))
   refine aG (fun h=>?_) fun h=>?_
   ·have hk1:k<ss.length:=by simpa using h
    have hw:=bV hk1 hl
    obtain ⟨x,hx⟩:∃ x,ss[k]=x:=⟨_,rfl⟩
    have hxm:x∈ss:=by rw [←hx];exact List.getElem_mem hk1
    have hat:=AF (p:=iB rail r m) hk1
    rw [hx] at hat
    have no:iB rail r m x=false→N4 ss rail m ready r (k+1) n:=fun q=>by
     rcases hlk with ⟨e,a⟩|e
     ·exact .inl ⟨e,by rw [hat,a,q];rfl⟩
     ·exact .inr e
    have yes:iB rail r m x=true→N4 ss rail m ready r (k+1) (max n x.til):=fun q=>by
     have q1:=vX q
     have q2:=CP hb hxm (Int.le_refl r) q (fun y h1 h2=>by omega)
     right
     refine ⟨by omega,?_⟩
     rcases hlk with ⟨e,_⟩|⟨e1,e2⟩
     ·rw [Int.max_eq_right (by omega)];exact q2
     ·by_cases hc:n≤x.til
      ·rw [Int.max_eq_right hc];exact q2
      ·rw [Int.max_eq_left (by omega)];exact e2
    have hcl:iB rail r m x=((x.rail==rail)&&decide (x.frm<r+m)&&decide (r<x.til)):=by
     have:decide (x.rail=rail)=(x.rail==rail):=by rw [Bool.eq_iff_iff];simp
     rw [iB,this]
    (repeat (first|simp only [↓QA,QB,Nat.reduceLT,reduceIte,Nat.reduceEqDiff,Nat.reduceAdd,Nat.reduceLeDiff,Nat.reduceMul,Nat.reduceBEq,eM,bH,bR,hk1,hx]|refine rd0 rfl ?_))
    cases q1:(x.rail==rail)
    ·have nn:=no (by rw [hcl,q1];simp)
     (repeat (first|simp only [↓QA,QB,Nat.reduceLT,reduceIte,Nat.reduceEqDiff,Nat.reduceAdd,Nat.reduceLeDiff,Nat.reduceMul,Nat.reduceBEq,eM,bH,bR,q1,hw]|refine rd0 rfl ?_))
     refine ⟨(k+1,n),⟨by simp only;omega,nn⟩,by simp only;omega,?_⟩
     try simp only [aC,QE,Nat.reduceLT,reduceIte,Nat.reduceEqDiff,Nat.reduceAdd,Nat.reduceLeDiff,Nat.reduceMul,Nat.reduceBEq,eM,bH,bR,hw]
     try simp [aJ]
    ·cases q2:decide (x.frm<r+m)
     ·have nn:=no (by rw [hcl,q1,q2];simp)
      (repeat (first|simp only [↓QA,QB,Nat.reduceLT,reduceIte,Nat.reduceEqDiff,Nat.reduceAdd,Nat.reduceLeDiff,Nat.reduceMul,Nat.reduceBEq,eM,bH,bR,q1,hw,hwm,q2]|refine rd0 rfl ?_))
      refine ⟨(k+1,n),⟨by simp only;omega,nn⟩,by simp only;omega,?_⟩
      try simp only [aC,QE,Nat.reduceLT,reduceIte,Nat.reduceEqDiff,Nat.reduceAdd,Nat.reduceLeDiff,Nat.reduceMul,Nat.reduceBEq,eM,bH,bR,hw]
      try simp [aJ]
     ·cases q3:decide (r<x.til)
      ·have nn:=no (by rw [hcl,q1,q2,q3];simp)
       (repeat (first|simp only [↓QA,QB,Nat.reduceLT,reduceIte,Nat.reduceEqDiff,Nat.reduceAdd,Nat.reduceLeDiff,Nat.reduceMul,Nat.reduceBEq,eM,bH,bR,q1,hw,hwm,q2,q3]|refine rd0 rfl ?_))
       refine ⟨(k+1,n),⟨by simp only;omega,nn⟩,by simp only;omega,?_⟩
       try simp only [aC,QE,Nat.reduceLT,reduceIte,Nat.reduceEqDiff,Nat.reduceAdd,Nat.reduceLeDiff,Nat.reduceMul,Nat.reduceBEq,eM,bH,bR,hw]
       try simp [aJ]
      ·have nn:=yes (by rw [hcl,q1,q2,q3];simp)
       (repeat (first|simp only [↓QA,QB,Nat.reduceLT,reduceIte,Nat.reduceEqDiff,Nat.reduceAdd,Nat.reduceLeDiff,Nat.reduceMul,Nat.reduceBEq,eM,bH,bR,q1,hw,hwm,q2,q3]|refine rd0 rfl ?_))
       refine ⟨(k+1,max n x.til),⟨by simp only;omega,nn⟩,by simp only;omega,?_⟩
       try simp only [aC,QE,Nat.reduceLT,reduceIte,Nat.reduceEqDiff,Nat.reduceAdd,Nat.reduceLeDiff,Nat.reduceMul,Nat.reduceBEq,eM,bH,bR,hw]
       try simp [aJ]
   ·have hk1:k=ss.length:=by simp at h;omega
    rw [hk1] at hlk
    rcases hlk with ⟨e,a⟩|⟨e1,e2⟩
    ·rw [List.take_length] at a
     have hz:=D9 hfi (DF hb a)
     subst e
     have g:(n==n)=true:=by simp
     (repeat (first|simp only [↓QA,QB,Nat.reduceLT,reduceIte,Nat.reduceEqDiff,Nat.reduceAdd,Nat.reduceLeDiff,Nat.reduceMul,Nat.reduceBEq,eM,bH,bR,g,hz]|refine rd0 rfl ?_))
    ·have g:(n==r)=false:=by simp;omega
     have hnB:=y5 hB e2 hr
     (repeat (first|simp only [↓QA,QB,Nat.reduceLT,reduceIte,Nat.reduceEqDiff,Nat.reduceAdd,Nat.reduceLeDiff,Nat.reduceMul,Nat.reduceBEq,eM,bH,bR,g]|refine rd0 rfl ?_))
     refine ⟨n,e2,by omega,?_⟩
     try simp only [aC,QE,Nat.reduceLT,reduceIte,Nat.reduceEqDiff,Nat.reduceAdd,Nat.reduceLeDiff,Nat.reduceMul,Nat.reduceBEq,eM,bH,bR]
     try simp [aJ]
theorem UT (v:Net) (hv:Vd v):dY T 50 [bX v] (aN (gR v)):=by
 refine bA (af:=a50) rfl (by simp [a50]) dd ?_
 have hnt:=hv.ntr
 (repeat (first|simp only [↓QA,QB,Nat.reduceLT,reduceIte,Nat.reduceEqDiff,Nat.reduceAdd,Nat.reduceLeDiff,Nat.reduceMul,Nat.reduceBEq,eM,bH,bR,a50]|refine rd0 rfl ?_))
 refine jP 3 1 [] rfl ?_
 refine bY (S:=Nat×Bool) (0,false) (fun a=>a.1≤v.trams.length) (fun a=>v.trams.length-a.1)
  (fun a=>[(1,.ptr 0 0),(3,.lit (((v.trams.take a.1).map Tram.path).map ints) false (some 1)),(4,.int .i64 a.1)]) (fun a=>[.cells (aB v),.tok 1 a.1 a.2]) (Nat.zero_le _) (by simp [aB,ints]) ?_ fun a ha=>?_
 ·try simp only [aC,QE,Nat.reduceLT,reduceIte,Nat.reduceEqDiff,Nat.reduceAdd,Nat.reduceLeDiff,Nat.reduceMul,Nat.reduceBEq,eM,bH,bR]
  try simp
 ·obtain ⟨k,ex⟩:=a
  simp only at ha
  (repeat (first|simp only [↓QA,QB,Nat.reduceLT,reduceIte,Nat.reduceEqDiff,Nat.reduceAdd,Nat.reduceLeDiff,Nat.reduceMul,Nat.reduceBEq,eM,bH,bR,ZF]|refine rd0 rfl ?_))
  refine aG (fun h=>?_) fun h=>?_
  ·have hk1:k<v.trams.length:=by simpa using h
   have hw:=bV hk1 (by omega)
   have htk:(v.trams.take (k+1)).map Tram.path=(v.trams.take k).map Tram.path++[v.trams[k].path]:=by
    rw [List.take_succ_eq_append_getElem hk1,List.map_append];rfl
   have hlen:((v.trams.take k).map Tram.path).length=k:=by simp;omega
   obtain ⟨t,ht⟩:∃ t,v.trams[k]=t:=⟨_,rfl⟩
   rw [ht] at htk
   obtain ⟨P,hP⟩:∃ P,(v.trams.take k).map Tram.path=P:=⟨_,rfl⟩
   rw [hP] at htk hlen
   have a2:=fun (b0:ABlk) (τ:St)=>iK (σ:=b0::.tok 1 k ex::τ) (t:=1) (ex:=ex) (sz:=1) (b:=24) (xs:=P.map ints) (ys:=[.lit (t.path.map (.int .i64)) false none]) (f:=true) (tk:=none) ⟨iM P,by simp [aL,AV.cells,AV.cell],by simp [room];omega,by simp [room];omega⟩ (by simp) k (by simp [hlen]) rfl
   rw [hP]
   (repeat (first|simp only [↓QA,QB,Nat.reduceLT,reduceIte,Nat.reduceEqDiff,Nat.reduceAdd,Nat.reduceLeDiff,Nat.reduceMul,Nat.reduceBEq,eM,bH,bR,hk1,ht,ints,a2]|refine rd0 rfl ?_))
   refine ⟨(k+1,true),by simp only;omega,by simp only;omega,?_⟩
   try simp only [aC,QE,Nat.reduceLT,reduceIte,Nat.reduceEqDiff,Nat.reduceAdd,Nat.reduceLeDiff,Nat.reduceMul,Nat.reduceBEq,eM,bH,bR,hw,htk,aN,ints,List.map_append,List.map_cons,List.map_nil]
   try simp [aJ]
  ·have hk1:k=v.trams.length:=by simp at h;omega
   rw [hk1,List.take_length]
   (repeat (first|simp only [↓QA,QB,Nat.reduceLT,reduceIte,Nat.reduceEqDiff,Nat.reduceAdd,Nat.reduceLeDiff,Nat.reduceMul,Nat.reduceBEq,eM,bH,bR,aN,gR]|refine rd0 rfl ?_))
   try try simp only [QS,QC,Nat.reduceLT,reduceIte,Nat.reduceEqDiff,Nat.reduceAdd,Nat.reduceLeDiff,Nat.reduceMul,Nat.reduceBEq,eM,bH,bR]
end Go.Am.Room
set_option maxRecDepth 4000
namespace Go.Am.Room
def dJ:=And.intro @bD (And.intro @aI (And.intro @aX (And.intro @aW (And.intro @aV (And.intro @aS (And.intro @bC (And.intro @a9 (And.intro @aZ (And.intro @dH (And.intro @dF (And.intro @Nat.not_lt_zero (And.intro @aQ (And.intro @aY (And.intro @bH (And.intro @bR (@uI))))))))))))))))
structure StOk (v:Net) (s:State):Prop where
 cl:s.closed.length=v.rails.length
 mi:s.mins.length=v.rails.length
 bd:∀ i (h:i<s.mins.length),1≤s.mins[i]∧s.mins[i]≤20
theorem ST {v:Net} {s:State} (hs:StOk v s) {R:Nat} (h1:R<s.closed.length) (h2:R<s.mins.length):eff s (R:Int)=if s.closed[R]=true then 0 else s.mins[R]:=by
 simp [eff,h1,h2]
theorem KY {v:Net} {s:State} (hs:StOk v s):BS v (eff s):=by
 intro r h0 h1
 obtain ⟨R,rfl⟩:∃ R:Nat,r=R:=⟨r.toNat,by omega⟩
 have c1:=hs.cl
 have c2:=hs.mi
 rw [ST hs (by omega) (by omega)]
 have:=hs.bd R (by omega)
 split<;>omega
def P3 (x:List Stay×List Int):AV:=.tuple [FL x.1,ints x.2]
theorem TU {p:List Int} {f:Int→Bool} {k:Nat} (h:k=p.length):(p.take k).any f=p.any f:=by rw [h,List.take_length]
theorem IN (v:Net) (m:Int→Int) (ps:List (List Int)) (k:Nat):dP v m ps (k+1)=((jZ m k (lT v k) (cH ps k) (dP v m ps k).1).1,(dP v m ps k).2++[(jZ m k (lT v k) (cH ps k) (dP v m ps k).1).2]):=rfl
theorem LB (v:Net) (hv:Vd v) (s:State) (hs:StOk v s) (ps:List (List Int)) (hp:RunOk v ps):dY T 49 [bX v,dX s,aN ps] (P3 (dP v (eff s) ps v.trams.length)):=by
 refine bA (af:=a49) rfl (by simp [a49]) dd ?_
 have hnt:=hv.ntr
 have hpl:=hp.len
 have c1:=hs.cl
 have c2:=hs.mi
 have hbd:=JR hv (KY hs) hp
 obtain ⟨m,hm⟩:∃ m,eff s=m:=⟨_,rfl⟩
 have hmb:=KY hs
 have hea:=fun R h1 h2=>ST hs (R:=R) h1 h2
 rw [hm] at hmb hbd
 simp only [hm] at hea ⊢
 (repeat (first|simp only [↓QA,QB,Nat.reduceLT,reduceIte,Nat.reduceEqDiff,Nat.reduceAdd,Nat.reduceLeDiff,Nat.reduceMul,Nat.reduceBEq,dJ,a49,aN]|refine rd0 rfl ?_))
 refine jP 8 4 [] rfl ?_
 (repeat (first|simp only [↓QA,QB,Nat.reduceLT,reduceIte,Nat.reduceEqDiff,Nat.reduceAdd,Nat.reduceLeDiff,Nat.reduceMul,Nat.reduceBEq,dJ]|refine rd0 rfl ?_))
 refine jP 9 1 [] rfl ?_
 refine bY (S:=Nat×Bool×Bool) (0,false,false) (fun a=>a.1≤v.trams.length) (fun a=>v.trams.length-a.1)
  (fun a=>[(2,aN ps),(3,.ptr 0 0),(4,.ptr 1 0),(8,.lit ((dP v m ps a.1).1.map eZ) false (some 2)),(9,.lit ((dP v m ps a.1).2.map (.int .i64)) false (some 3)),(10,.int .i64 a.1)])
  (fun a=>[.cells (aB v),.cells [.lit (s.closed.map .bool) false none,ints s.mins],.tok 4 (dP v m ps a.1).1.length a.2.1,.tok 1 a.1 a.2.2]) (Nat.zero_le _) (by simp [aB,ints,dP]) ?_ fun a ha=>?_
 ·try simp only [aC,QE,Nat.reduceLT,reduceIte,Nat.reduceEqDiff,Nat.reduceAdd,Nat.reduceLeDiff,Nat.reduceMul,Nat.reduceBEq,dJ,aN,ints]
  try simp [dP]
 ·obtain ⟨i,ex,ex2⟩:=a
  simp only at ha
  (repeat (first|simp only [↓QA,QB,Nat.reduceLT,reduceIte,Nat.reduceEqDiff,Nat.reduceAdd,Nat.reduceLeDiff,Nat.reduceMul,Nat.reduceBEq,dJ,ZO,aN]|refine rd0 rfl ?_))
  refine aG (fun h=>?_) fun h=>?_
  ·have hi1:i<v.trams.length:=by simpa using h
   have hwi:=bV hi1 (by omega)
   have hip:i<ps.length:=by omega
   obtain ⟨b1,b2⟩:=hbd i (by omega)
   have hlc:=oE v m ps i
   have hsu:=IN v m ps i
   have hto:=sD hv hi1
   have hpm:=A6 hp hi1
   have hp4:=hp.few _ hpm
   have hpr:=hp.rails _ hpm
   have hpe:cH ps i=ps[i]:=by simp [cH,hip]
   rw [s9 hi1,hpe] at hsu
   rw [hpe] at hp4 hpr
   obtain ⟨t,ht⟩:∃ t,v.trams[i]=t:=⟨_,rfl⟩
   obtain ⟨p,hpp⟩:∃ p,ps[i]=p:=⟨_,rfl⟩
   rw [ht] at hto hsu
   rw [hpp] at hp4 hpr hsu
   have hlv:=hto.leaves
   obtain ⟨L,hL⟩:∃ L,t.leaves=L:=⟨_,rfl⟩
   rw [hL] at hlv hsu
   obtain ⟨SS,hSS⟩:∃ SS,(dP v m ps i).1=SS:=⟨_,rfl⟩
   obtain ⟨OO,hOO⟩:∃ OO,(dP v m ps i).2=OO:=⟨_,rfl⟩
   rw [hSS] at b1 hsu
   rw [hOO] at b2 hlc hsu
   have hgo:jZ m i L p SS=if p.any (fun r=>m r==0)=true then (SS,-1) else mK m i p L SS:=rfl
   rw [hSS,hOO]
   obtain ⟨R,hR⟩:∃ R,jZ m i L p SS=R:=⟨_,rfl⟩
   rw [hR] at hsu hgo
   have hsu1:(dP v m ps (i+1)).1=R.1:=by rw [hsu]
   have hsu2:(dP v m ps (i+1)).2=OO++[R.2]:=by rw [hsu]
   have aO:=fun (b0 b1 b2:ABlk) (τ:St) (ex2:Bool)=>iK (σ:=b0::b1::b2::.tok 1 i ex2::τ) (t:=3) (ex:=ex2) (sz:=1) (b:=8) (xs:=OO.map (.int .i64)) (ys:=[.int .i64 R.2]) (f:=true) (tk:=none) ⟨iE OO,by simp [aL,AV.cells,AV.cell],by simp [room];omega,by simp [room];omega⟩ (by simp) i (by simp [hlc]) rfl
   (repeat (first|simp only [↓QA,QB,Nat.reduceLT,reduceIte,Nat.reduceEqDiff,Nat.reduceAdd,Nat.reduceLeDiff,Nat.reduceMul,Nat.reduceBEq,dJ,hi1,ht,hL,hip,hpp,aN]|refine rd0 rfl ?_))
   refine bY (S:=Nat) 0 (fun k=>k≤p.length) (fun k=>p.length-k)
    (fun k=>[(2,aN ps),(3,.ptr 0 0),(4,.ptr 1 0),(8,.lit (SS.map eZ) false (some 2)),(9,.lit (OO.map (.int .i64)) false (some 3)),(10,.int .i64 i),(11,.int .i64 (if (p.take k).any (fun r=>m r==0)=true then -1 else L)),(12,.int .i64 k)])
    (fun k=>[.cells (aB v),.cells [.lit (s.closed.map .bool) false none,ints s.mins],.tok 4 SS.length ex,.tok 1 i ex2]) (Nat.zero_le _) (by simp [aB,ints]) ?_ fun k hk=>?_
   ·try simp only [aC,QE,Nat.reduceLT,reduceIte,Nat.reduceEqDiff,Nat.reduceAdd,Nat.reduceLeDiff,Nat.reduceMul,Nat.reduceBEq,dJ,aN,ints]
    try simp
   ·(repeat (first|simp only [↓QA,QB,Nat.reduceLT,reduceIte,Nat.reduceEqDiff,Nat.reduceAdd,Nat.reduceLeDiff,Nat.reduceMul,Nat.reduceBEq,dJ,ZI,aN,hip,hpp]|refine rd0 rfl ?_))
    refine aG (fun h2=>?_) fun h2=>?_
    ·have hk1:k<p.length:=by simpa using h2
     have hwk:=bV hk1 (by omega)
     have hat:=AF (p:=fun r=>m r==0) hk1
     have hpk:=hpr _ (List.getElem_mem hk1)
     obtain ⟨r,hr⟩:∃ r:Nat,p[k]=(r:Int):=⟨p[k].toNat,by omega⟩
     rw [hr] at hat hpk
     have hr1:r<s.closed.length:=by omega
     have hr2:r<s.mins.length:=by omega
     have hmr:=hea r hr1 hr2
     have hmi:=hs.bd r hr2
     obtain ⟨cb,hcb⟩:∃ cb,s.closed[r]=cb:=⟨_,rfl⟩
     rw [hcb] at hmr
     (repeat (first|simp only [↓QA,QB,Nat.reduceLT,reduceIte,Nat.reduceEqDiff,Nat.reduceAdd,Nat.reduceLeDiff,Nat.reduceMul,Nat.reduceBEq,dJ,hk1,hr,hr1,hcb,hip,hpp]|refine rd0 rfl ?_))
     cases cb
     ·have h0:(m (r:Int)==0)=false:=by rw [hmr];simp;omega
      rw [h0,Bool.or_false] at hat
      (repeat (first|simp only [↓QA,QB,Nat.reduceLT,reduceIte,Nat.reduceEqDiff,Nat.reduceAdd,Nat.reduceLeDiff,Nat.reduceMul,Nat.reduceBEq,dJ,hwk]|refine rd0 rfl ?_))
      refine ⟨k+1,by omega,by omega,?_⟩
      try simp only [aC,QE,Nat.reduceLT,reduceIte,Nat.reduceEqDiff,Nat.reduceAdd,Nat.reduceLeDiff,Nat.reduceMul,Nat.reduceBEq,dJ,hwk,hat,aN,ints]
      try simp [aJ]
     ·have h0:(m (r:Int)==0)=true:=by rw [hmr];simp
      rw [h0,Bool.or_true] at hat
      (repeat (first|simp only [↓QA,QB,Nat.reduceLT,reduceIte,Nat.reduceEqDiff,Nat.reduceAdd,Nat.reduceLeDiff,Nat.reduceMul,Nat.reduceBEq,dJ,hwk]|refine rd0 rfl ?_))
      refine ⟨k+1,by omega,by omega,?_⟩
      try simp only [aC,QE,Nat.reduceLT,reduceIte,Nat.reduceEqDiff,Nat.reduceAdd,Nat.reduceLeDiff,Nat.reduceMul,Nat.reduceBEq,dJ,hwk,hat,aN,ints]
      try simp [aJ]
    ·have hk1:k=p.length:=by simp at h2;omega
     rw [TU hk1]
     cases hc:p.any (fun r=>m r==0)
     ·rw [hc] at hgo
      simp only [Bool.false_eq_true,if_false] at hgo ⊢
      (repeat (first|simp only [↓QA,QB,Nat.reduceLT,reduceIte,Nat.reduceEqDiff,Nat.reduceAdd,Nat.reduceLeDiff,Nat.reduceMul,Nat.reduceBEq,dJ]|refine rd0 rfl ?_))
      refine bY (S:=Nat×Int×List Stay×Bool) (0,L,SS,ex) (fun a=>a.1≤p.length∧0≤a.2.1∧a.2.1≤60+20*(4*i+a.1:Nat)∧StaysOk a.2.2.1 (4*i+a.1)∧mK m i (p.drop a.1) a.2.1 a.2.2.1=R) (fun a=>p.length-a.1)
       (fun a=>[(2,aN ps),(3,.ptr 0 0),(4,.ptr 1 0),(8,.lit (a.2.2.1.map eZ) false (some 2)),(9,.lit (OO.map (.int .i64)) false (some 3)),(10,.int .i64 i),(11,.int .i64 a.2.1),(13,.int .i64 a.1)])
       (fun a=>[.cells (aB v),.cells [.lit (s.closed.map .bool) false none,ints s.mins],.tok 4 a.2.2.1.length a.2.2.2,.tok 1 i ex2]) ⟨by simp,by simp only;omega,by simp only;omega,b1,hgo.symm⟩ (by simp [aB,ints]) ?_ fun a ha=>?_
      ·try simp only [aC,QE,Nat.reduceLT,reduceIte,Nat.reduceEqDiff,Nat.reduceAdd,Nat.reduceLeDiff,Nat.reduceMul,Nat.reduceBEq,dJ,aN,ints]
       try simp
      ·obtain ⟨j,at_,SS,ex⟩:=a
       obtain ⟨hj,ha0,ha1,hso,hgo⟩:=ha
       simp only at hj ha0 ha1 hso hgo
       have hne:(at_==-1)=false:=by simp;omega
       by_cases hj1:j<p.length
       ·have g:decide ((j:Int)<(p.length:Int))=true:=by simp;omega
        have hwj:=bV hj1 (by omega)
        have hpk:=hpr _ (List.getElem_mem hj1)
        rw [List.drop_eq_getElem_cons hj1] at hgo
        obtain ⟨r,hr⟩:∃ r:Nat,p[j]=(r:Int):=⟨p[j].toNat,by omega⟩
        rw [hr] at hpk hgo
        have hr1:r<s.closed.length:=by omega
        have hr2:r<s.mins.length:=by omega
        have hmr:=hea r hr1 hr2
        have hmi:=hs.bd r hr2
        have hopen:s.closed[r]=false:=by
         rw [List.any_eq_false] at hc
         have:=hc _ (List.getElem_mem hj1)
         rw [hr,hmr] at this
         cases hq:s.closed[r]
         ·rfl
         ·rw [hq] at this;simp at this
        rw [hopen] at hmr
        simp only [Bool.false_eq_true,if_false] at hmr
        obtain ⟨M,hM⟩:∃ M,s.mins[r]=M:=⟨_,rfl⟩
        rw [hM] at hmr hmi
        simp only [mK,hmr] at hgo
        obtain ⟨f1,f2,f3⟩:=E2 (rail:=(r:Int)) (m:=M) hso (by omega) ha0 ha1
        have hsl:=hso.len
        have hfr:=SW SS r at_ M (60+20*((4*i+j:Nat):Int)) (by omega) hso.til ha0 ha1 (by omega) (by omega)
        obtain ⟨F,hF⟩:∃ F,jN SS r at_ M=F:=⟨_,rfl⟩
        rw [hF] at hgo f2 f3 hfr
        have hwF:IntKind.i64.wrap (F+M)=F+M:=eO ⟨by omega,by omega⟩
        have a8:=fun (b0 b1:ABlk) (τ:St)=>iK (σ:=b0::b1::.tok 4 SS.length ex::τ) (t:=2) (ex:=ex) (sz:=4) (b:=32) (xs:=SS.map eZ) (ys:=[.agg [.int .i64 i,.int .i64 r,.int .i64 F,.int .i64 (F+M)]]) (f:=true) (tk:=none) ⟨A2 SS,by simp [aL,cG,AV.cells,AV.cell],by simp [room];omega,by simp [room];omega⟩ (by simp) SS.length (by simp) rfl
        (repeat (first|simp only [↓QA,QB,Nat.reduceLT,reduceIte,Nat.reduceEqDiff,Nat.reduceAdd,Nat.reduceLeDiff,Nat.reduceMul,Nat.reduceBEq,dJ,KX,aN,hip,hpp,g,hne,hj1,hr,hr2,hM,ints]|refine rd0 rfl ?_))
        ((first|refine s7 (hfr) (by try simp only [QS,QC,Nat.reduceLT,reduceIte,Nat.reduceEqDiff,Nat.reduceAdd,Nat.reduceLeDiff,Nat.reduceMul,Nat.reduceBEq,dJ]) trivial ?_|refine wF (hfr) (by try simp only [QS,QC,Nat.reduceLT,reduceIte,Nat.reduceEqDiff,Nat.reduceAdd,Nat.reduceLeDiff,Nat.reduceMul,Nat.reduceBEq,dJ]) trivial ?_);(repeat (first|simp only [↓QA,QB,Nat.reduceLT,reduceIte,Nat.reduceEqDiff,Nat.reduceAdd,Nat.reduceLeDiff,Nat.reduceMul,Nat.reduceBEq,dJ,hj1,hr,hr2,hM,ints,hwF,a8,hwj]|refine rd0 rfl ?_)))
        refine ⟨(j+1,F+M,SS++[⟨i,r,F,F+M⟩],true),⟨by simp only;omega,by simp only;omega,by simp only;omega,?_,hgo⟩,by simp only;omega,?_⟩
        ·refine ⟨by simp;omega,fun x hx=>?_,fun x hx=>?_⟩
         ·rcases List.mem_append.1 hx with hx|hx
          ·have:=hso.til x hx;simp only;omega
          ·simp only [List.mem_singleton] at hx;subst hx;simp only;omega
         ·rcases List.mem_append.1 hx with hx|hx
          ·exact hso.frm x hx
          ·simp only [List.mem_singleton] at hx;subst hx;simp only;omega
        ·try simp only [aC,QE,Nat.reduceLT,reduceIte,Nat.reduceEqDiff,Nat.reduceAdd,Nat.reduceLeDiff,Nat.reduceMul,Nat.reduceBEq,dJ,hwj,aN,ints,List.map_append,List.map_cons,List.map_nil]
         try simp [aJ]
       ·have g:decide ((j:Int)<(p.length:Int))=false:=by simp;omega
        rw [List.drop_eq_nil_of_le (by omega),mK] at hgo
        subst hgo
        (repeat (first|simp only [↓QA,QB,Nat.reduceLT,reduceIte,Nat.reduceEqDiff,Nat.reduceAdd,Nat.reduceLeDiff,Nat.reduceMul,Nat.reduceBEq,dJ,KX,aN,hip,hpp,g,aO,hwi]|refine rd0 rfl ?_))
        refine ⟨(i+1,ex,true),by simp only;omega,by simp only;omega,?_⟩
        try simp only [aC,QE,Nat.reduceLT,reduceIte,Nat.reduceEqDiff,Nat.reduceAdd,Nat.reduceLeDiff,Nat.reduceMul,Nat.reduceBEq,dJ,hwi,hsu1,hsu2,aN,ints,List.map_append,List.map_cons,List.map_nil]
        try simp [aJ]
     ·rw [hc] at hgo
      simp only [if_true] at hgo ⊢
      subst hgo
      have hne:((-1:Int)==-1)=true:=by decide
      (repeat (first|simp only [↓QA,QB,Nat.reduceLT,reduceIte,Nat.reduceEqDiff,Nat.reduceAdd,Nat.reduceLeDiff,Nat.reduceMul,Nat.reduceBEq,dJ]|refine rd0 rfl ?_))
      refine bY (S:=Unit) () (fun a=>True) (fun a=>0)
       (fun a=>[(2,aN ps),(3,.ptr 0 0),(4,.ptr 1 0),(8,.lit (SS.map eZ) false (some 2)),(9,.lit (OO.map (.int .i64)) false (some 3)),(10,.int .i64 i),(11,.int .i64 (-1)),(13,.int .i64 0)])
       (fun a=>[.cells (aB v),.cells [.lit (s.closed.map .bool) false none,ints s.mins],.tok 4 SS.length ex,.tok 1 i ex2]) trivial (by simp [aB,ints]) ?_ fun a ha=>?_
      ·try simp only [aC,QE,Nat.reduceLT,reduceIte,Nat.reduceEqDiff,Nat.reduceAdd,Nat.reduceLeDiff,Nat.reduceMul,Nat.reduceBEq,dJ,aN,ints]
       try simp
      ·(repeat (first|simp only [↓QA,QB,Nat.reduceLT,reduceIte,Nat.reduceEqDiff,Nat.reduceAdd,Nat.reduceLeDiff,Nat.reduceMul,Nat.reduceBEq,dJ,KX,aN,hip,hpp,hne]|refine rd0 rfl ?_))
       cases hg:decide ((0:Int)<(p.length:Int))
       ·(repeat (first|simp only [↓QA,QB,Nat.reduceLT,reduceIte,Nat.reduceEqDiff,Nat.reduceAdd,Nat.reduceLeDiff,Nat.reduceMul,Nat.reduceBEq,dJ,hg,hne,aO,hwi]|refine rd0 rfl ?_))
        refine ⟨(i+1,ex,true),by simp only;omega,by simp only;omega,?_⟩
        try simp only [aC,QE,Nat.reduceLT,reduceIte,Nat.reduceEqDiff,Nat.reduceAdd,Nat.reduceLeDiff,Nat.reduceMul,Nat.reduceBEq,dJ,hwi,hsu1,hsu2,aN,ints,List.map_append,List.map_cons,List.map_nil]
        try simp [aJ]
       ·(repeat (first|simp only [↓QA,QB,Nat.reduceLT,reduceIte,Nat.reduceEqDiff,Nat.reduceAdd,Nat.reduceLeDiff,Nat.reduceMul,Nat.reduceBEq,dJ,hg,hne,aO,hwi]|refine rd0 rfl ?_))
        refine ⟨(i+1,ex,true),by simp only;omega,by simp only;omega,?_⟩
        try simp only [aC,QE,Nat.reduceLT,reduceIte,Nat.reduceEqDiff,Nat.reduceAdd,Nat.reduceLeDiff,Nat.reduceMul,Nat.reduceBEq,dJ,hwi,hsu1,hsu2,aN,ints,List.map_append,List.map_cons,List.map_nil]
        try simp [aJ]
  ·have hi1:i=v.trams.length:=by simp at h;omega
   rw [hi1]
   (repeat (first|simp only [↓QA,QB,Nat.reduceLT,reduceIte,Nat.reduceEqDiff,Nat.reduceAdd,Nat.reduceLeDiff,Nat.reduceMul,Nat.reduceBEq,dJ,P3,AP]|refine rd0 rfl ?_))
   try try simp only [QS,QC,Nat.reduceLT,reduceIte,Nat.reduceEqDiff,Nat.reduceAdd,Nat.reduceLeDiff,Nat.reduceMul,Nat.reduceBEq,dJ]
end Go.Am.Room
set_option maxRecDepth 4000
namespace Go.Am.Room
def eU:=And.intro @bD (And.intro @aI (And.intro @aX (And.intro @aW (And.intro @aV (And.intro @aS (And.intro @bC (And.intro @a9 (And.intro @aZ (And.intro @dH (And.intro @dF (And.intro @Nat.not_lt_zero (And.intro @aQ (And.intro @aY (And.intro @bH (And.intro @bR (And.intro @uI (@cE)))))))))))))))))
instance (l:List Bool):Dats (l.map .bool):=⟨cL tK l⟩
theorem X2 {v:Net} (hv:Vd v):∀ k,k≤v.rails.length→∀ s∈mY v.rails k,∀ i (h:i<s.mins.length),1≤s.mins[i]∧s.mins[i]≤20
 |0,_,s,hs,i,h=>by simp [mY] at hs;subst hs;simp at h
 |k+1,hk,s,hs,i,h=>by
  have hk1:k<v.rails.length:=by omega
  rw [wW hk1] at hs
  simp only [List.mem_flatMap,yW,List.mem_map,List.mem_filter] at hs
  obtain ⟨s0,hs0,m,hm,c,_,rfl⟩:=hs
  have hl0:=(sS k (by omega) s0 hs0).2.1
  simp only [List.length_append,List.length_cons,List.length_nil] at h
  by_cases e:i=s0.mins.length
  ·subst e
   have:=(hv.ra _ (List.getElem_mem hk1)).mins
   have:=lC.1 hm
   simp
   omega
  ·have hi:i<s0.mins.length:=by omega
   have:=X2 hv k (by omega) s0 hs0 i hi
   simp only [List.getElem_append_left hi]
   exact this
theorem EE {v:Net} (hv:Vd v) {s:State} (h:s∈gV v):StOk v s:=by
 have hl:=nV h
 exact ⟨hl.1,hl.2,X2 hv _ (Nat.le_refl _) s h⟩
theorem BO {v:Net} (hv:Vd v):(gV v).length≤1024 :=
 Nat.le_trans (A8 (fun r hr=>(hv.ra r hr).mins.2.2.2) _) (Nat.le_trans (Nat.pow_le_pow_right (by omega) hv.nra) (by decide))
theorem zQ {v:Net} (hv:Vd v) (but:List Int):(bF v but).length≤1024:=Nat.le_trans (List.length_filter_le _ _) (BO hv)
theorem Q5 {v:Net} (hv:Vd v) {bl:List Int} {s:State} (h:s∈bF v bl):StOk v s:=EE hv (List.mem_filter.1 h).1
theorem MY (v:Net) (s:State):(iF v s).length=v.trams.length:=oE _ _ _ _
theorem LW {cs:List Int} {t:Nat} (h:t<cs.length):d8 cs (t:Int)=cs[t]:=by simp [d8,h]
def FX (v:Net) (s:State):List AV:=(dP v (eff s) (gR v) v.trams.length).1.map eZ
theorem PZ (v:Net) (hv:Vd v) (s:State) (hs:StOk v s):dY T 49 [bX v,dX s,aN (gR v)] (.tuple [.lit (FX v s) false none,ints (iF v s)]):=LB v hv s hs (gR v) (TC hv)
def nF (v:Net) (but cs:List Int) (n:Nat):Bool:=(List.range n).all fun k=>match v.seen[k]? with|some x=>but.contains (k:Int)||d8 cs x.tram==x.minute|none=>true
theorem uS (v:Net) (but cs:List Int):nF v but cs v.seen.length=kX v but cs:=rfl
theorem yB {v:Net} {k:Nat} (hk:k<v.seen.length) (but cs:List Int):nF v but cs (k+1)=(nF v but cs k&&(but.contains (k:Int)||d8 cs v.seen[k].tram==v.seen[k].minute)):=by
 simp [nF,List.range_succ,List.all_append,hk]
theorem BC (v:Net) (hv:Vd v) (but:List Int) (hbu:but.length<9223372036854775808):dY T 48 [bX v,ints but] (fF (bF v but)):=by
 refine bA (af:=a48) rfl (by simp [a48]) dd ?_
 have hse:=hv.nse
 have hwl:=BO hv
 have hwo:=fun s=>EE hv (s:=s)
 have hst:=KG v hv
 have how:=UT v hv
 obtain ⟨R,hR⟩:∃ R,bF v but=R:=⟨_,rfl⟩
 have hRl:=zQ hv but
 rw [hR] at hRl ⊢
 have hR':[]++((gV v).drop 0).filter (fun s=>kX v but (iF v s))=R:=hR
 obtain ⟨W,hW⟩:∃ W,gV v=W:=⟨_,rfl⟩
 rw [hW] at hwl hst hR'
 simp only [hW] at hwo
 obtain ⟨PO,hPO⟩:∃ PO,gR v=PO:=⟨_,rfl⟩
 (repeat (first|simp only [↓QA,QB,Nat.reduceLT,reduceIte,Nat.reduceEqDiff,Nat.reduceAdd,Nat.reduceLeDiff,Nat.reduceMul,Nat.reduceBEq,eU,a48]|refine rd0 rfl ?_))
 ((first|refine aE (hst) rfl dd ?_|refine aF (hst) rfl dd ?_);(repeat (first|simp only [↓QA,QB,Nat.reduceLT,reduceIte,Nat.reduceEqDiff,Nat.reduceAdd,Nat.reduceLeDiff,Nat.reduceMul,Nat.reduceBEq,eU]|refine rd0 rfl ?_)))
 refine jP 6 2 [] rfl ?_
 refine bY (S:=Nat×List State×Bool) (0,[],false) (fun a=>a.1≤W.length∧a.2.1++(W.drop a.1).filter (fun s=>kX v but (iF v s))=R) (fun a=>W.length-a.1)
  (fun a=>[(1,ints but),(2,.ptr 0 0),(5,fF W),(6,.lit (a.2.1.map dX) false (some 1)),(7,.int .i64 a.1)])
  (fun a=>[.cells (aB v),.tok 2 a.2.1.length a.2.2]) ⟨Nat.zero_le _,hR'⟩ (by simp [aB,ints]) ?_ fun a ha=>?_
 ·try simp only [aC,QE,Nat.reduceLT,reduceIte,Nat.reduceEqDiff,Nat.reduceAdd,Nat.reduceLeDiff,Nat.reduceMul,Nat.reduceBEq,eU]
  try simp
 ·obtain ⟨k,acc,ex⟩:=a
  obtain ⟨hk,hacc⟩:=ha
  simp only at hk hacc
  (repeat (first|simp only [↓QA,QB,Nat.reduceLT,reduceIte,Nat.reduceEqDiff,Nat.reduceAdd,Nat.reduceLeDiff,Nat.reduceMul,Nat.reduceBEq,eU,YA]|refine rd0 rfl ?_))
  refine aG (fun hd=>?_) fun hd=>?_
  ·have hk1:k<W.length:=by simpa using hd
   have hw:=bV hk1 (by omega)
   have hso:=hwo _ (List.getElem_mem hk1)
   obtain ⟨s,hs⟩:∃ s,W[k]=s:=⟨_,rfl⟩
   rw [hs] at hso
   rw [List.drop_eq_getElem_cons hk1,hs,List.filter_cons] at hacc
   have hal:acc.length≤1024:=by
    have:=congrArg List.length hacc
    simp only [List.length_append] at this
    omega
   have hrun:=PZ v hv s hso
   have hcl:=MY v s
   obtain ⟨C,hC⟩:∃ C,iF v s=C:=⟨_,rfl⟩
   obtain ⟨SS,hSS⟩:∃ SS,FX v s=SS:=⟨_,rfl⟩
   rw [hPO] at hrun how
   rw [hC] at hrun hcl hacc
   rw [hSS] at hrun
   simp only [aQ] at hrun
   have hap:=fun (b0:ABlk) (τ:St)=>iK (σ:=b0::.tok 2 acc.length ex::τ) (t:=1) (ex:=ex) (sz:=2) (b:=48) (xs:=acc.map dX) (ys:=[.agg [.lit (s.closed.map .bool) false none,.lit (s.mins.map (.int .i64)) false none]]) (f:=true) (tk:=none) ⟨qV acc,by simp [aL,cG,AV.cells,AV.cell],by simp [room];omega,by simp [room];omega⟩ (by simp) acc.length (by simp) rfl
   (repeat (first|simp only [↓QA,QB,Nat.reduceLT,reduceIte,Nat.reduceEqDiff,Nat.reduceAdd,Nat.reduceLeDiff,Nat.reduceMul,Nat.reduceBEq,eU,hk1,hs,ints]|refine rd0 rfl ?_))
   ((first|refine aE (how) rfl dd ?_|refine aF (how) rfl dd ?_);(repeat (first|simp only [↓QA,QB,Nat.reduceLT,reduceIte,Nat.reduceEqDiff,Nat.reduceAdd,Nat.reduceLeDiff,Nat.reduceMul,Nat.reduceBEq,eU,hk1,hs,ints]|refine rd0 rfl ?_)))
   ((first|refine aE (hrun) rfl dd ?_|refine aF (hrun) rfl dd ?_);(repeat (first|simp only [↓QA,QB,Nat.reduceLT,reduceIte,Nat.reduceEqDiff,Nat.reduceAdd,Nat.reduceLeDiff,Nat.reduceMul,Nat.reduceBEq,eU,hk1,hs,ints]|refine rd0 rfl ?_)))
   refine bY (S:=Nat) 0 (fun j=>j≤v.seen.length) (fun j=>v.seen.length-j)
    (fun j=>[(1,ints but),(2,.ptr 0 0),(5,fF W),(6,.lit (acc.map dX) false (some 1)),(7,.int .i64 k),(9,ints C),(10,.bool (nF v but C j)),(11,.int .i64 j)])
    (fun j=>[.cells (aB v),.tok 2 acc.length ex]) (Nat.zero_le _) (by simp [aB,ints]) ?_ fun j hj=>?_
   ·try simp only [aC,QE,Nat.reduceLT,reduceIte,Nat.reduceEqDiff,Nat.reduceAdd,Nat.reduceLeDiff,Nat.reduceMul,Nat.reduceBEq,eU,ints]
    try simp [nF]
   ·(repeat (first|simp only [↓QA,QB,Nat.reduceLT,reduceIte,Nat.reduceEqDiff,Nat.reduceAdd,Nat.reduceLeDiff,Nat.reduceMul,Nat.reduceBEq,eU,X3]|refine rd0 rfl ?_))
    refine aG (fun h2=>?_) fun h2=>?_
    ·have hj1:j<v.seen.length:=by simpa using h2
     have hwj:=bV hj1 (by omega)
     have hsu:=yB hj1 but C
     have hsx:=hv.se _ (List.getElem_mem hj1)
     obtain ⟨x,hx⟩:∃ x,v.seen[j]=x:=⟨_,rfl⟩
     rw [hx] at hsu hsx
     obtain ⟨t,ht⟩:∃ t:Nat,x.tram=t:=⟨x.tram.toNat,by omega⟩
     rw [ht] at hsu hsx
     have htl:t<C.length:=by omega
     rw [LW htl] at hsu
     obtain ⟨q,hq⟩:∃ q,nF v but C j=q:=⟨_,rfl⟩
     rw [hq] at hsu
     rw [hq]
     cases q
     ·rw [Bool.false_and] at hsu
      (repeat (first|simp only [↓QA,QB,Nat.reduceLT,reduceIte,Nat.reduceEqDiff,Nat.reduceAdd,Nat.reduceLeDiff,Nat.reduceMul,Nat.reduceBEq,eU,hwj]|refine rd0 rfl ?_))
      refine ⟨j+1,by omega,by omega,?_⟩
      try simp only [aC,QE,Nat.reduceLT,reduceIte,Nat.reduceEqDiff,Nat.reduceAdd,Nat.reduceLeDiff,Nat.reduceMul,Nat.reduceBEq,eU,hwj,hsu,ints]
      try simp [aJ]
     ·rw [Bool.true_and] at hsu
      (repeat (first|simp only [↓QA,QB,Nat.reduceLT,reduceIte,Nat.reduceEqDiff,Nat.reduceAdd,Nat.reduceLeDiff,Nat.reduceMul,Nat.reduceBEq,eU]|refine rd0 rfl ?_))
      ((first|refine aE (rS but (j:Int) hbu) rfl dd ?_|refine aF (rS but (j:Int) hbu) rfl dd ?_);(repeat (first|simp only [↓QA,QB,Nat.reduceLT,reduceIte,Nat.reduceEqDiff,Nat.reduceAdd,Nat.reduceLeDiff,Nat.reduceMul,Nat.reduceBEq,eU]|refine rd0 rfl ?_)))
      cases hb:but.contains (j:Int)
      ·rw [hb,Bool.false_or] at hsu
       (repeat (first|simp only [↓QA,QB,Nat.reduceLT,reduceIte,Nat.reduceEqDiff,Nat.reduceAdd,Nat.reduceLeDiff,Nat.reduceMul,Nat.reduceBEq,eU,hj1,hx,ht,htl,hwj]|refine rd0 rfl ?_))
       refine ⟨j+1,by omega,by omega,?_⟩
       try simp only [aC,QE,Nat.reduceLT,reduceIte,Nat.reduceEqDiff,Nat.reduceAdd,Nat.reduceLeDiff,Nat.reduceMul,Nat.reduceBEq,eU,hwj,hsu,ints]
       try simp [aJ]
      ·rw [hb,Bool.true_or] at hsu
       (repeat (first|simp only [↓QA,QB,Nat.reduceLT,reduceIte,Nat.reduceEqDiff,Nat.reduceAdd,Nat.reduceLeDiff,Nat.reduceMul,Nat.reduceBEq,eU,hwj]|refine rd0 rfl ?_))
       refine ⟨j+1,by omega,by omega,?_⟩
       try simp only [aC,QE,Nat.reduceLT,reduceIte,Nat.reduceEqDiff,Nat.reduceAdd,Nat.reduceLeDiff,Nat.reduceMul,Nat.reduceBEq,eU,hwj,hsu,ints]
       try simp [aJ]
    ·have hj1:j=v.seen.length:=by simp at h2;omega
     rw [hj1,uS]
     cases hc:kX v but C
     ·rw [hc] at hacc
      simp only [Bool.false_eq_true,if_false] at hacc
      (repeat (first|simp only [↓QA,QB,Nat.reduceLT,reduceIte,Nat.reduceEqDiff,Nat.reduceAdd,Nat.reduceLeDiff,Nat.reduceMul,Nat.reduceBEq,eU,hw]|refine rd0 rfl ?_))
      refine ⟨(k+1,acc,ex),⟨by simp only;omega,hacc⟩,by simp only;omega,?_⟩
      try simp only [aC,QE,Nat.reduceLT,reduceIte,Nat.reduceEqDiff,Nat.reduceAdd,Nat.reduceLeDiff,Nat.reduceMul,Nat.reduceBEq,eU,hw,ints]
      try simp [aJ]
     ·rw [hc] at hacc
      simp only [if_true] at hacc
      (repeat (first|simp only [↓QA,QB,Nat.reduceLT,reduceIte,Nat.reduceEqDiff,Nat.reduceAdd,Nat.reduceLeDiff,Nat.reduceMul,Nat.reduceBEq,eU,hk1,hs,ints,hap,hw]|refine rd0 rfl ?_))
      refine ⟨(k+1,acc++[s],true),⟨by simp only;omega,by rw [←hacc];simp⟩,by simp only;omega,?_⟩
      try simp only [aC,QE,Nat.reduceLT,reduceIte,Nat.reduceEqDiff,Nat.reduceAdd,Nat.reduceLeDiff,Nat.reduceMul,Nat.reduceBEq,eU,hw,ints,List.map_append,List.map_cons,List.map_nil]
      try simp [aJ]
  ·have hk1:k=W.length:=by simp at hd;omega
   rw [hk1,List.drop_length] at hacc
   simp only [List.filter_nil,List.append_nil] at hacc
   subst hacc
   (repeat (first|simp only [↓QA,QB,Nat.reduceLT,reduceIte,Nat.reduceEqDiff,Nat.reduceAdd,Nat.reduceLeDiff,Nat.reduceMul,Nat.reduceBEq,eU]|refine rd0 rfl ?_))
   try try simp only [QS,QC,Nat.reduceLT,reduceIte,Nat.reduceEqDiff,Nat.reduceAdd,Nat.reduceLeDiff,Nat.reduceMul,Nat.reduceBEq,eU]
theorem GA (v:Net):clrs [bX v,.lit [] true none]=[bX v,ints []]:=by simp [clrs,(sA v).2,clr,ints]
theorem xS (v:Net):okVs 0 [bX v,.lit [] true none]:=⟨(sA v).1,by simp [okV,okVs],trivial⟩
theorem tI {a:Nat} (h:a<9223372036854775808):(BitVec.ofInt 64 (a:Int)).toNat=a:=by
 rw [BitVec.toNat_ofInt]
 omega
theorem aAV (a b:Nat) (ha:a<4611686018427387904) (hb:b<4611686018427387904):fX .or (.int .i64 (a:Int)) (.int .i64 (b:Int))=some (.int .i64 ((a|||b:Nat):Int)):=by
 have h1:(BitVec.ofInt 64 (a:Int)|||BitVec.ofInt 64 (b:Int)).toNat=a|||b:=by rw [BitVec.toNat_or,tI (by omega),tI (by omega)]
 have h2:a|||b<2^62:=Nat.or_lt_two_pow (by omega) (by omega)
 have h3:Go.Am.bits .or .i64 (a:Int) (b:Int)=((a|||b:Nat):Int):=by
  show IntKind.i64.wrap (((BitVec.ofInt 64 (a:Int)|||BitVec.ofInt 64 (b:Int)).toNat:Nat):Int)=_
  rw [h1]
  exact eO ⟨by omega,by omega⟩
 simp [fX,lK,h3]
def CD (a b:Nat):Nat:=a &&& (2^64-(b+1))
theorem GR {b:Nat} (hb:b<9223372036854775808) (a i:Nat) (ha:a<9223372036854775808):(CD a b).testBit i=(a.testBit i&&!b.testBit i):=by
 rw [CD,Nat.testBit_and,Nat.testBit_two_pow_sub_succ (by omega)]
 by_cases hi:i<64
 ·simp [hi]
 ·have:a.testBit i=false:=Nat.testBit_lt_two_pow (Nat.lt_of_lt_of_le (show a<2^63 by omega) (Nat.pow_le_pow_right (by omega) (by omega)))
  simp [this]
theorem LV (a b:Nat):CD a b≤a:=Nat.and_le_left
theorem HU (a b:Nat) (ha:a<9223372036854775808) (hb:b<9223372036854775808):fX .andNot (.int .i64 (a:Int)) (.int .i64 (b:Int))=some (.int .i64 ((CD a b:Nat):Int)):=by
 have h1:(BitVec.ofInt 64 (a:Int) &&& ~~~BitVec.ofInt 64 (b:Int)).toNat=CD a b:=by
  rw [BitVec.toNat_and,BitVec.toNat_not,tI ha,tI hb,CD]
  congr 1
  omega
 have h2:=LV a b
 have h3:Go.Am.bits .andNot .i64 (a:Int) (b:Int)=((CD a b:Nat):Int):=by
  show IntKind.i64.wrap (((BitVec.ofInt 64 (a:Int) &&& ~~~BitVec.ofInt 64 (b:Int)).toNat:Nat):Int)=_
  rw [h1]
  exact eO ⟨by omega,by omega⟩
 simp [fX,lK,h3]
theorem kH {i:Nat} (h:i≤60):2^i≤1152921504606846976:=by
 calc 2^i≤2^60:=Nat.pow_le_pow_right (by omega) h
  _=1152921504606846976:=by decide
theorem uM (i:Nat) (h:i≤60):fX .shl (.int .i64 1) (.int .i64 (i:Int))=some (.int .i64 ((2^i:Nat):Int)):=by
 have hm:Nat.min i 64=i:=Nat.min_eq_left (by omega)
 have h0:¬(i:Int)<0:=by omega
 have hp:=kH h
 have hc:(1:Int)*2^i=((2^i:Nat):Int):=by rw [Int.one_mul];exact (Int.natCast_pow 2 i).symm
 simp only [fX,h0,if_false,IntKind.bits,Int.toNat_natCast,hm,hc]
 generalize 2^i=q at hp
 rw [eO ⟨by omega,by omega⟩]
theorem wC (a i:Nat):a.testBit i=decide (a/2^i%2=1):=Nat.testBit_eq_decide_div_mod_eq
theorem KV {n s:Nat} {x:Int}:x∈lst n s↔(0≤x∧x<n)∧s.testBit x.toNat=true:=by
 simp only [lst,List.mem_filter,cF,wC]
 constructor
 ·rintro ⟨h1,h2⟩;exact ⟨by omega,h2⟩
 ·rintro ⟨h1,h2⟩;exact ⟨by omega,h2⟩
theorem VH {n s i:Nat} (h:i<n):(lst n s).contains (i:Int)=s.testBit i:=by
 rw [Bool.eq_iff_iff,List.contains_iff_mem,KV]
 simp only [Int.toNat_natCast]
 constructor
 ·rintro ⟨_,h2⟩;exact h2
 ·intro h2;exact ⟨⟨by omega,by omega⟩,h2⟩
theorem EX (a:Nat):((a:Int)==0)=decide (a=0):=by rw [Bool.eq_iff_iff];simp
structure ButIs (b:Nat) (bl:List Int):Prop where
 lt:b<9223372036854775808
 bit:∀ i:Nat,i<5→(((b/2^i%2:Nat):Int)==0) = !bl.contains (i:Int)
theorem OM:ButIs 0 []:=⟨by omega,fun i hi=>by simp⟩
theorem VU {n set:Nat} (hn:n≤5) (hs:set<2^n):ButIs set (lst n set):=by
 have hp:2^n≤2^5:=Nat.pow_le_pow_right (by omega) hn
 refine ⟨by omega,fun i hi=>?_⟩
 have e:(((set/2^i%2:Nat):Int)==0) = !set.testBit i:=by
  rw [wC,EX,Bool.eq_iff_iff]
  simp
 rw [e]
 by_cases h:i<n
 ·rw [VH h]
 ·have h1:set.testBit i=false:=Nat.testBit_lt_two_pow (Nat.lt_of_lt_of_le hs (Nat.pow_le_pow_right (by omega) (by omega)))
  have h2:(lst n set).contains (i:Int)=false:=by
   rw [Bool.eq_false_iff]
   intro hc
   rw [List.contains_iff_mem,KV] at hc
   omega
  rw [h1,h2]
theorem pK {σ:St} {i:Nat} {cs:List AV} (h:aK σ i=some cs):i<σ.length:=by
 unfold aK at h
 by_cases hi:i<σ.length
 ·exact hi
 ·rw [List.getElem?_eq_none (by omega)] at h
  cases h
theorem j5 {σ:St} {i:Nat} {cs:List AV} (h:aK σ i=some cs) (τ:St):aK (σ++τ) i=some cs:=by
 have hl:=pK h
 simp only [aK] at h ⊢
 rw [List.getElem?_append_left hl]
 exact h
end Go.Am.Room
namespace Go.Am.Room
structure MemAt {M:Type} (S:M→St) (obj:List AV) (es:M→List (AV×AV)) (p m N:Nat):Prop where
 len:∀ M,(S M).length=N
 at0:∀ M,aK (S M) p=some obj
 map0:∀ M,(S M)[m]? = some (.map (es M))
 mset:∀ M M',(S M).set m (.map (es M'))=S M'
 ok:∀ M k,aJ k (.map (es M))
 pl:p<N
 ml:m<N
namespace MemAt
variable {M:Type} {S:M→St} {obj:List AV} {es:M→List (AV×AV)} {p m N:Nat}
theorem base (h:MemAt S obj es p m N) (A:M) (τ:St) (k:Nat):aK (S A++τ) (N+k)=aK τ k:=by rw [←h.len A];exact sK _ _ _
theorem base0 (h:MemAt S obj es p m N) (A:M) (τ:St):aK (S A++τ) N=aK τ 0:=h.base A τ 0
theorem bset (h:MemAt S obj es p m N) (A:M) (τ:St) (k:Nat) (x:ABlk):(S A++τ).set (N+k) x=S A++τ.set k x:=by rw [←h.len A];exact oN _ _ _ _
theorem bset0 (h:MemAt S obj es p m N) (A:M) (τ:St) (x:ABlk):(S A++τ).set N x=S A++τ.set 0 x:=h.bset A τ 0 x
theorem at1 (h:MemAt S obj es p m N) (A:M) (τ:St):aK (S A++τ) p=some (obj):=by
 have:=h.at0 A
 have hl:=h.pl
 rw [←h.len A] at hl
 simp only [aK] at this ⊢
 rw [List.getElem?_append_left hl]
 exact this
theorem map1 (h:MemAt S obj es p m N) (A:M) (τ:St):(S A++τ)[m]? = some (.map (es A)):=by
 have hl:=h.ml
 rw [←h.len A] at hl
 rw [List.getElem?_append_left hl]
 exact h.map0 A
theorem mset1 (h:MemAt S obj es p m N) (A B:M) (τ:St):(S A++τ).set m (.map (es B))=S B++τ:=by
 have hl:=h.ml
 rw [←h.len A] at hl
 rw [List.set_append_left _ _ hl,h.mset]
theorem keep (h:MemAt S obj es p m N) (A B:M) (i:Nat) (hi:i≠m):(S B)[i]? = (S A)[i]?:=by
 rw [←h.mset A B,List.getElem?_set_ne (fun e=>hi e.symm)]
theorem kept (h:MemAt S obj es p m N) {A B:M} {σ τ:St} (hσ:σ=S B++τ):∀ i,i<(S A).length→fD (S A) σ (S A).length i:=by
 intro i hi
 rw [hσ]
 have hl:i<(S B).length:=by rw [h.len] at hi ⊢;exact hi
 by_cases him:i=m
 ·subst him
  refine .inr (.inl ⟨.map (es B),?_,h.ok B _⟩)
  rw [List.getElem?_append_left hl,h.map0]
 ·refine .inl ?_
  rw [List.getElem?_append_left hl,h.keep A B i him]
theorem app (h:MemAt S obj es p m N) (τ:St):MemAt (fun A=>S A++τ) obj es p m (N+τ.length) :=
 ⟨fun A=>by rw [List.length_append,h.len],fun A=>h.at1 A τ,fun A=>h.map1 A τ,fun A B=>h.mset1 A B τ,h.ok,by have:=h.pl;omega,by have:=h.ml;omega⟩
theorem eqS (h:MemAt S obj es p m N) (k:Nat) (A B:M) (x y z:St):EqS k (S A++x) (S B++y) (S B++z)=EqS k x y z:=by
 rw [←h.mset A B]
 exact LO k _ (h.ok B k) _ _ _ _ _
end MemAt
theorem xD {M:Type} {S:M→St} {obj:List AV} {es:M→List (AV×AV)} {p m N:Nat} (hR:MemAt S obj es p m N) {f:FuncId} {first cap args:List AV} {af:AFunc} {v:AV} {A B:M} (hf:T f=some af) (hn:(first++args++cap).length≤af.ntmps)
  (h:wp T af.body (gB 0 (first++args++cap)) (S A) (fun j e σ1=>(j=none∨j=some .ret)∧∃ v0 τ,gX af.results e σ1=some v0∧σ1=S B++τ∧cN σ1 N 20 v0=some v)):zS T (.func f first cap) args (S A) v (S B):=by
 refine .callf (.call hf hn (jQ h fun o ho=>ho) fun o ho=>?_)
 obtain ⟨hj,v0,τ,hres,hσ,h4⟩:=ho
 refine ⟨hj,v0,hres,?_⟩
 unfold cN at h4
 cases hs:snap o.σ N 20 v0 with
 |none=>rw [hs] at h4;cases h4
 |some v1 =>
  rw [hs] at h4
  simp at h4
  refine .inr ⟨20,v1,v,by rw [hR.len];exact hs,.inr h4.symm,hR.kept hσ,?_,rfl,?_⟩
  ·rw [hσ,List.length_append,hR.len,hR.len];omega
  ·rw [hσ,hR.len,←hR.len B,List.take_left]
def bT {A X:Type} (f:A→X→X×Bool):List A→X→X×Bool
 |[],x=>(x,true)
 |a::az,x=>if (f a x).2=true then bT f az (f a x).1 else ((f a x).1,false)
theorem wM {A X:Type} (f:A→X→X×Bool):∀ (az bs:List A) (x:X),bT f (az++bs) x=if (bT f az x).2=true then bT f bs (bT f az x).1 else ((bT f az x).1,false)
 |[],bs,x=>by simp [bT]
 |a::az,bs,x=>by
  simp only [List.cons_append,bT]
  split
  ·exact wM f az bs _
  ·simp
structure Fam {X:Type} (Z ZD:X→St) (obj:List AV) (p q N:Nat):Prop where
 len:∀ x,(Z x).length=N
 lenD:∀ x,(ZD x).length=N
 at0:∀ x,aK (Z x) p=some obj
 atq0:∀ x,aK (Z x) q=some [.ptr p 0]
 keep:∀ x y k i,N≤k→i<N→fD (Z x) (Z y) k i
 keepD:∀ x y k i,N≤k→i<N→fD (Z x) (ZD y) k i
 pl:p<N
 ql:q<N
namespace Fam
variable {X:Type} {Z ZD:X→St} {obj:List AV} {p q N:Nat}
theorem base (h:Fam Z ZD obj p q N) (x:X) (τ:St) (k:Nat):aK (Z x++τ) (N+k)=aK τ k:=by rw [←h.len x];exact sK _ _ _
theorem base0 (h:Fam Z ZD obj p q N) (x:X) (τ:St):aK (Z x++τ) N=aK τ 0:=h.base x τ 0
theorem bset (h:Fam Z ZD obj p q N) (x:X) (τ:St) (k:Nat) (y:ABlk):(Z x++τ).set (N+k) y=Z x++τ.set k y:=by rw [←h.len x];exact oN _ _ _ _
theorem bset0 (h:Fam Z ZD obj p q N) (x:X) (τ:St) (y:ABlk):(Z x++τ).set N y=Z x++τ.set 0 y:=h.bset x τ 0 y
theorem at1 (h:Fam Z ZD obj p q N) (x:X) (τ:St):aK (Z x++τ) p=some obj:=by
 have:=h.at0 x
 have hl:=h.pl
 rw [←h.len x] at hl
 simp only [aK] at this ⊢
 rw [List.getElem?_append_left hl]
 exact this
theorem atq1 (h:Fam Z ZD obj p q N) (x:X) (τ:St):aK (Z x++τ) q=some [.ptr p 0]:=by
 have:=h.atq0 x
 have hl:=h.ql
 rw [←h.len x] at hl
 simp only [aK] at this ⊢
 rw [List.getElem?_append_left hl]
 exact this
def out (Z ZD:X→St) (r:X×Bool):St:=if r.2=true then Z r.1 else ZD r.1
end Fam
theorem MX {A X:Type} (f:A→X→X×Bool) (a:A) (x:X):bT f [a] x=f a x:=by
 simp only [bT]
 obtain ⟨y,bb⟩:=f a x
 cases bb<;>simp
structure Fam1 {X:Type} {M:Type} (Z ZD:X→M→St) (obj:List AV) (es:M→List (AV×AV)) (p m q N:Nat):Prop where
 ship:∀ x,MemAt (Z x) obj es p m N
 lenD:∀ x A,(ZD x A).length=N
 atq0:∀ x A,aK (Z x A) q=some [.ptr p 0]
 keep:∀ x A y B k i,N≤k→i<N→fD (Z x A) (Z y B) k i
 keepD:∀ x A y B k i,N≤k→i<N→fD (Z x A) (ZD y B) k i
 ql:q<N
 pl:p<N
namespace Fam1
variable {X:Type} {M:Type} {Z ZD:X→M→St} {obj:List AV} {es:M→List (AV×AV)} {p m q N:Nat}
theorem atq1 (h:Fam1 Z ZD obj es p m q N) (x:X) (A:M) (τ:St):aK (Z x A++τ) q=some [.ptr p 0]:=by
 have:=h.atq0 x A
 have hl:=h.ql
 rw [←(h.ship x).len A] at hl
 simp only [aK] at this ⊢
 rw [List.getElem?_append_left hl]
 exact this
def out (Z ZD:X→M→St) (r:X×Bool) (A:M):St:=if r.2=true then Z r.1 A else ZD r.1 A
end Fam1
def vW {X A M:Type} (Z ZD:X→M→St) (id:Nat) (args:A→Bool→Option Nat→List AV) (P:A→Prop) (f:A→X→X×Bool):Prop :=
 ∀ t,P t→∀ (fl:Bool) (tk:Option Nat) x B τ,Run T (.callv (.yield id) (args t fl tk) (Z x B++τ)) fun o=>o.v = .bool (f t x).2∧∃ τ',o.σ=Fam1.out Z ZD (f t x) B++(τ++τ')
theorem XD {X:Type} {M:Type} {S:M→St} {obj:List AV} {es:M→List (AV×AV)} {p m N:Nat} (hS:MemAt S obj es p m N) (U UD:X→St) (n:Nat) (hU:∀ x,(U x).length=n) (hUD:∀ x,(UD x).length=n) (ok:∀ x y,y∈U x→∀ k,N≤k→aJ k y) (okD:∀ x y,y∈UD x→∀ k,N≤k→aJ k y)
  (env:Env) (ps:List Nat) (a bb:ACode) (st st':LS) (pe pe':Option AJump) :
  Fam1 (fun x A=>S A++(U x++[.cells [.ptr p 0],.loop st pe env ps a bb])) (fun x A=>S A++(UD x++[.cells [.ptr p 0],.loop st' pe' env ps a bb])) obj es p m (N+n) (N+n+2):=by
 have hpl:=hS.pl
 have low:∀ (A B:M) (C D:St) (k i:Nat),i<N→fD (S A++C) (S B++D) k i:=by
  intro A B C D k i hi
  have e1:(S A++C)[i]? = (S A)[i]?:=List.getElem?_append_left (by rw [hS.len];exact hi)
  have e2:(S B++D)[i]? = (S B)[i]?:=List.getElem?_append_left (by rw [hS.len];exact hi)
  simp only [fD,e1,e2]
  by_cases him:i=m
  ·subst him
   exact .inr (.inl ⟨_,hS.map0 B,hS.ok B k⟩)
  ·exact .inl (hS.keep A B i him)
 have high:∀ (A B:M) (C D:St) (l1 l2:ABlk) (k i:Nat),C.length=n→D.length=n→(∀ y∈D,aJ k y)→N≤i→i<N+n+2→(l1=l2∨∃ st pe st' pe' env ps a b,l1 = .loop st pe env ps a b∧l2 = .loop st' pe' env ps a b) →
   fD (S A++(C++[.cells [.ptr p 0],l1])) (S B++(D++[.cells [.ptr p 0],l2])) k i:=by
  intro A B C D l1 l2 k i hA hB hk h1 h2 hl
  have e1:(S A++(C++[.cells [.ptr p 0],l1]))[i]? = (C++[.cells [.ptr p 0],l1])[i-N]?:=by rw [List.getElem?_append_right (by rw [hS.len];exact h1),hS.len]
  have e2:(S B++(D++[.cells [.ptr p 0],l2]))[i]? = (D++[.cells [.ptr p 0],l2])[i-N]?:=by rw [List.getElem?_append_right (by rw [hS.len];exact h1),hS.len]
  simp only [fD,e1,e2]
  obtain ⟨j,hj⟩:∃ j,i-N=j:=⟨_,rfl⟩
  rw [hj]
  by_cases hjn:j<n
  ·right;left
   have hb:j<D.length:=by omega
   refine ⟨D[j],?_,hk _ (List.getElem_mem hb)⟩
   rw [List.getElem?_append_left hb,List.getElem?_eq_getElem hb]
  ·have:j=n∨j=n+1:=by omega
   rcases this with rfl|rfl
   ·left
    rw [List.getElem?_append_right (by omega),List.getElem?_append_right (by omega),hA,hB]
    simp
   ·rw [List.getElem?_append_right (by omega),List.getElem?_append_right (by omega),hA,hB]
    simp only [Nat.add_sub_cancel_left,List.getElem?_cons_succ,List.getElem?_cons_zero]
    rcases hl with rfl|⟨_,_,_,_,_,_,_,_,rfl,rfl⟩
    ·exact .inl rfl
    ·exact .inr (.inr ⟨_,_,_,_,_,_,_,_,rfl,rfl⟩)
 refine ⟨fun x=>?_,fun x A=>?_,fun x A=>?_,fun x A y B k i hk hi=>?_,fun x A y B k i hk hi=>?_,by omega,by omega⟩
 ·have:=hS.app (U x++[.cells [.ptr p 0],.loop st pe env ps a bb])
  rw [List.length_append,hU] at this
  exact this
 ·simp [hS.len,hUD];omega
 ·have e:N+n=(S A).length+n:=by rw [hS.len]
  rw [e,sK]
  have:n=(U x).length:=by rw [hU]
  rw [this]
  exact jG _ _
 ·by_cases h:i<N
  ·exact low _ _ _ _ _ _ h
  ·exact high _ _ _ _ _ _ _ _ (hU x) (hU y) (fun z hz=>ok y z hz k (by omega)) (by omega) hi (.inl rfl)
 ·by_cases h:i<N
  ·exact low _ _ _ _ _ _ h
  ·exact high _ _ _ _ _ _ _ _ (hU x) (hUD y) (fun z hz=>okD y z hz k (by omega)) (by omega) hi (.inr ⟨_,_,_,_,_,_,_,_,rfl,rfl⟩)
theorem TF {X A M:Type} {S:M→St} {obj:List AV} {es:M→List (AV×AV)} {p m N:Nat} (hS:MemAt S obj es p m N) (U UD:X→St) (n:Nat) (hU:∀ x,(U x).length=n) (hUD:∀ x,(UD x).length=n)
  (J:AJump) (e:Env) (k:Nat) (ps:List Nat) (a bb:ACode) (g:FuncId) (ek:Env.get e k = .func g [] [.ptr (N+n) 0]) (r:X×Bool) (B':M) (x:X) (B:M)
  (hrun:Run T (.call g [.yield (N+n+1),.ptr (N+n) 0] (S B++(U x++[.cells [.ptr p 0],.loop .ready none e ps a bb]))) fun o=>∃ τ',o.σ=Fam1.out (fun x A=>S A++(U x++[.cells [.ptr p 0],.loop .ready none e ps a bb])) (fun x A=>S A++(UD x++[.cells [.ptr p 0],.loop .done (some J) e ps a bb])) r B'++τ') (K:KJ)
  (hT:∀ τ,r.2=true→K none e (S B'++(U r.1++(.cells [.ptr p 0]::.dead::τ))))
  (hD:∀ τ,r.2=false→K (some J) e (S B'++(UD r.1++(.cells [.ptr p 0]::.dead::τ)))) :
  rK (K:=⟨K⟩) T (.rangeFunc (.t k) ps a bb) e (S B++(U x++[.cells [.ptr p 0]])):=by
 have hlen:(S B++(U x++[ABlk.cells [.ptr p 0]])).length=N+n+1:=by simp [hS.len,hU];omega
 have hout:∀ (A W:St) (lp:ABlk) (τ':St),A.length=N→W.length=n→(A++(W++[ABlk.cells [.ptr p 0],lp])++τ')[N+n+1]? = some lp∧(A++(W++[ABlk.cells [.ptr p 0],lp])++τ').set (N+n+1) .dead=A++(W++(.cells [.ptr p 0]::.dead::τ')):=by
  intro A W lp τ' hA hW
  have h1:N+n+1=(A++W).length+1:=by simp [hA,hW]
  have h2:A++(W++[ABlk.cells [.ptr p 0],lp])++τ'=(A++W)++(.cells [.ptr p 0]::lp::τ'):=by simp
  rw [h1,h2]
  constructor
  ·rw [rW];rfl
  ·rw [oN];simp
 refine GY (by rw [QF,ek]) (by
  rw [hlen,List.append_assoc (S B),List.append_assoc (U x)]
  exact hrun) fun o ho=>?_
 obtain ⟨τ',hσ⟩:=ho
 rw [hlen,hσ]
 cases hr2:r.2
 ·have hD':=hD τ' hr2
  obtain ⟨g1,g2⟩:=hout (S B') (UD r.1) (.loop .done (some J) e ps a bb) τ' (hS.len _) (hUD _)
  simp only [Fam1.out,hr2,Bool.false_eq_true,if_false]
  rw [g1,g2]
  exact ⟨_,_,_,_,_,_,rfl,by simp,hD'⟩
 ·have hT':=hT τ' hr2
  obtain ⟨g1,g2⟩:=hout (S B') (U r.1) (.loop .ready none e ps a bb) τ' (hS.len _) (hU _)
  simp only [Fam1.out,hr2,if_true]
  rw [g1,g2]
  exact ⟨_,_,_,_,_,_,rfl,by simp,hT'⟩
theorem MP {X A M:Type} {S:M→St} {obj:List AV} {es:M→List (AV×AV)} {p m N:Nat} (hS:MemAt S obj es p m N) (U UD:X→St) (n:Nat) (hU:∀ x,(U x).length=n) (hUD:∀ x,(UD x).length=n) (J:AJump) (e:Env) (ps:List Nat) (args:A→Bool→Option Nat→List AV) (hps:∀ t fl tk,ps.length=(args t fl tk).length) (a bb:ACode) {P:A→Prop} {f:A→X→X×Bool}
  (h:∀ t,P t→∀ (fl:Bool) (tk:Option Nat) x B τ,wp T a (kK e ps (args t fl tk)) (S B++(U x++(.cells [.ptr p 0]::.loop .ready none e ps a bb::τ))) (fun j e' σ'=>j=none∧σ'=S B++(U x++(.cells [.ptr p 0]::.loop .ready none e ps a bb::τ)) ∧
   wp T bb e' (S B++(U x++(.cells [.ptr p 0]::.loop .busy none e ps a bb::τ))) (fun j e'' σ''=>((f t x).2=true∧j=none∧∃ τ',σ''=S B++(U (f t x).1++(.cells [.ptr p 0]::.loop .busy none e ps a bb::(τ++τ')))) ∨
    ((f t x).2=false∧j=some J∧∃ τ',σ''=S B++(UD (f t x).1++(.cells [.ptr p 0]::.loop .busy none e ps a bb::(τ++τ'))))))) :
  vW (fun x B=>S B++(U x++[.cells [.ptr p 0],.loop .ready none e ps a bb])) (fun x B=>S B++(UD x++[.cells [.ptr p 0],.loop .done (some J) e ps a bb])) (N+n+1) args P f:=by
 intro t ht fl tk x B τ
 have hget:∀ (A W:St) (lp:ABlk) (υ:St),A.length=N→W.length=n→(A++(W++(ABlk.cells [.ptr p 0]::lp::υ)))[N+n+1]? = some lp:=by
  intro A W lp υ hA hW
  have h1:N+n+1=(A++W).length+1:=by simp [hA,hW]
  rw [h1,←List.append_assoc,rW];rfl
 have hset:∀ (A W:St) (lp l2:ABlk) (υ:St),A.length=N→W.length=n→(A++(W++(ABlk.cells [.ptr p 0]::lp::υ))).set (N+n+1) l2=A++(W++(ABlk.cells [.ptr p 0]::l2::υ)):=by
  intro A W lp l2 υ hA hW
  have h1:N+n+1=(A++W).length+1:=by simp [hA,hW]
  rw [h1,←List.append_assoc,oN]
  simp
 obtain ⟨r,hr⟩:∃ r,f t x=r:=⟨_,rfl⟩
 have h:=h t ht fl tk x B τ
 rw [hr] at h ⊢
 have hst:(fun x B=>S B++(U x++[ABlk.cells [.ptr p 0],.loop .ready none e ps a bb])) x B++τ=S B++(U x++(.cells [.ptr p 0]::.loop .ready none e ps a bb::τ)):=by simp
 rw [hst]
 refine .round (env:=e) (ps:=ps) (a:=a) (b:=bb)
  (R:=fun o=>o.j=none∧o.σ=S B++(U x++(.cells [.ptr p 0]::.loop .ready none e ps a bb::τ))∧wp T bb o.env (S B++(U x++(.cells [.ptr p 0]::.loop .busy none e ps a bb::τ))) (fun j e'' σ''=>(r.2=true∧j=none∧∃ τ',σ''=S B++(U r.1++(.cells [.ptr p 0]::.loop .busy none e ps a bb::(τ++τ')))) ∨
    (r.2=false∧j=some J∧∃ τ',σ''=S B++(UD r.1++(.cells [.ptr p 0]::.loop .busy none e ps a bb::(τ++τ'))))))
  (S:=fun o=>(r.2=true∧o.j=none∧∃ τ',o.σ=S B++(U r.1++(.cells [.ptr p 0]::.loop .busy none e ps a bb::(τ++τ'))))∨(r.2=false∧o.j=some J∧∃ τ',o.σ=S B++(UD r.1++(.cells [.ptr p 0]::.loop .busy none e ps a bb::(τ++τ'))))) (hget _ _ _ _ (hS.len _) (hU _)) (by rw [hps t fl tk]) (jQ h fun o ho=>ho) ?_ ?_ ?_
 ·rintro o ⟨hj,hσ,_⟩
  exact ⟨hj,by rw [hσ];exact hget _ _ _ _ (hS.len _) (hU _)⟩
 ·rintro o ⟨_,hσ,hw⟩
  rw [hσ,hset _ _ _ _ _ (hS.len _) (hU _)]
  exact jQ hw fun o ho=>ho
 ·rintro o (⟨hr2,hj,τ',hσ⟩|⟨hr2,hj,τ',hσ⟩)
  ·rw [hσ,hj,hget _ _ _ _ (hS.len _) (hU _),hset _ _ _ _ _ (hS.len _) (hU _)]
   refine ⟨rfl,by rw [hr2];rfl,τ',?_⟩
   simp [Fam1.out,hr2]
  ·rw [hσ,hj,hget _ _ _ _ (hS.len _) (hUD _),hset _ _ _ _ _ (hS.len _) (hUD _)]
   refine ⟨rfl,by rw [hr2];rfl,τ',?_⟩
   simp [Fam1.out,hr2]
theorem AU {A X:Type} {f:A→X→X×Bool} (h:∀ a x,(f a x).2=true):∀ (l:List A) (x:X),bT f l x=(l.foldl (fun x a=>(f a x).1) x,true)
 |[],x=>rfl
 |a::az,x=>by simp only [bT,h,if_true,List.foldl_cons];exact AU h az _
end Go.Am.Room
namespace Go.Am.Room
def eB (fine:Nat→Bool):Nat→Nat×Nat→Nat×Nat
 |0,x=>x
 |k+1,x=>if fine k=true then (CD (eB fine k x).1 (2^k),(eB fine k x).2) else ((eB fine k x).1,(eB fine k x).2|||2^k)
theorem o6 (fine:Nat→Bool) {n:Nat} {x:Nat×Nat} (h:x.1<2^n∧x.2<2^n):∀ k,k≤n→(eB fine k x).1<2^n∧(eB fine k x).2<2^n
 |0,_=>h
 |k+1,hk=>by
  obtain ⟨h1,h2⟩:=o6 fine h k (by omega)
  simp only [eB]
  split
  ·exact ⟨Nat.lt_of_le_of_lt (LV _ _) h1,h2⟩
  ·exact ⟨h1,Nat.or_lt_two_pow h2 (Nat.pow_lt_pow_right (by omega) (by omega))⟩
theorem BH (fine:Nat→Bool) {n:Nat} (hn:n≤60) {x:Nat×Nat} (h:x.1<2^n∧x.2<2^n) (i:Nat):∀ k,k≤n→(eB fine k x).1.testBit i=(x.1.testBit i&&!(decide (i<k)&&fine i))∧(eB fine k x).2.testBit i=(x.2.testBit i||(decide (i<k)&&!fine i))
 |0,_=>by simp [eB]
 |k+1,hk=>by
  obtain ⟨h1,h2⟩:=BH fine hn h i k (by omega)
  obtain ⟨l1,l2⟩:=o6 fine h k (by omega)
  have hp:=kH (show k≤60 by omega)
  have hpn:=kH hn
  simp only [eB]
  by_cases e:i=k
  ·subst e
   cases hf:fine i
   ·simp only [Bool.false_eq_true,if_false]
    rw [Nat.testBit_or,h1,h2,Nat.testBit_two_pow_self]
    simp
   ·simp only [if_true]
    rw [GR (by omega) _ _ (by omega),h1,h2,Nat.testBit_two_pow_self]
    simp
  ·have hd:decide (i<k+1)=decide (i<k):=by rw [decide_eq_decide];omega
   split
   ·rw [GR (by omega) _ _ (by omega),h1,h2,Nat.testBit_two_pow_of_ne (Ne.symm e),hd]
    simp
   ·rw [Nat.testBit_or,h1,h2,Nat.testBit_two_pow_of_ne (Ne.symm e),hd]
    simp
abbrev B64:={ x:Nat×Nat // x.1<2^6∧x.2<2^6 }
def oD {A:Type} (fine:A→Nat→Bool) (n:Nat) (a:A) (x:B64):B64×Bool:=if hn:n≤6 then (⟨eB (fine a) n x.1,o6 (fine a) x.2 n hn⟩,true) else (x,true)
theorem zX {A:Type} (fine:A→Nat→Bool) (n:Nat) (a:A) (x:B64):(oD fine n a x).2=true:=by unfold oD;split<;>rfl
theorem w5 {A:Type} (fine:A→Nat→Bool) {n:Nat} (hn:n≤6) (a:A) (x:B64):(oD fine n a x).1.1=eB (fine a) n x.1:=by unfold oD;rw [dif_pos hn]
def mN {A:Type} (fine:A→Nat→Bool) (n:Nat) (l:List A) (x:B64):B64:=l.foldl (fun x a=>(oD fine n a x).1) x
theorem xC {A:Type} (fine:A→Nat→Bool) {n:Nat} (hn:n≤6) {i:Nat} (hi:i<n):∀ (l:List A) (x:B64),(mN fine n l x).1.1.testBit i=(x.1.1.testBit i&&l.all fun a=>!fine a i)∧(mN fine n l x).1.2.testBit i=(x.1.2.testBit i||l.any fun a=>!fine a i)
 |[],x=>by simp [mN]
 |a::l,x=>by
  obtain ⟨h1,h2⟩:=xC fine hn hi l (oD fine n a x).1
  obtain ⟨q1,q2⟩:=BH (fine a) (n:=6) (by omega) x.2 i n hn
  simp only [mN,List.foldl_cons,List.all_cons,List.any_cons] at h1 h2 ⊢
  rw [h1,h2,w5 fine hn,q1,q2]
  simp only [hi,decide_true,Bool.true_and]
  exact ⟨by rw [Bool.and_assoc],by rw [Bool.or_assoc]⟩
def lB (n:Nat) (hn:n≤6):B64:=⟨(2^n-1,0),by
 have:2^n≤2^6:=Nat.pow_le_pow_right (by omega) hn
 have:=Nat.two_pow_pos n
 exact ⟨by simp only;omega,by simp⟩⟩
theorem HB {A:Type} (fine:A→Nat→Bool) {n:Nat} (hn:n≤6) (l:List A):lst n (mN fine n l (lB n hn)).1.1=(aT 0 n).filter (fun i=>l.all fun a=>!fine a i.toNat)∧lst n (mN fine n l (lB n hn)).1.2=(aT 0 n).filter (fun i=>l.any fun a=>!fine a i.toNat):=by
 simp only [lst]
 constructor
 ·refine List.filter_congr fun x hx=>?_
  have hxr:=(cF _ _ _).1 hx
  have hi:x.toNat<n:=by omega
  rw [←wC,(xC fine hn hi l _).1]
  simp only [lB,Nat.testBit_two_pow_sub_one,hi,decide_true,Bool.true_and]
 ·refine List.filter_congr fun x hx=>?_
  have hxr:=(cF _ _ _).1 hx
  have hi:x.toNat<n:=by omega
  rw [←wC,(xC fine hn hi l _).2]
  simp only [lB,Nat.zero_testBit,Bool.false_or]
def gN (v:Net) (c:List Int) (t:Nat):Bool:=iR v t (d8 (dO v c) t)
theorem GO {v:Net} {bl:List Int} {t:Nat}:∀ s∈bF v bl,A9 v (t:Int) s = !gN v (rF s) t:=fun s hs=>by
 have hl:=sY hs
 simp only [A9,gN,pF (show s.closed.length=s.mins.length by omega),Int.toNat_natCast]
theorem G5 {v:Net} (hv:Vd v) (h3:v.trams.length≤6):lst v.trams.length (mN (gN v) v.trams.length (TL v []) (lB _ h3)).1.1=HZ v (bF v [])∧lst v.trams.length (mN (gN v) v.trams.length (TL v []) (lB _ h3)).1.2=xF v (bF v []):=by
 obtain ⟨h1,h2⟩:=HB (gN v) h3 (TL v [])
 rw [h1,h2,HZ,xF]
 constructor
 ·refine List.filter_congr fun x hx=>?_
  have hxr:=(cF _ _ _).1 hx
  obtain ⟨t,rfl⟩:∃ t:Nat,x=t:=⟨x.toNat,by omega⟩
  rw [GE,Int.toNat_natCast]
  exact (KB hv [] _ _ GO).symm
 ·refine List.filter_congr fun x hx=>?_
  have hxr:=(cF _ _ _).1 hx
  obtain ⟨t,rfl⟩:∃ t:Nat,x=t:=⟨x.toNat,by omega⟩
  rw [zG,Int.toNat_natCast]
  exact (R4 hv [] _ _ GO).symm
def iW (c:List Int) (r:Nat):Bool:=!((c[r]?).getD 0==0)
theorem BL {v:Net} (hv:Vd v) {bl:List Int} {r:Nat} (hr:r<v.rails.length):∀ s∈bF v bl,vP (r:Int) s = !iW (rF s) r:=fun s hs=>by
 have hs1:=(List.mem_filter.1 hs).1
 have hl:=nV hs1
 have hst:∀ k,k≤v.rails.length→∀ s∈mY v.rails k,∀ i,i<k→1≤(s.mins[i]?).getD 0:=by
  intro k
  induction k with
  |zero=>intro _ s _ i hi;omega
  |succ k ih =>
   intro hk s h i hi
   have hk1:k<v.rails.length:=by omega
   simp only [mY,List.getElem?_eq_getElem hk1,List.mem_flatMap,yW,List.mem_map,List.mem_filter] at h
   obtain ⟨s0,hs0,m,hm,c,_,rfl⟩:=h
   have hl0:=(sS k (by omega) s0 hs0).2.1
   by_cases e:i=k
   ·subst e
    rw [BQ hl0]
    have:=(hv.ra _ (List.getElem_mem hk1)).mins
    have:=lC.1 hm
    omega
   ·rw [List.getElem?_append_left (by omega)]
    exact ih (by omega) s0 hs0 i (by omega)
 have hm:=hst v.rails.length (Nat.le_refl _) s hs1 r hr
 have he:=congrFun (FG (s:=s) (by omega)) (r:Int)
 simp only [rlI,Int.toNat_natCast] at he
 simp only [iW,←he,eff,vP,Int.toNat_natCast,Bool.not_not]
 split
 ·rename_i h;rw [h];rfl
 ·rename_i h
  rw [Bool.not_eq_true] at h
  rw [h]
  symm
  simp only [beq_eq_false_iff_ne]
  omega
theorem QW {v:Net} (hv:Vd v) (h6:v.rails.length≤6):lst v.rails.length (mN iW v.rails.length (TL v []) (lB _ h6)).1.1=Q6 v (bF v [])∧lst v.rails.length (mN iW v.rails.length (TL v []) (lB _ h6)).1.2=ZW v (bF v []):=by
 obtain ⟨h1,h2⟩:=HB iW h6 (TL v [])
 rw [h1,h2,Q6,ZW]
 constructor
 ·refine List.filter_congr fun x hx=>?_
  have hxr:=(cF _ _ _).1 hx
  obtain ⟨t,rfl⟩:∃ t:Nat,x=t:=⟨x.toNat,by omega⟩
  rw [Int.toNat_natCast]
  exact (KB hv [] _ _ (BL hv (by omega))).symm
 ·refine List.filter_congr fun x hx=>?_
  have hxr:=(cF _ _ _).1 hx
  obtain ⟨t,rfl⟩:∃ t:Nat,x=t:=⟨x.toNat,by omega⟩
  rw [Int.toNat_natCast]
  exact (R4 hv [] _ _ (BL hv (by omega))).symm
def CB (v:Net) (l:List (List Int)) (t:Nat):List Int:=l.map fun c=>d8 (dO v c) t
theorem T5 {v:Net} (hv:Vd v) (bl:List Int) (t:Nat) (x:Int):x∈LJ v (bF v bl) t↔x∈CB v (TL v bl) t:=by
 simp only [LJ,CB,List.mem_map]
 constructor
 ·rintro ⟨s,hs,rfl⟩
  have hl:=sY hs
  exact ⟨_,v7 hs,by rw [pF (by omega)]⟩
 ·rintro ⟨c,hc,rfl⟩
  obtain ⟨s,hs,rfl⟩:=sR hv hc
  have hl:=sY hs
  exact ⟨s,hs,by rw [pF (by omega)]⟩
theorem JL {l k:List Int} (h:∀ x,x∈l↔x∈k):pW l=pW k:=by
 have h1:gI (fH l)=gI (fH k):=TM fun x=>by simp only [fH,List.mem_filter,h]
 have h2:fC (fH l).length l.length=fC (fH k).length k.length:=J1 (fun x hx=>⟨x,(h x).1 hx,rfl⟩) (fun x hx=>⟨x,(h x).2 hx,rfl⟩)
 rw [pW,pW,h1,h2]
def PW (a:Int) (x:Span×Bool×Bool):Span×Bool×Bool:=if a = -1 then (x.1,x.2.1,true) else if x.2.1=false then (⟨a,a⟩,true,x.2.2) else (lI x.1 a,true,x.2.2)
theorem JO (l:List Int) (a:Int):gI (l++[a])=if l=[] then ⟨a,a⟩ else lI (gI l) a:=by
 cases l with
 |nil=>simp [gI]
 |cons x l=>simp [gI,List.foldl_append]
theorem TP (l:List Int):∀ (k:List Int),l.foldl (fun x a=>PW a x) (gI (fH k),!(fH k).isEmpty,k.contains (-1))=(gI (fH (k++l)),!(fH (k++l)).isEmpty,(k++l).contains (-1)):=by
 induction l with
 |nil=>intro k;simp
 |cons a l ih =>
  intro k
  rw [List.foldl_cons,show k++a::l=(k++[a])++l by simp,←ih (k++[a])]
  congr 1
  simp only [fH,List.filter_append,PW]
  by_cases h:a = -1
  ·subst h;simp
  ·have hc:(k++[a]).contains (-1)=k.contains (-1):=by
    rw [Bool.eq_iff_iff,List.contains_iff_mem,List.contains_iff_mem]
    simp;omega
   have hf:[a].filter (fun c=>!decide (c = -1))=[a]:=by simp [h]
   rw [hf,hc,JO,if_neg h]
   by_cases h2:k.filter (fun c=>!decide (c = -1))=[]
   ·simp [h2]
   ·have:(k.filter (fun c=>!decide (c = -1))).isEmpty=false:=by simpa using h2
    simp [h2,this]
theorem XG (l:List Int):l.foldl (fun x a=>PW a x) (⟨0,0⟩,false,false)=(gI (fH l),!(fH l).isEmpty,l.contains (-1)):=TP l []
theorem IP {l:List Int} (h:l≠[]):fC (fH l).length l.length=if l.contains (-1)=false then 1 else if (fH l).isEmpty=true then 2 else 0:=by
 have h1:fC (fH l).length l.length=1↔∀ x∈l,(!decide (x = -1))=true:=sQ
 have h2:fC (fH l).length l.length=2↔l≠[]∧∀ x∈l,(!decide (x = -1))=false:=rR
 have h3:=oZ (fH l).length l.length
 have he:(fH l).isEmpty=true↔∀ x∈l,(!decide (x = -1))=false:=by
  rw [List.isEmpty_iff,fH,List.filter_eq_nil_iff]
  simp
 by_cases a:l.contains (-1)=false
 ·rw [if_pos a]
  refine h1.2 fun x hx=>?_
  simp only [Bool.not_eq_true',decide_eq_false_iff_not]
  rintro rfl
  rw [←Bool.not_eq_true,List.contains_iff_mem] at a
  exact a hx
 ·rw [if_neg a]
  have n1:¬fC (fH l).length l.length=1:=by
   rw [h1]
   intro q
   rw [Bool.not_eq_false,List.contains_iff_mem] at a
   have:=q _ a
   simp at this
  by_cases b:(fH l).isEmpty=true
  ·rw [if_pos b]
   exact h2.2 ⟨h,he.1 b⟩
  ·rw [if_neg b]
   rcases h3 with h3|h3|h3
   ·exact h3
   ·exact absurd h3 n1
   ·exact absurd (he.2 (h2.1 h3).2) b
def mF (f:Nat→Int) (i:Nat) (v:Int):Nat→Int:=fun j=>if j=i then v else f j
def bL (n:Nat) (f:Nat→Int):List AV:=(List.range n).map fun i=>.int .i64 (f i)
theorem eH (n:Nat) (f:Nat→Int):(bL n f).length=n:=by simp [bL]
theorem jS (n:Nat) (f:Nat→Int) {i:Nat} (h:i<n):(bL n f)[i]? = some (.int .i64 (f i)):=by simp [bL,h]
theorem KF {n:Nat} {f g:Nat→Int} (h:∀ i,i<n→f i=g i):bL n f=bL n g:=by
 refine List.map_congr_left fun i hi=>?_
 rw [h i (by simpa using hi)]
theorem sE (n:Nat) (f:Nat→Int) (v:Int) {i:Nat} (h:i<n):(bL n f).take i++[AV.int .i64 v]++(bL n f).drop (i+1)=bL n (mF f i v):=by
 have h1:(bL n f).take i++[AV.int .i64 v]++(bL n f).drop (i+1)=(bL n f).set i (.int .i64 v):=by
  rw [List.set_eq_take_append_cons_drop,if_pos (by rw [eH];exact h)];simp
 rw [h1]
 refine List.ext_getElem? fun j=>?_
 by_cases hj:j<n
 ·rw [jS n _ hj,List.getElem?_set]
  by_cases e:i=j
  ·subst e;simp [eH,hj,mF]
  ·rw [if_neg e,jS n _ hj];simp [mF,show ¬j=i from fun q=>e q.symm]
 ·rw [List.getElem?_eq_none (by rw [List.length_set,eH];omega),List.getElem?_eq_none (by rw [eH];omega)]
theorem nO (n:Nat) (f:Nat→Int):mO (bL n f):=cL (enc:=fun i:Nat=>AV.int .i64 (f i)) (fun i=>cR _ _) (List.range n)
instance (n:Nat) (f:Nat→Int):Dats (bL n f):=⟨nO n f⟩
theorem EQ (n:Nat) (f:Nat→Int) (m:Nat):okVs m (bL n f):=HM (nO n f) m
theorem kQ (n:Nat) (f:Nat→Int) (σ:St) (m d:Nat):cT σ m d (bL n f)=some (bL n f):=jC (nO n f) σ m d
theorem fQ (n:Nat) (f:Nat→Int):bU (bL n f)=true:=aCL _ _ fun i=>by simp [AV.cell]
theorem fO (n:Nat) (f:Nat→Int):(bL n f).take n=bL n f:=List.take_of_length_le (by rw [eH];exact Nat.le_refl n)
theorem fP (n:Nat) (f:Nat→Int):(bL n f).drop n=[]:=List.drop_eq_nil_of_le (by rw [eH];exact Nat.le_refl n)
theorem F9 (f g:Nat→Int):∀ l:List Nat,bK (List.replicate l.length .i) (l.map fun i=>.int .i64 (f i)) (l.map fun i=>.int .i64 (g i))=some (l.all fun i=>f i==g i)
 |[]=>rfl
 |x::l=>by
  simp only [List.length_cons,List.replicate_succ,List.map_cons,OV,ZE,F9 f g l,QO,List.all_cons]
theorem K7 (n:Nat) (f g:Nat→Int):bK (List.replicate n .i) (bL n f) (bL n g)=some ((List.range n).all fun i=>f i==g i):=by
 have:=F9 f g (List.range n)
 rwa [List.length_range] at this
section
variable {K:Type} [DecidableEq K]
def nM (M:List K) (w:K):List K:=if w∈M then M else M++[w]
structure KeyIs (sh:EqTy) (enc val:K→AV):Prop where
 eq:∀ w x,j3 sh (enc w) (enc x)=some (decide (w=x))
 dk:∀ w,kV (enc w)
 dv:∀ w,kV (val w)
variable {sh:EqTy} {enc val:K→AV}
def qX (enc val:K→AV) (M:List K):List (AV×AV):=M.map fun w=>(enc w,val w)
theorem L6 (h:KeyIs sh enc val) (w:K):∀ M:List K,findKey sh (enc w) (qX enc val M)=some (if w∈M then some (val w) else none)
 |[]=>by simp [qX,findKey]
 |x::M=>by
  have ih:=L6 h w M
  simp only [qX,List.map_cons,findKey,h.eq] at ih ⊢
  by_cases e:w=x
  ·subst e;simp
  ·simp only [e,decide_false,ih,List.mem_cons,false_or]
theorem Q3 (h:KeyIs sh enc val) (w:K):∀ M:List K,w∉M→n5 sh (enc w) (val w) (qX enc val M)=some (qX enc val (M++[w]))
 |[],_=>by simp [qX,n5]
 |x::M,hn=>by
  have ih:=Q3 h w M (fun q=>hn (List.mem_cons_of_mem _ q))
  have hx:w≠x:=fun e=>hn (by rw [e];simp)
  simp only [qX,List.map_cons,n5,h.eq,List.cons_append] at ih ⊢
  simp only [hx,decide_false,ih,Option.map_some]
theorem aBO (h:KeyIs sh enc val) (M:List K) (k:Nat):aJ k (.map (qX enc val M)):=by
 simp only [aJ,qX]
 intro q hq
 obtain ⟨w,hw,rfl⟩:=List.mem_map.1 hq
 exact ⟨y0 (h.dk w) k,y0 (h.dv w) k⟩
variable {S:List K→St} {obj:List AV} {p m N:Nat}
theorem WQ (hk:KeyIs sh enc val) (h:MemAt S obj (qX enc val) p m N) (M:List K) (τ:St) (w:K):uT sh (S M++τ) (.map m) (enc w)=some (if w∈M then some (val w) else none):=by
 simp only [uT,h.map1,L6 hk,hk.eq]
 simp
theorem aAM (hk:KeyIs sh enc val) (h:MemAt S obj (qX enc val) p m N) (M:List K) (τ:St) (w:K) (hw:w∉M):y9 sh (S M++τ) (.map m) (enc w) (val w)=some (S (M++[w])++τ):=by
 simp only [y9,hk.eq,h.map1,Q3 hk w M hw,Option.map_some,h.mset1]
 simp
end
end Go.Am.Room
set_option maxRecDepth 4000
namespace Go.Am.Room
def FK:=And.intro @bD (And.intro @aI (And.intro @aX (And.intro @aW (And.intro @aV (And.intro @aS (And.intro @bC (And.intro @a9 (And.intro @aZ (And.intro @dH (And.intro @dF (And.intro @Nat.not_lt_zero (And.intro @aQ (And.intro @aY (And.intro @bH (And.intro @bR (And.intro @uI (@cE)))))))))))))))))
def qP (x:List Int×List Int×Int):AV:=.tuple [ints x.1,ints x.2.1,.int .i64 x.2.2]
def AR (x:Int×Int):AV:=.tuple [.int .i64 x.1,.int .i64 x.2]
def rT (x:Span×Int×Int):AV:=.tuple [pR x.1,.int .i64 x.2.1,.int .i64 x.2.2]
theorem BZ (z:Tram) (c:Int):dY T 44 [cV z,.int .i64 c] (.bool (!decide (c = -1)&&decide (c≤z.due))):=by
 refine bA (af:=a44) rfl (by simp [a44]) dd ?_
 (repeat (first|simp only [↓QA,QB,Nat.reduceLT,reduceIte,Nat.reduceEqDiff,Nat.reduceAdd,Nat.reduceLeDiff,Nat.reduceMul,Nat.reduceBEq,FK,a44]|refine rd0 rfl ?_))
 have e:decide (c = -1)=(c==-1):=by rw [Bool.eq_iff_iff];simp
 rw [e]
 cases h:(c==-1)
 ·(repeat (first|simp only [↓QA,QB,Nat.reduceLT,reduceIte,Nat.reduceEqDiff,Nat.reduceAdd,Nat.reduceLeDiff,Nat.reduceMul,Nat.reduceBEq,FK,h]|refine rd0 rfl ?_))
 ·(repeat (first|simp only [↓QA,QB,Nat.reduceLT,reduceIte,Nat.reduceEqDiff,Nat.reduceAdd,Nat.reduceLeDiff,Nat.reduceMul,Nat.reduceBEq,FK,h,Bool.false_and]|refine rd0 rfl ?_))
end Go.Am.Room
set_option maxRecDepth 4000
namespace Go.Am.Room
theorem xX {n:Nat} {k:Nat} (h:k<n) (p:Int→Bool):(aT (k:Int) ((n:Int)-k).toNat).filter p=(if p (k:Int)=true then [(k:Int)] else [])++(aT ((k+1:Nat):Int) ((n:Int)-((k+1:Nat):Int)).toNat).filter p:=by
 rw [m5 (by omega),List.filter_cons,show (k:Int)+1=((k+1:Nat):Int) by omega]
 split<;>rfl
theorem F2 {n k:Nat} (h:k=n) (p:Int→Bool):(aT (k:Int) ((n:Int)-k).toNat).filter p=[]:=by
 rw [mW (by omega)];rfl
theorem EW {v:Net} {l:List Int} {k:Nat} (h:k<l.length) (b:Int):jX v (l.drop k) b=jX v (l.drop (k+1)) (if b<0∨yD v l[k].toNat<yD v b.toNat then l[k] else b):=by
 rw [List.drop_eq_getElem_cons h,jX]
theorem RR {v:Net} {t:Nat} (h:t<v.trams.length):yD v t=v.trams[t].due:=by simp [yD,h]
theorem W5 {v:Net} {l:List State}:∀ t∈xF v l,0≤t∧t<v.trams.length:=fun t ht=>by
 have:=(cF _ _ _).1 (List.mem_filter.1 ht).1
 omega
theorem PU (v:Net) (l:List State):(xF v l).length≤v.trams.length:=by
 have:=List.length_filter_le (zG v l) (aT 0 v.trams.length)
 rw [kE] at this
 exact this
end Go.Am.Room
set_option maxRecDepth 4000
namespace Go.Am.Room
def d6:=And.intro @bD (And.intro @aI (And.intro @aX (And.intro @aW (And.intro @aV (And.intro @aS (And.intro @bC (And.intro @a9 (And.intro @aZ (And.intro @dH (And.intro @dF (And.intro @Nat.not_lt_zero (And.intro @aQ (And.intro @aY (And.intro @bH (And.intro @bR (And.intro @uI (@cE)))))))))))))))))
theorem GZ (l:List State):kV (fF l):=iL pT l
instance (l:List State):Dat (fF l):=⟨GZ l⟩
def zD (l:List (List (List Int))):AV:=.lit (l.map aN) false none
theorem bJ (l:List (List (List Int))):zD l = .lit (l.map aN) false none:=by simp only [zD]
theorem IX (l:List (List (List Int))):kV (zD l):=iL nN l
instance (l:List (List (List Int))):Dat (zD l):=⟨IX l⟩
instance (l:List (List (List Int))):Dats (l.map aN):=⟨cL nN l⟩
theorem cC (σ:St) (m d:Nat) (l:List (List (List Int))):cT σ m d (l.map aN)=some (l.map aN):=jC (cL nN l) σ m d
theorem bP (l:List (List Int)):aN l = .lit (l.map ints) false none:=by simp only [aN]
def pQ (x:List (List Int)×List Int×Int):AV:=.tuple [aN x.1,ints x.2.1,.int .i64 x.2.2]
def mG (v:Net) (cs:List Int) (n:Nat):Bool:=(List.range n).all fun t=>iR v t (d8 cs t)
theorem xT (v:Net) (cs:List Int) (n:Nat):mG v cs (n+1)=(mG v cs n&&iR v n (d8 cs n)):=by simp [mG,List.range_succ,List.all_append]
theorem CQ {v:Net} {cs:List Int} {k:Nat} (h:mG v cs k=false) {j:Nat} (hj:k≤j):mG v cs j=false:=by
 simp only [mG,List.all_eq_false,List.mem_range] at h ⊢
 obtain ⟨a,ha,h1⟩:=h
 exact ⟨a,by omega,h1⟩
theorem MN (v:Net) (ps:List (List Int)) (s:State):xM v ps s=mG v (gE v ps (eff s)) v.trams.length:=rfl
theorem xK {v:Net} {t:Nat} {z:Tram} (h:v.trams[t]? = some z) (c:Int):iR v t c=(!decide (c = -1)&&decide (c≤z.due)):=by simp only [iR,yD,h]
theorem GL (v:Net) (hv:Vd v) (l:List State) (hl:∀ s∈l,StOk v s) (hll:l.length≤1024) (ps:List (List Int)) (hp:RunOk v ps):dY T 53 [bX v,fF l,aN ps] (.bool (mR v l ps)):=by
 refine bA (af:=a53) rfl (by simp [a53]) dd ?_
 have hnt:=hv.ntr
 obtain ⟨B,hB⟩:∃ B,mR v l ps=B:=⟨_,rfl⟩
 have hB':(l.drop 0).all (xM v ps)=B:=hB
 rw [hB]
 (repeat (first|simp only [↓QA,QB,Nat.reduceLT,reduceIte,Nat.reduceEqDiff,Nat.reduceAdd,Nat.reduceLeDiff,Nat.reduceMul,Nat.reduceBEq,d6,bJ,cC,a53]|refine rd0 rfl ?_))
 refine bY (S:=Nat) 0 (fun k=>k≤l.length∧(l.drop k).all (xM v ps)=B) (fun k=>l.length-k)
  (fun k=>[(1,fF l),(2,aN ps),(3,.ptr 0 0),(7,.int .i64 k)]) (fun k=>[.cells (aB v)]) ⟨Nat.zero_le _,hB'⟩ (by simp [aB,ints]) ?_ fun k hk=>?_
 ·try simp only [aC,QE,Nat.reduceLT,reduceIte,Nat.reduceEqDiff,Nat.reduceAdd,Nat.reduceLeDiff,Nat.reduceMul,Nat.reduceBEq,d6,bJ,cC,aN,ints]
  try simp
 ·obtain ⟨hk,hq⟩:=hk
  (repeat (first|simp only [↓QA,QB,Nat.reduceLT,reduceIte,Nat.reduceEqDiff,Nat.reduceAdd,Nat.reduceLeDiff,Nat.reduceMul,Nat.reduceBEq,d6,bJ,cC,YJ]|refine rd0 rfl ?_))
  refine aG (fun h2=>?_) fun h2=>?_
  ·have hk1:k<l.length:=by simpa using h2
   have hw:=bV hk1 (by omega)
   have hso:=hl _ (List.getElem_mem hk1)
   rw [List.drop_eq_getElem_cons hk1,List.all_cons] at hq
   obtain ⟨s,hs⟩:∃ s,l[k]=s:=⟨_,rfl⟩
   rw [hs] at hso hq
   have hrun:=LB v hv s hso ps hp
   have hcl:(gE v ps (eff s)).length=v.trams.length:=oE _ _ _ _
   rw [MN] at hq
   rw [P3,show (dP v (eff s) ps v.trams.length).2=gE v ps (eff s) from rfl,AP] at hrun
   obtain ⟨C,hC⟩:∃ C,gE v ps (eff s)=C:=⟨_,rfl⟩
   obtain ⟨SS,hSS⟩:∃ SS,(dP v (eff s) ps v.trams.length).1.map eZ=SS:=⟨_,rfl⟩
   have hSd:mO SS:=by rw [←hSS];exact cL tO _
   rw [hC] at hrun hcl hq
   rw [hSS] at hrun
   simp only [aQ] at hrun
   (repeat (first|simp only [↓QA,QB,Nat.reduceLT,reduceIte,Nat.reduceEqDiff,Nat.reduceAdd,Nat.reduceLeDiff,Nat.reduceMul,Nat.reduceBEq,d6,bJ,cC,hk1,hs,ints]|refine rd0 rfl ?_))
   ((first|refine aE (hrun) rfl dd ?_|refine aF (hrun) rfl dd ?_);(repeat (first|simp only [↓QA,QB,Nat.reduceLT,reduceIte,Nat.reduceEqDiff,Nat.reduceAdd,Nat.reduceLeDiff,Nat.reduceMul,Nat.reduceBEq,d6,bJ,cC,hk1,hs,ints]|refine rd0 rfl ?_)))
   refine bY (S:=Nat) 0 (fun t=>t≤v.trams.length∧mG v C t=true) (fun t=>v.trams.length-t)
    (fun t=>[(1,fF l),(2,aN ps),(3,.ptr 0 0),(7,.int .i64 k),(9,ints C),(10,.int .i64 t)]) (fun t=>[.cells (aB v)]) ⟨Nat.zero_le _,rfl⟩ (by simp [aB,ints]) ?_ fun t ht=>?_
   ·try simp only [aC,QE,Nat.reduceLT,reduceIte,Nat.reduceEqDiff,Nat.reduceAdd,Nat.reduceLeDiff,Nat.reduceMul,Nat.reduceBEq,d6,bJ,cC,aN,ints]
    try simp
   ·obtain ⟨ht,hf⟩:=ht
    (repeat (first|simp only [↓QA,QB,Nat.reduceLT,reduceIte,Nat.reduceEqDiff,Nat.reduceAdd,Nat.reduceLeDiff,Nat.reduceMul,Nat.reduceBEq,d6,bJ,cC,ZP,hcl]|refine rd0 rfl ?_))
    refine aG (fun h3=>?_) fun h3=>?_
    ·have ht1:t<v.trams.length:=by simpa using h3
     have hwt:=bV ht1 (by omega)
     have htc:t<C.length:=by omega
     have hsu:=xT v C t
     have hit:=xK (v:=v) (t:=t) (z:=v.trams[t]) (by simp [ht1]) (d8 C t)
     rw [hf,Bool.true_and,hit,LW htc] at hsu
     obtain ⟨z,hz⟩:∃ z,v.trams[t]=z:=⟨_,rfl⟩
     obtain ⟨c,hc⟩:∃ c,C[t]=c:=⟨_,rfl⟩
     rw [hz,hc] at hsu
     (repeat (first|simp only [↓QA,QB,Nat.reduceLT,reduceIte,Nat.reduceEqDiff,Nat.reduceAdd,Nat.reduceLeDiff,Nat.reduceMul,Nat.reduceBEq,d6,bJ,cC,ht1,hz,htc,hc]|refine rd0 rfl ?_))
     ((first|refine aE (BZ z c) rfl dd ?_|refine aF (BZ z c) rfl dd ?_);(repeat (first|simp only [↓QA,QB,Nat.reduceLT,reduceIte,Nat.reduceEqDiff,Nat.reduceAdd,Nat.reduceLeDiff,Nat.reduceMul,Nat.reduceBEq,d6,bJ,cC,ht1,hz,htc,hc]|refine rd0 rfl ?_)))
     cases q:(!decide (c = -1)&&decide (c≤z.due))
     ·rw [q] at hsu
      have:=CQ hsu (show t+1≤v.trams.length by omega)
      rw [this,Bool.false_and] at hq
      simp only [Bool.not_false,nB]
      (repeat (first|simp only [↓QA,QB,Nat.reduceLT,reduceIte,Nat.reduceEqDiff,Nat.reduceAdd,Nat.reduceLeDiff,Nat.reduceMul,Nat.reduceBEq,d6,bJ,cC,←hq]|refine rd0 rfl ?_))
      try rfl
     ·rw [q] at hsu
      simp only [Bool.not_true,lD]
      (repeat (first|simp only [↓QA,QB,Nat.reduceLT,reduceIte,Nat.reduceEqDiff,Nat.reduceAdd,Nat.reduceLeDiff,Nat.reduceMul,Nat.reduceBEq,d6,bJ,cC,hwt]|refine rd0 rfl ?_))
      refine ⟨t+1,⟨by omega,hsu⟩,by omega,?_⟩
      try simp only [aC,QE,Nat.reduceLT,reduceIte,Nat.reduceEqDiff,Nat.reduceAdd,Nat.reduceLeDiff,Nat.reduceMul,Nat.reduceBEq,d6,bJ,cC,hwt,aN,ints]
      try simp [aJ]
    ·have ht1:t=v.trams.length:=by
      have:¬t<v.trams.length:=by simpa using h3
      omega
     rw [←ht1,hf,Bool.true_and] at hq
     (repeat (first|simp only [↓QA,QB,Nat.reduceLT,reduceIte,Nat.reduceEqDiff,Nat.reduceAdd,Nat.reduceLeDiff,Nat.reduceMul,Nat.reduceBEq,d6,bJ,cC,hw]|refine rd0 rfl ?_))
     refine ⟨k+1,⟨by omega,hq⟩,by omega,?_⟩
     try simp only [aC,QE,Nat.reduceLT,reduceIte,Nat.reduceEqDiff,Nat.reduceAdd,Nat.reduceLeDiff,Nat.reduceMul,Nat.reduceBEq,d6,bJ,cC,hw,aN,ints]
     try simp [aJ]
  ·have hk1:k=l.length:=by simp at h2;omega
   rw [hk1,List.drop_length,List.all_nil] at hq
   (repeat (first|simp only [↓QA,QB,Nat.reduceLT,reduceIte,Nat.reduceEqDiff,Nat.reduceAdd,Nat.reduceLeDiff,Nat.reduceMul,Nat.reduceBEq,d6,bJ,cC,←hq]|refine rd0 rfl ?_))
   try rfl
theorem xH {v:Net} {t:Nat} (h:t<v.trams.length):cH (gR v) t=v.trams[t].path:=by simp [cH,gR,h]
theorem zA {ps:List (List Int)} {t:Nat} (h:t<ps.length):cH ps t=ps[t]:=by simp [cH,h]
def H2 (v:Net) (ps:List (List Int)) (t:Int):Bool:=!decide (cH ps t.toNat=cH (gR v) t.toNat)
theorem wQ (v:Net) (ps:List (List Int)):(dB v ps).length≤ps.length:=by
 have:=List.length_filter_le (fun t:Int=>!decide (cH ps t.toNat=cH (gR v) t.toNat)) (aT 0 ps.length)
 rw [kE] at this
 exact this
theorem C3 (v:Net) (hv:Vd v) (ps:List (List Int)) (hp:ps.length≤v.trams.length) (hq:∀ p∈ps,p.length<9223372036854775808):dY T 55 [bX v,aN ps] (ints (dB v ps)):=by
 refine bA (af:=a55) rfl (by simp [a55]) dd ?_
 have hnt:=hv.ntr
 obtain ⟨n,hn⟩:∃ n,ps.length=n:=⟨_,rfl⟩
 obtain ⟨A,hA⟩:∃ A,dB v ps=A:=⟨_,rfl⟩
 have hA':[]++(aT ((0:Nat):Int) ((n:Int)-((0:Nat):Int)).toNat).filter (H2 v ps)=A:=by rw [←hA,dB,hn];simp;rfl
 rw [hA]
 (repeat (first|simp only [↓QA,QB,Nat.reduceLT,reduceIte,Nat.reduceEqDiff,Nat.reduceAdd,Nat.reduceLeDiff,Nat.reduceMul,Nat.reduceBEq,d6,bJ,cC,a55]|refine rd0 rfl ?_))
 refine jP 5 1 [] rfl ?_
 refine bY (S:=Nat×List Int×Bool) (0,[],false) (fun a=>a.1≤n∧a.2.1++(aT (a.1:Int) ((n:Int)-a.1).toNat).filter (H2 v ps)=A∧a.2.1.length≤a.1) (fun a=>n-a.1)
  (fun a=>[(1,aN ps),(2,.ptr 0 0),(5,.lit (a.2.1.map (.int .i64)) false (some 1)),(6,.int .i64 a.1)]) (fun a=>[.cells (aB v),.tok 1 a.2.1.length a.2.2]) ⟨Nat.zero_le _,hA',by simp⟩ (by simp [aB,ints]) ?_ fun a ha=>?_
 ·try simp only [aC,QE,Nat.reduceLT,reduceIte,Nat.reduceEqDiff,Nat.reduceAdd,Nat.reduceLeDiff,Nat.reduceMul,Nat.reduceBEq,d6,bJ,cC,aN,ints]
  try simp
 ·obtain ⟨t,acc,ex⟩:=a
  obtain ⟨ht,hacc,hal⟩:=ha
  simp only at ht hacc hal
  (repeat (first|simp only [↓QA,QB,Nat.reduceLT,reduceIte,Nat.reduceEqDiff,Nat.reduceAdd,Nat.reduceLeDiff,Nat.reduceMul,Nat.reduceBEq,d6,bJ,cC,Y7,aN,hn]|refine rd0 rfl ?_))
  refine aG (fun h=>?_) fun h=>?_
  ·have ht1:t<n:=by simpa using h
   have hw:=bV ht1 (by omega)
   have htp:t<ps.length:=by omega
   have htt:t<v.trams.length:=by omega
   rw [xX ht1] at hacc
   have hmv:H2 v ps (t:Int) = !decide (ps[t]=v.trams[t].path):=by rw [H2,Int.toNat_natCast,zA htp,xH htt]
   have hpl:=hq _ (List.getElem_mem htp)
   have htl:=(sD hv htt).len
   obtain ⟨z,hz⟩:∃ z,v.trams[t]=z:=⟨_,rfl⟩
   obtain ⟨p,hpe⟩:∃ p,ps[t]=p:=⟨_,rfl⟩
   rw [hz,hpe] at hmv
   rw [hz] at htl
   rw [hpe] at hpl
   have hap:=fun (b0:ABlk) (τ:St)=>lW (σ:=b0::.tok 1 acc.length ex::τ) (l:=acc) (a:=(t:Int)) (ex:=ex) (t:=1) (by omega) rfl
   (repeat (first|simp only [↓QA,QB,Nat.reduceLT,reduceIte,Nat.reduceEqDiff,Nat.reduceAdd,Nat.reduceLeDiff,Nat.reduceMul,Nat.reduceBEq,d6,bJ,cC,htp,hpe,htt,hz,aN,ints]|refine rd0 rfl ?_))
   ((first|refine aE (fU p z.path hpl (by omega)) rfl dd ?_|refine aF (fU p z.path hpl (by omega)) rfl dd ?_);(repeat (first|simp only [↓QA,QB,Nat.reduceLT,reduceIte,Nat.reduceEqDiff,Nat.reduceAdd,Nat.reduceLeDiff,Nat.reduceMul,Nat.reduceBEq,d6,bJ,cC,htp,hpe,htt,hz,aN,ints]|refine rd0 rfl ?_)))
   cases q:decide (p=z.path)
   ·rw [hmv,q] at hacc
    simp only [Bool.not_false,nB]
    (repeat (first|simp only [↓QA,QB,Nat.reduceLT,reduceIte,Nat.reduceEqDiff,Nat.reduceAdd,Nat.reduceLeDiff,Nat.reduceMul,Nat.reduceBEq,d6,bJ,cC,hap,hw]|refine rd0 rfl ?_))
    refine ⟨(t+1,acc++[(t:Int)],true),⟨by simp only;omega,by simpa using hacc,by simp;omega⟩,by simp only;omega,?_⟩
    try simp only [aC,QE,Nat.reduceLT,reduceIte,Nat.reduceEqDiff,Nat.reduceAdd,Nat.reduceLeDiff,Nat.reduceMul,Nat.reduceBEq,d6,bJ,cC,hw,nL,aN,ints,List.map_append,List.map_cons,List.map_nil]
    try simp [aJ]
   ·rw [hmv,q] at hacc
    simp only [Bool.not_true,lD]
    (repeat (first|simp only [↓QA,QB,Nat.reduceLT,reduceIte,Nat.reduceEqDiff,Nat.reduceAdd,Nat.reduceLeDiff,Nat.reduceMul,Nat.reduceBEq,d6,bJ,cC,hw]|refine rd0 rfl ?_))
    refine ⟨(t+1,acc,ex),⟨by simp only;omega,by simpa using hacc,by simp only;omega⟩,by simp only;omega,?_⟩
    try simp only [aC,QE,Nat.reduceLT,reduceIte,Nat.reduceEqDiff,Nat.reduceAdd,Nat.reduceLeDiff,Nat.reduceMul,Nat.reduceBEq,d6,bJ,cC,hw,aN,ints]
    try simp [aJ]
  ·have ht1:t=n:=by
    have:¬t<n:=by simpa using h
    omega
   rw [F2 ht1,List.append_nil] at hacc
   subst hacc
   (repeat (first|simp only [↓QA,QB,Nat.reduceLT,reduceIte,Nat.reduceEqDiff,Nat.reduceAdd,Nat.reduceLeDiff,Nat.reduceMul,Nat.reduceBEq,d6,bJ,cC,ints]|refine rd0 rfl ?_))
   try try simp only [QS,QC,Nat.reduceLT,reduceIte,Nat.reduceEqDiff,Nat.reduceAdd,Nat.reduceLeDiff,Nat.reduceMul,Nat.reduceBEq,d6,bJ,cC]
theorem tM {v:Net} {t:Nat} (h:t<v.trams.length):eR v t=v.trams[t].frm:=by simp [eR,h]
end Go.Am.Room
set_option maxRecDepth 4000
namespace Go.Am.Room
instance (l:List (List Int)):Dats (l.map ints):=⟨cL kC l⟩
def ME (x:List Int×Int):AV:=.tuple [ints x.1,.int .i64 x.2]
def zP (x:Int×Int×Int):AV:=.tuple [.int .i64 x.1,.int .i64 x.2.1,.int .i64 x.2.2]
theorem m9 {v:Net} (h:eQ v=0):Vd v∧bF v []≠[]:=by
 have hta:eQ v=gQ v (dL v).2.2:=rfl
 rw [hta,gQ] at h
 split at h
 ·rename_i q
  refine ⟨hJ q,fun e=>?_⟩
  rw [e] at h;simp at h
 ·rename_i q;exact absurd h q
end Go.Am.Room
set_option maxRecDepth 4000
namespace Go.Am.Room
def t8 (v:Net) (r:Int) (k:Nat):Nat:=((List.range k).filter fun t=>(cJ v (eR v t) [r]).isEmpty).length
theorem JQ (v:Net) (r:Int) (k:Nat):t8 v r (k+1)=t8 v r k+(if (cJ v (eR v k) [r]).isEmpty=true then 1 else 0):=by
 rw [t8,List.range_succ,List.filter_append,List.length_append,t8]
 by_cases e:(cJ v (eR v k) [r]).isEmpty=true
 ·simp [e]
 ·simp [e]
theorem RQ (v:Net) (r:Int) (k:Nat):t8 v r k≤k:=by
 have:=List.length_filter_le (fun t=>(cJ v (eR v t) [r]).isEmpty) (List.range k)
 rw [List.length_range] at this
 exact this
theorem HY {v:Net} {k:Nat} (h:k<v.rails.length) (b:Int×Int):rU v (aT (k:Int) ((v.rails.length:Int)-k).toNat) b=rU v (aT ((k+1:Nat):Int) ((v.rails.length:Int)-((k+1:Nat):Int)).toNat) (if v.rails[k].shut=1 then b else if b.1<0∨b.2<A7 v k then ((k:Int),A7 v k) else b):=by
 rw [m5 (by omega),rU,show (k:Int)+1=((k+1:Nat):Int) by omega,wE h]
end Go.Am.Room
set_option maxRecDepth 4000
namespace Go.Am.Room
def nI {α:Type} (p:α→Bool):List α→Nat→Int
 |[],_=>-1
 |x::xs,k=>if p x then k else nI p xs (k+1)
theorem wU {α:Type} (p:α→Bool):∀ (l:List α) (k:Nat),decide (0≤nI p l k)=l.any p
 |[],k=>by simp [nI]
 |x::xs,k=>by
  cases h:p x
  ·simp [nI,h,wU p xs (k+1)]
  ·simp [nI,h]
theorem MI (σ:St) (f:AV) (l:List Int) (p:Int→Bool) (hl:l.length<9223372036854775808) (hk:uE σ f) (h:∀ x∈l,jJ T f [.int .i64 x] σ (.bool (p x))):jJ T (.func 114 [] []) [ints l,f] σ (.int .i64 (nI p l 0)):=by
 refine eV (af:=a114) rfl (by simp [a114]) ?_
 have hk0:=hk.nil
 (repeat (first|simp only [↓QA,QB,Nat.reduceLT,reduceIte,Nat.reduceEqDiff,Nat.reduceAdd,Nat.reduceLeDiff,Nat.reduceMul,Nat.reduceBEq,a114]|refine rd0 rfl ?_))
 refine bY (S:=Nat) 0 (fun k=>k≤l.length∧nI p (l.drop k) k=nI p l 0) (fun k=>l.length-k) (fun k=>[(0,ints l),(1,f),(7,.int .i64 l.length),(8,.int .i64 k)]) (fun _=>σ) ⟨Nat.zero_le _,by simp⟩ rfl ?_ fun k hk1=>?_
 ·try simp only [aC,QE,Nat.reduceLT,reduceIte,Nat.reduceEqDiff,Nat.reduceAdd,Nat.reduceLeDiff,Nat.reduceMul,Nat.reduceBEq]
  try simp
 ·obtain ⟨hkl,hi⟩:=hk1
  (repeat (first|simp only [↓QA,QB,Nat.reduceLT,reduceIte,Nat.reduceEqDiff,Nat.reduceAdd,Nat.reduceLeDiff,Nat.reduceMul,Nat.reduceBEq,TG]|refine rd0 rfl ?_))
  refine aG (fun hd=>?_) fun hd=>?_
  ·have hlt:k<l.length:=by simpa using hd
   rw [List.drop_eq_getElem_cons hlt] at hi
   simp only [nI] at hi
   have hw:=bV hlt hl
   (repeat (first|simp only [↓QA,QB,Nat.reduceLT,reduceIte,Nat.reduceEqDiff,Nat.reduceAdd,Nat.reduceLeDiff,Nat.reduceMul,Nat.reduceBEq,hlt]|refine rd0 rfl ?_))
   refine bW (h l[k] (List.getElem_mem hlt)) ?_
   (repeat (first|simp only [↓QA,QB,Nat.reduceLT,reduceIte,Nat.reduceEqDiff,Nat.reduceAdd,Nat.reduceLeDiff,Nat.reduceMul,Nat.reduceBEq]|refine rd0 rfl ?_))
   cases hp:p l[k]
   ·(repeat (first|simp only [↓QA,QB,Nat.reduceLT,reduceIte,Nat.reduceEqDiff,Nat.reduceAdd,Nat.reduceLeDiff,Nat.reduceMul,Nat.reduceBEq,hw]|refine rd0 rfl ?_))
    refine ⟨k+1,⟨by omega,by rw [←hi,hp];rfl⟩,by omega,?_⟩
    try simp only [aC,QE,Nat.reduceLT,reduceIte,Nat.reduceEqDiff,Nat.reduceAdd,Nat.reduceLeDiff,Nat.reduceMul,Nat.reduceBEq,hw,hk0,Nat.le_refl]
   ·(repeat (first|simp only [↓QA,QB,Nat.reduceLT,reduceIte,Nat.reduceEqDiff,Nat.reduceAdd,Nat.reduceLeDiff,Nat.reduceMul,Nat.reduceBEq]|refine rd0 rfl ?_))
    refine fI [] (by first|rfl|simp) ?_
    rw [←hi,hp]
    try simp only [QS,QC,Nat.reduceLT,reduceIte,Nat.reduceEqDiff,Nat.reduceAdd,Nat.reduceLeDiff,Nat.reduceMul,Nat.reduceBEq]
  ·have hlt:k=l.length:=by simp at hd;omega
   (repeat (first|simp only [↓QA,QB,Nat.reduceLT,reduceIte,Nat.reduceEqDiff,Nat.reduceAdd,Nat.reduceLeDiff,Nat.reduceMul,Nat.reduceBEq]|refine rd0 rfl ?_))
   refine fI [] (by first|rfl|simp) ?_
   rw [←hi,hlt,List.drop_length]
   try simp only [QS,QC,Nat.reduceLT,reduceIte,Nat.reduceEqDiff,Nat.reduceAdd,Nat.reduceLeDiff,Nat.reduceMul,Nat.reduceBEq,nI]
theorem qN (σ:St) (f:AV) (l:List Int) (p:Int→Bool) (hl:l.length<9223372036854775808) (hk:uE σ f) (h:∀ x∈l,jJ T f [.int .i64 x] σ (.bool (p x))):jJ T (.func 98 [] []) [ints l,f] σ (.bool (l.any p)):=by
 refine eV (af:=a98) rfl (by simp [a98]) ?_
 (repeat (first|simp only [↓QA,QB,Nat.reduceLT,reduceIte,Nat.reduceEqDiff,Nat.reduceAdd,Nat.reduceLeDiff,Nat.reduceMul,Nat.reduceBEq,a98]|refine rd0 rfl ?_))
 refine bW (MI σ f l p hl hk h) ?_
 (repeat (first|simp only [↓QA,QB,Nat.reduceLT,reduceIte,Nat.reduceEqDiff,Nat.reduceAdd,Nat.reduceLeDiff,Nat.reduceMul,Nat.reduceBEq]|refine rd0 rfl ?_))
 refine fI [] (by first|rfl|simp) ?_
 rw [←wU p l 0]
 try simp only [QS,QC,Nat.reduceLT,reduceIte,Nat.reduceEqDiff,Nat.reduceAdd,Nat.reduceLeDiff,Nat.reduceMul,Nat.reduceBEq]
def lP (lo hi n:Int):Bool:=decide (n<lo)||decide (hi<n)
theorem JS (lo hi n:Int):jJ T (.func 99 [] [.ptr 0 0,.ptr 1 0]) [.int .i64 n] [.cells [.int .i64 lo],.cells [.int .i64 hi]] (.bool (lP lo hi n)):=by
 refine eV (af:=a99) rfl (by simp [a99]) ?_
 (repeat (first|simp only [↓QA,QB,Nat.reduceLT,reduceIte,Nat.reduceEqDiff,Nat.reduceAdd,Nat.reduceLeDiff,Nat.reduceMul,Nat.reduceBEq,a99]|refine rd0 rfl ?_))
 refine aG (fun h=>?_) fun h=>?_
 all_goals
  (repeat (first|simp only [↓QA,QB,Nat.reduceLT,reduceIte,Nat.reduceEqDiff,Nat.reduceAdd,Nat.reduceLeDiff,Nat.reduceMul,Nat.reduceBEq,h]|refine rd0 rfl ?_))
  refine fI [] (by first|rfl|simp) ?_
  try simp only [QS,QC,Nat.reduceLT,reduceIte,Nat.reduceEqDiff,Nat.reduceAdd,Nat.reduceLeDiff,Nat.reduceMul,Nat.reduceBEq,lP,h]
  try simp
def oR (lo hi:Int) (ns:List Int):Bool:=ns.any (lP lo hi)
theorem bQ (lo hi:Int) (ns:List Int) (hl:ns.length<9223372036854775808):dY T 63 [.int .i64 lo,.int .i64 hi,ints ns] (.bool (oR lo hi ns)):=by
 refine bA (af:=a63) rfl (by simp [a63]) dd ?_
 (repeat (first|simp only [↓QA,QB,Nat.reduceLT,reduceIte,Nat.reduceEqDiff,Nat.reduceAdd,Nat.reduceLeDiff,Nat.reduceMul,Nat.reduceBEq,a63]|refine rd0 rfl ?_))
 refine bW (qN _ _ ns (lP lo hi) hl (fun τ=>?_) fun x _=>JS lo hi x) ?_
 ·try simp only [QS,QC,Nat.reduceLT,reduceIte,Nat.reduceEqDiff,Nat.reduceAdd,Nat.reduceLeDiff,Nat.reduceMul,Nat.reduceBEq]
 ·(repeat (first|simp only [↓QA,QB,Nat.reduceLT,reduceIte,Nat.reduceEqDiff,Nat.reduceAdd,Nat.reduceLeDiff,Nat.reduceMul,Nat.reduceBEq,oR]|refine rd0 rfl ?_))
theorem WI (lo hi n:Int):jJ T (.func 115 [] [.ptr 0 0,.ptr 1 0]) [.int .i64 n] [.cells [.int .i64 lo],.cells [.int .i64 hi]] (.bool (lP lo hi n)):=by
 refine eV (af:=a115) rfl (by simp [a115]) ?_
 (repeat (first|simp only [↓QA,QB,Nat.reduceLT,reduceIte,Nat.reduceEqDiff,Nat.reduceAdd,Nat.reduceLeDiff,Nat.reduceMul,Nat.reduceBEq,a115]|refine rd0 rfl ?_))
 refine aG (fun h=>?_) fun h=>?_
 all_goals
  (repeat (first|simp only [↓QA,QB,Nat.reduceLT,reduceIte,Nat.reduceEqDiff,Nat.reduceAdd,Nat.reduceLeDiff,Nat.reduceMul,Nat.reduceBEq,h]|refine rd0 rfl ?_))
  refine fI [] (by first|rfl|simp) ?_
  try simp only [QS,QC,Nat.reduceLT,reduceIte,Nat.reduceEqDiff,Nat.reduceAdd,Nat.reduceLeDiff,Nat.reduceMul,Nat.reduceBEq,lP,h]
  try simp
theorem PX (lo hi:Int) (ns:List Int) (hl:ns.length<9223372036854775808):dY T 100 [.int .i64 lo,.int .i64 hi,ints ns] (.bool (oR lo hi ns)):=by
 refine bA (af:=a100) rfl (by simp [a100]) dd ?_
 (repeat (first|simp only [↓QA,QB,Nat.reduceLT,reduceIte,Nat.reduceEqDiff,Nat.reduceAdd,Nat.reduceLeDiff,Nat.reduceMul,Nat.reduceBEq,a100]|refine rd0 rfl ?_))
 refine bW (qN _ _ ns (lP lo hi) hl (fun τ=>?_) fun x _=>WI lo hi x) ?_
 ·try simp only [QS,QC,Nat.reduceLT,reduceIte,Nat.reduceEqDiff,Nat.reduceAdd,Nat.reduceLeDiff,Nat.reduceMul,Nat.reduceBEq]
 ·(repeat (first|simp only [↓QA,QB,Nat.reduceLT,reduceIte,Nat.reduceEqDiff,Nat.reduceAdd,Nat.reduceLeDiff,Nat.reduceMul,Nat.reduceBEq,oR]|refine rd0 rfl ?_))
theorem yA (s:ByteArray):∀ n k,k≤n→gT s k=false→gT s n=false
  | 0, k, h, h1 => by have : k = 0 := by omega
                      subst this;exact h1
  |n+1,k,h,h1=>by
    by_cases hk:k=n+1
    · subst hk;exact h1
    · simp [gT,yA s n k (by omega) h1]
theorem jW (lo hi n:Int):oR lo hi [n] = !inR n lo hi:=by
 rw [Bool.eq_iff_iff];simp [oR,lP,inR]
theorem L8 (lo hi n m:Int):oR lo hi [n,m]=(!inR n lo hi||!inR m lo hi):=by
 rw [Bool.eq_iff_iff];simp [oR,lP,inR]
theorem yQ (s:ByteArray) (hs:s.size<9223372036854775808):dY T 68 [.str s] (.bool (oY s)):=by
 refine bA (af:=a68) rfl (by simp [a68]) dd ?_
 (repeat (first|simp only [↓QA,QB,Nat.reduceLT,reduceIte,Nat.reduceEqDiff,Nat.reduceAdd,Nat.reduceLeDiff,Nat.reduceMul,Nat.reduceBEq,a68]|refine rd0 rfl ?_))
 refine bY (S:=Nat) 0 (fun k=>k≤s.size∧gT s k=true) (fun k=>s.size-k) (fun k=>[(0,.str s),(7,.ptr 0 0)]) (fun k=>[.siter s k]) ⟨Nat.zero_le _,rfl⟩ rfl ?_ fun k hk=>?_
 ·try simp only [aC,QE,Nat.reduceLT,reduceIte,Nat.reduceEqDiff,Nat.reduceAdd,Nat.reduceLeDiff,Nat.reduceMul,Nat.reduceBEq]
  try simp
 ·obtain ⟨hkl,hok⟩:=hk
  by_cases hk1:k<s.size
  ·obtain ⟨R,hR⟩:∃ R:Int,((Utf8.decode s k).1:Int)=R:=⟨_,rfl⟩
   obtain ⟨W,hW⟩:∃ W,(Utf8.decode s k).2=W:=⟨_,rfl⟩
   have hstep:gT s (k+1)=BI k (eT s k):=by simp [gT,hok]
   have hbl:=CY s k
   have key:(97≤R∧R≤122∨0<k∧(R=46∨48≤R∧R≤57))→W=1∧gT s (k+1)=true:=by
    intro h
    by_cases hb:eT s k<128
    ·have:=vE hk1 hb
     rw [this] at hR hW
     have hR':R=eT s k:=by simp at hR;omega
     refine ⟨hW.symm,?_⟩
     rw [hstep,BI,←hR']
     simp [inR]
     omega
    ·have:=HK hk1 (by omega)
     omega
   have key2:¬(97≤R∧R≤122∨0<k∧(R=46∨48≤R∧R≤57))→oY s=false:=by
    intro h
    have:gT s (k+1)=false:=by
     rw [hstep,BI]
     by_cases hb:eT s k<128
     ·have:=vE hk1 hb
      rw [this] at hR hW
      have hR':R=eT s k:=by simp at hR;omega
      rw [←hR']
      simp [inR]
      omega
     ·simp [inR];omega
    simp [oY,yA s s.size (k+1) (by omega) this]
   have go:∀ (e:Env),W=1∧gT s (k+1)=true→Env.get e 0 = .str s→Env.get e 7 = .ptr 0 0→∃ s',(s'≤s.size∧gT s s'=true)∧s.size-s'<s.size-k∧aC [.siter s k] e [.siter s (k+W)] [(0,.str s),(7,.ptr 0 0)] [.siter s s']:=by
    intro e h e0 e7
    refine ⟨k+1,⟨by omega,h.2⟩,by omega,?_⟩
    try simp only [aC,QE,Nat.reduceLT,reduceIte,Nat.reduceEqDiff,Nat.reduceAdd,Nat.reduceLeDiff,Nat.reduceMul,Nat.reduceBEq,e0,e7,h.1]
    try simp [aJ]
   (repeat (first|simp only [↓QA,QB,Nat.reduceLT,reduceIte,Nat.reduceEqDiff,Nat.reduceAdd,Nat.reduceLeDiff,Nat.reduceMul,Nat.reduceBEq,O6,SA hk1,hR,hW]|refine rd0 rfl ?_))
   cases h1:decide (97≤R)
   ·have h1':¬97≤R:=by simpa using h1
    (repeat (first|simp only [↓QA,QB,Nat.reduceLT,reduceIte,Nat.reduceEqDiff,Nat.reduceAdd,Nat.reduceLeDiff,Nat.reduceMul,Nat.reduceBEq,h1]|refine rd0 rfl ?_))
    cases h3:((k:Int)==0)
    ·have h3':0<k:=by simp at h3;omega
     (repeat (first|simp only [↓QA,QB,Nat.reduceLT,reduceIte,Nat.reduceEqDiff,Nat.reduceAdd,Nat.reduceLeDiff,Nat.reduceMul,Nat.reduceBEq,h3]|refine rd0 rfl ?_))
     cases h4:(R==46)
     ·have h4':R≠46:=by simpa using h4
      (repeat (first|simp only [↓QA,QB,Nat.reduceLT,reduceIte,Nat.reduceEqDiff,Nat.reduceAdd,Nat.reduceLeDiff,Nat.reduceMul,Nat.reduceBEq,h4]|refine rd0 rfl ?_))
      cases h5:decide (R<48)
      ·have h5':¬R<48:=by simpa using h5
       (repeat (first|simp only [↓QA,QB,Nat.reduceLT,reduceIte,Nat.reduceEqDiff,Nat.reduceAdd,Nat.reduceLeDiff,Nat.reduceMul,Nat.reduceBEq,h5]|refine rd0 rfl ?_))
       cases h6:decide (57<R)
       ·have h6':¬57<R:=by simpa using h6
        (repeat (first|simp only [↓QA,QB,Nat.reduceLT,reduceIte,Nat.reduceEqDiff,Nat.reduceAdd,Nat.reduceLeDiff,Nat.reduceMul,Nat.reduceBEq,h6]|refine rd0 rfl ?_))
        exact go _ (key (by omega)) (by try simp only [aC,QE,Nat.reduceLT,reduceIte,Nat.reduceEqDiff,Nat.reduceAdd,Nat.reduceLeDiff,Nat.reduceMul,Nat.reduceBEq]) (by try simp only [aC,QE,Nat.reduceLT,reduceIte,Nat.reduceEqDiff,Nat.reduceAdd,Nat.reduceLeDiff,Nat.reduceMul,Nat.reduceBEq])
       ·have h6':57<R:=by simpa using h6
        rw [key2 (by omega)]
        (repeat (first|simp only [↓QA,QB,Nat.reduceLT,reduceIte,Nat.reduceEqDiff,Nat.reduceAdd,Nat.reduceLeDiff,Nat.reduceMul,Nat.reduceBEq,h6]|refine rd0 rfl ?_))
      ·have h5':R<48:=by simpa using h5
       rw [key2 (by omega)]
       (repeat (first|simp only [↓QA,QB,Nat.reduceLT,reduceIte,Nat.reduceEqDiff,Nat.reduceAdd,Nat.reduceLeDiff,Nat.reduceMul,Nat.reduceBEq,h5]|refine rd0 rfl ?_))
     ·have h4':R=46:=by simpa using h4
      (repeat (first|simp only [↓QA,QB,Nat.reduceLT,reduceIte,Nat.reduceEqDiff,Nat.reduceAdd,Nat.reduceLeDiff,Nat.reduceMul,Nat.reduceBEq,h4]|refine rd0 rfl ?_))
      exact go _ (key (by omega)) (by try simp only [aC,QE,Nat.reduceLT,reduceIte,Nat.reduceEqDiff,Nat.reduceAdd,Nat.reduceLeDiff,Nat.reduceMul,Nat.reduceBEq]) (by try simp only [aC,QE,Nat.reduceLT,reduceIte,Nat.reduceEqDiff,Nat.reduceAdd,Nat.reduceLeDiff,Nat.reduceMul,Nat.reduceBEq])
    ·have h3':k=0:=by simp at h3;omega
     rw [key2 (by omega)]
     (repeat (first|simp only [↓QA,QB,Nat.reduceLT,reduceIte,Nat.reduceEqDiff,Nat.reduceAdd,Nat.reduceLeDiff,Nat.reduceMul,Nat.reduceBEq,h3]|refine rd0 rfl ?_))
   ·have h1':97≤R:=by simpa using h1
    (repeat (first|simp only [↓QA,QB,Nat.reduceLT,reduceIte,Nat.reduceEqDiff,Nat.reduceAdd,Nat.reduceLeDiff,Nat.reduceMul,Nat.reduceBEq,h1]|refine rd0 rfl ?_))
    cases h2:decide (R≤122)
    ·have h2':¬R≤122:=by simpa using h2
     (repeat (first|simp only [↓QA,QB,Nat.reduceLT,reduceIte,Nat.reduceEqDiff,Nat.reduceAdd,Nat.reduceLeDiff,Nat.reduceMul,Nat.reduceBEq,h2]|refine rd0 rfl ?_))
     cases h3:((k:Int)==0)
     ·have h3':0<k:=by simp at h3;omega
      (repeat (first|simp only [↓QA,QB,Nat.reduceLT,reduceIte,Nat.reduceEqDiff,Nat.reduceAdd,Nat.reduceLeDiff,Nat.reduceMul,Nat.reduceBEq,h3]|refine rd0 rfl ?_))
      cases h4:(R==46)
      ·have h4':R≠46:=by simpa using h4
       (repeat (first|simp only [↓QA,QB,Nat.reduceLT,reduceIte,Nat.reduceEqDiff,Nat.reduceAdd,Nat.reduceLeDiff,Nat.reduceMul,Nat.reduceBEq,h4]|refine rd0 rfl ?_))
       cases h5:decide (R<48)
       ·have h5':¬R<48:=by simpa using h5
        (repeat (first|simp only [↓QA,QB,Nat.reduceLT,reduceIte,Nat.reduceEqDiff,Nat.reduceAdd,Nat.reduceLeDiff,Nat.reduceMul,Nat.reduceBEq,h5]|refine rd0 rfl ?_))
        cases h6:decide (57<R)
        ·have h6':¬57<R:=by simpa using h6
         (repeat (first|simp only [↓QA,QB,Nat.reduceLT,reduceIte,Nat.reduceEqDiff,Nat.reduceAdd,Nat.reduceLeDiff,Nat.reduceMul,Nat.reduceBEq,h6]|refine rd0 rfl ?_))
         exact go _ (key (by omega)) (by try simp only [aC,QE,Nat.reduceLT,reduceIte,Nat.reduceEqDiff,Nat.reduceAdd,Nat.reduceLeDiff,Nat.reduceMul,Nat.reduceBEq]) (by try simp only [aC,QE,Nat.reduceLT,reduceIte,Nat.reduceEqDiff,Nat.reduceAdd,Nat.reduceLeDiff,Nat.reduceMul,Nat.reduceBEq])
        ·have h6':57<R:=by simpa using h6
         rw [key2 (by omega)]
         (repeat (first|simp only [↓QA,QB,Nat.reduceLT,reduceIte,Nat.reduceEqDiff,Nat.reduceAdd,Nat.reduceLeDiff,Nat.reduceMul,Nat.reduceBEq,h6]|refine rd0 rfl ?_))
       ·have h5':R<48:=by simpa using h5
        rw [key2 (by omega)]
        (repeat (first|simp only [↓QA,QB,Nat.reduceLT,reduceIte,Nat.reduceEqDiff,Nat.reduceAdd,Nat.reduceLeDiff,Nat.reduceMul,Nat.reduceBEq,h5]|refine rd0 rfl ?_))
      ·have h4':R=46:=by simpa using h4
       (repeat (first|simp only [↓QA,QB,Nat.reduceLT,reduceIte,Nat.reduceEqDiff,Nat.reduceAdd,Nat.reduceLeDiff,Nat.reduceMul,Nat.reduceBEq,h4]|refine rd0 rfl ?_))
       exact go _ (key (by omega)) (by try simp only [aC,QE,Nat.reduceLT,reduceIte,Nat.reduceEqDiff,Nat.reduceAdd,Nat.reduceLeDiff,Nat.reduceMul,Nat.reduceBEq]) (by try simp only [aC,QE,Nat.reduceLT,reduceIte,Nat.reduceEqDiff,Nat.reduceAdd,Nat.reduceLeDiff,Nat.reduceMul,Nat.reduceBEq])
     ·have h3':k=0:=by simp at h3;omega
      rw [key2 (by omega)]
      (repeat (first|simp only [↓QA,QB,Nat.reduceLT,reduceIte,Nat.reduceEqDiff,Nat.reduceAdd,Nat.reduceLeDiff,Nat.reduceMul,Nat.reduceBEq,h3]|refine rd0 rfl ?_))
    ·have h2':R≤122:=by simpa using h2
     (repeat (first|simp only [↓QA,QB,Nat.reduceLT,reduceIte,Nat.reduceEqDiff,Nat.reduceAdd,Nat.reduceLeDiff,Nat.reduceMul,Nat.reduceBEq,h2]|refine rd0 rfl ?_))
     exact go _ (key (by omega)) (by try simp only [aC,QE,Nat.reduceLT,reduceIte,Nat.reduceEqDiff,Nat.reduceAdd,Nat.reduceLeDiff,Nat.reduceMul,Nat.reduceBEq]) (by try simp only [aC,QE,Nat.reduceLT,reduceIte,Nat.reduceEqDiff,Nat.reduceAdd,Nat.reduceLeDiff,Nat.reduceMul,Nat.reduceBEq])
  ·have hk2:k=s.size:=by omega
   (repeat (first|simp only [↓QA,QB,Nat.reduceLT,reduceIte,Nat.reduceEqDiff,Nat.reduceAdd,Nat.reduceLeDiff,Nat.reduceMul,Nat.reduceBEq,O6,RP hk1]|refine rd0 rfl ?_))
   ((first|refine eN (PX 1 16 [(s.size:Int)] (by simp)) (by simp [clr,clrs,ints]) (by simp [okV,okVs]) ?_|refine fA (PX 1 16 [(s.size:Int)] (by simp)) (by simp [clr,clrs,ints]) (by simp [okV,okVs]) ?_);(repeat (first|simp only [↓QA,QB,Nat.reduceLT,reduceIte,Nat.reduceEqDiff,Nat.reduceAdd,Nat.reduceLeDiff,Nat.reduceMul,Nat.reduceBEq]|refine rd0 rfl ?_)))
   rw [jW]
   (repeat (first|simp only [↓QA,QB,Nat.reduceLT,reduceIte,Nat.reduceEqDiff,Nat.reduceAdd,Nat.reduceLeDiff,Nat.reduceMul,Nat.reduceBEq]|refine rd0 rfl ?_))
   simp [oY,←hk2,hok]
def uZ (x:Int×Int):AV:=.tuple [.int .i64 x.1,.int .i64 x.2]
theorem AB {α:Type} (f:α→ByteArray) (s:ByteArray):∀ l:List α,l.any (fun x=>decide (f x=s))=decide (j4 s (l.map f)≠(l.map f).length)
 |[]=>by simp [j4]
 |x::xs=>by
  simp only [List.any_cons,AB f s xs,List.map_cons,j4,List.length_cons]
  by_cases h:f x=s
  ·simp [h]
  ·simp [h]
end Go.Am.Room
set_option maxRecDepth 4000
namespace Go.Am.Room
def eP:=And.intro @Int.toNat_natCast (@List.length_append.{0})
theorem vF (n:Int):dY T 121 [.int .i64 n] (.bool false):=by
 refine bA (af:=a121) rfl (by simp [a121]) dd ?_
 (repeat (first|simp only [↓QA,QB,Nat.reduceLT,reduceIte,Nat.reduceEqDiff,Nat.reduceAdd,Nat.reduceLeDiff,Nat.reduceMul,Nat.reduceBEq,eP,a121]|refine rd0 rfl ?_))
 try simp
def CC (a b:Int):Int:=if a<b then -1 else if b<a then 1 else 0
theorem TI (a b:Int):dY T 113 [.int .i64 a,.int .i64 b] (.int .i64 (CC a b)):=by
 refine bA (af:=a113) rfl (by simp [a113]) dd ?_
 (repeat (first|simp only [↓QA,QB,Nat.reduceLT,reduceIte,Nat.reduceEqDiff,Nat.reduceAdd,Nat.reduceLeDiff,Nat.reduceMul,Nat.reduceBEq,eP,a113]|refine rd0 rfl ?_))
 ((first|refine aE (vF a) rfl dd ?_|refine aF (vF a) rfl dd ?_);(repeat (first|simp only [↓QA,QB,Nat.reduceLT,reduceIte,Nat.reduceEqDiff,Nat.reduceAdd,Nat.reduceLeDiff,Nat.reduceMul,Nat.reduceBEq,eP]|refine rd0 rfl ?_)))
 ((first|refine aE (vF b) rfl dd ?_|refine aF (vF b) rfl dd ?_);(repeat (first|simp only [↓QA,QB,Nat.reduceLT,reduceIte,Nat.reduceEqDiff,Nat.reduceAdd,Nat.reduceLeDiff,Nat.reduceMul,Nat.reduceBEq,eP]|refine rd0 rfl ?_)))
 cases h1:decide (a<b)
 ·have h1':¬a<b:=by simpa using h1
  (repeat (first|simp only [↓QA,QB,Nat.reduceLT,reduceIte,Nat.reduceEqDiff,Nat.reduceAdd,Nat.reduceLeDiff,Nat.reduceMul,Nat.reduceBEq,eP]|refine rd0 rfl ?_))
  cases h2:decide (b<a)
  ·have h2':¬b<a:=by simpa using h2
   (repeat (first|simp only [↓QA,QB,Nat.reduceLT,reduceIte,Nat.reduceEqDiff,Nat.reduceAdd,Nat.reduceLeDiff,Nat.reduceMul,Nat.reduceBEq,eP]|refine rd0 rfl ?_))
   simp [CC,h1',h2']
  ·have h2':b<a:=by simpa using h2
   (repeat (first|simp only [↓QA,QB,Nat.reduceLT,reduceIte,Nat.reduceEqDiff,Nat.reduceAdd,Nat.reduceLeDiff,Nat.reduceMul,Nat.reduceBEq,eP]|refine rd0 rfl ?_))
   simp [CC,h1',h2']
 ·have h1':a<b:=by simpa using h1
  (repeat (first|simp only [↓QA,QB,Nat.reduceLT,reduceIte,Nat.reduceEqDiff,Nat.reduceAdd,Nat.reduceLeDiff,Nat.reduceMul,Nat.reduceBEq,eP]|refine rd0 rfl ?_))
  simp [CC,h1']
def CN:List Int→List Int→Int
 |[],[]=>0
 |[],_::_=>-1
 |_::_,[]=>1
 |a::az,b::bs=>if CC a b=0 then CN az bs else CC a b
theorem DA:∀ a b:List Int,decide (0<CN a b)=less b a
 |[],[]=>rfl
 |[],b::bs=>rfl
 |a::az,[]=>rfl
 |a::az,b::bs=>by
  have ih:=DA az bs
  simp only [CN,less,CC]
  by_cases h1:a<b
  ·simp [h1,show ¬b=a by omega];omega
  ·by_cases h2:b<a
   ·simp [h1,h2,show ¬b=a by omega]
   ·have:b=a:=by omega
    subst this
    simp [ih]
theorem L4 (a b:List Int) (ha:a.length<9223372036854775808) (hb:b.length<9223372036854775808):dY T 91 [ints a,ints b] (.int .i64 (CN a b)):=by
 refine bA (af:=a91) rfl (by simp [a91]) dd ?_
 (repeat (first|simp only [↓QA,QB,Nat.reduceLT,reduceIte,Nat.reduceEqDiff,Nat.reduceAdd,Nat.reduceLeDiff,Nat.reduceMul,Nat.reduceBEq,eP,a91]|refine rd0 rfl ?_))
 refine bY (S:=Nat) 0 (fun k=>k≤a.length∧k≤b.length∧CN (a.drop k) (b.drop k)=CN a b) (fun k=>a.length-k) (fun k=>[(0,ints a),(1,ints b),(9,ints a),(10,.int .i64 a.length),(11,.int .i64 k)]) (fun _=>[]) ⟨by simp,by simp,by simp⟩ rfl ?_ fun k hk=>?_
 ·try simp only [aC,QE,Nat.reduceLT,reduceIte,Nat.reduceEqDiff,Nat.reduceAdd,Nat.reduceLeDiff,Nat.reduceMul,Nat.reduceBEq,eP]
  try simp
 ·obtain ⟨hk,hkb,hq⟩:=hk
  (repeat (first|simp only [↓QA,QB,Nat.reduceLT,reduceIte,Nat.reduceEqDiff,Nat.reduceAdd,Nat.reduceLeDiff,Nat.reduceMul,Nat.reduceBEq,eP,X5]|refine rd0 rfl ?_))
  refine aG (fun h=>?_) fun h=>?_
  ·have hk1:k<a.length:=by simpa using h
   have hw:=bV hk1 ha
   rw [List.drop_eq_getElem_cons hk1] at hq
   (repeat (first|simp only [↓QA,QB,Nat.reduceLT,reduceIte,Nat.reduceEqDiff,Nat.reduceAdd,Nat.reduceLeDiff,Nat.reduceMul,Nat.reduceBEq,eP,hk1]|refine rd0 rfl ?_))
   refine aG (fun h2=>?_) fun h2=>?_
   ·have hk2:k=b.length:=by simp at h2;omega
    have hd:b.drop k=[]:=by rw [hk2,List.drop_length]
    rw [hd] at hq
    simp only [CN] at hq
    (repeat (first|simp only [↓QA,QB,Nat.reduceLT,reduceIte,Nat.reduceEqDiff,Nat.reduceAdd,Nat.reduceLeDiff,Nat.reduceMul,Nat.reduceBEq,eP,hk1,←hq]|refine rd0 rfl ?_))
   ·have hk2:k<b.length:=by simp at h2;omega
    rw [List.drop_eq_getElem_cons hk2] at hq
    simp only [CN] at hq
    (repeat (first|simp only [↓QA,QB,Nat.reduceLT,reduceIte,Nat.reduceEqDiff,Nat.reduceAdd,Nat.reduceLeDiff,Nat.reduceMul,Nat.reduceBEq,eP,hk1,hk2]|refine rd0 rfl ?_))
    ((first|refine aE (TI a[k] b[k]) rfl dd ?_|refine aF (TI a[k] b[k]) rfl dd ?_);(repeat (first|simp only [↓QA,QB,Nat.reduceLT,reduceIte,Nat.reduceEqDiff,Nat.reduceAdd,Nat.reduceLeDiff,Nat.reduceMul,Nat.reduceBEq,eP,hk1,hk2]|refine rd0 rfl ?_)))
    cases h3:(CC a[k] b[k]==0)
    ·have h3':CC a[k] b[k]≠0:=by simpa using h3
     rw [if_neg h3'] at hq
     (repeat (first|simp only [↓QA,QB,Nat.reduceLT,reduceIte,Nat.reduceEqDiff,Nat.reduceAdd,Nat.reduceLeDiff,Nat.reduceMul,Nat.reduceBEq,eP,h3,hk1,hk2,hq]|refine rd0 rfl ?_))
    ·have h3':CC a[k] b[k]=0:=by simpa using h3
     rw [if_pos h3'] at hq
     (repeat (first|simp only [↓QA,QB,Nat.reduceLT,reduceIte,Nat.reduceEqDiff,Nat.reduceAdd,Nat.reduceLeDiff,Nat.reduceMul,Nat.reduceBEq,eP,h3,hk1,hk2]|refine rd0 rfl ?_))
     refine ⟨k+1,⟨by omega,by omega,hq⟩,by omega,?_⟩
     try simp only [aC,QE,Nat.reduceLT,reduceIte,Nat.reduceEqDiff,Nat.reduceAdd,Nat.reduceLeDiff,Nat.reduceMul,Nat.reduceBEq,eP,hw]
  ·have hk1:k=a.length:=by simp at h;omega
   rw [hk1,List.drop_length] at hq
   (repeat (first|simp only [↓QA,QB,Nat.reduceLT,reduceIte,Nat.reduceEqDiff,Nat.reduceAdd,Nat.reduceLeDiff,Nat.reduceMul,Nat.reduceBEq,eP]|refine rd0 rfl ?_))
   refine aG (fun h2=>?_) fun h2=>?_
   ·have hk2:a.length<b.length:=by simpa using h2
    rw [List.drop_eq_getElem_cons hk2] at hq
    (repeat (first|simp only [↓QA,QB,Nat.reduceLT,reduceIte,Nat.reduceEqDiff,Nat.reduceAdd,Nat.reduceLeDiff,Nat.reduceMul,Nat.reduceBEq,eP,←hq,CN]|refine rd0 rfl ?_))
   ·have hk2:a.length=b.length:=by simp at h2;omega
    rw [hk2,List.drop_length] at hq
    (repeat (first|simp only [↓QA,QB,Nat.reduceLT,reduceIte,Nat.reduceEqDiff,Nat.reduceAdd,Nat.reduceLeDiff,Nat.reduceMul,Nat.reduceBEq,eP,←hq,CN]|refine rd0 rfl ?_))
theorem tG (s n:Nat) (hs:s<9223372036854775808) (hn:n≤60):dY T 85 [.int .i64 s,.int .i64 n] (ints (lst n s)):=by
 refine bA (af:=a85) rfl (by simp [a85]) dd ?_
 (repeat (first|simp only [↓QA,QB,Nat.reduceLT,reduceIte,Nat.reduceEqDiff,Nat.reduceAdd,Nat.reduceLeDiff,Nat.reduceMul,Nat.reduceBEq,eP,a85]|refine rd0 rfl ?_))
 obtain ⟨R,hRR⟩:∃ R,lst n s=R:=⟨_,rfl⟩
 have hRR':[]++(aT ((0:Nat):Int) (n-0)).filter (fun i=>decide (s/2^i.toNat%2=1))=R:=hRR
 rw [hRR]
 refine jP 4 1 [] rfl ?_
 refine bY (S:=Nat×List Int×Bool) (0,[],false) (fun x=>x.1≤n∧x.2.1.length≤x.1∧x.2.1++(aT (x.1:Int) (n-x.1)).filter (fun i=>decide (s/2^i.toNat%2=1))=R) (fun x=>n-x.1)
  (fun x=>[(0,.int .i64 s),(4,.lit (x.2.1.map (.int .i64)) false (some 0)),(6,.int .i64 n),(7,.int .i64 x.1)]) (fun x=>[.tok 1 x.2.1.length x.2.2]) ⟨by simp,by simp,hRR'⟩ rfl ?_ fun x hx=>?_
 ·try simp only [aC,QE,Nat.reduceLT,reduceIte,Nat.reduceEqDiff,Nat.reduceAdd,Nat.reduceLeDiff,Nat.reduceMul,Nat.reduceBEq,eP]
  try simp
 ·obtain ⟨k,acc,ex⟩:=x
  obtain ⟨hk,hal,hacc⟩:=hx
  simp only at hk hal hacc
  (repeat (first|simp only [↓QA,QB,Nat.reduceLT,reduceIte,Nat.reduceEqDiff,Nat.reduceAdd,Nat.reduceLeDiff,Nat.reduceMul,Nat.reduceBEq,eP,ZS]|refine rd0 rfl ?_))
  refine aG (fun h=>?_) fun h=>?_
  ·have hk1:k<n:=by simpa using h
   have hw:=bV hk1 (by omega)
   rw [show n-k=(n-(k+1))+1 by omega] at hacc
   simp only [aT,List.filter_cons,Int.toNat_natCast] at hacc
   rw [show ((k:Int)+1)=((k+1:Nat):Int) by omega] at hacc
   have vs:=PE s k (by omega)
   have va:=IW (s/2^k) (Nat.lt_of_le_of_lt (Nat.div_le_self _ _) hs)
   have hbit:(((s/2^k%2:Nat):Int)==1)=decide (s/2^k%2=1):=by
    generalize s/2^k%2=q
    rw [Bool.eq_iff_iff,beq_iff_eq,decide_eq_true_eq];omega
   (repeat (first|simp only [↓QA,QB,Nat.reduceLT,reduceIte,Nat.reduceEqDiff,Nat.reduceAdd,Nat.reduceLeDiff,Nat.reduceMul,Nat.reduceBEq,eP,vs,va,hbit]|refine rd0 rfl ?_))
   cases hb:decide (s/2^k%2=1)
   ·simp only [hb,Bool.false_eq_true,if_false] at hacc
    (repeat (first|simp only [↓QA,QB,Nat.reduceLT,reduceIte,Nat.reduceEqDiff,Nat.reduceAdd,Nat.reduceLeDiff,Nat.reduceMul,Nat.reduceBEq,eP,hw]|refine rd0 rfl ?_))
    refine ⟨(k+1,acc,ex),⟨by simp only;omega,by simp only;omega,by simpa using hacc⟩,by simp only;omega,?_⟩
    try simp only [aC,QE,Nat.reduceLT,reduceIte,Nat.reduceEqDiff,Nat.reduceAdd,Nat.reduceLeDiff,Nat.reduceMul,Nat.reduceBEq,eP,hw,nL]
    try simp [aJ]
   ·simp only [hb,if_true] at hacc
    have hap:=fun (τ:St)=>lW (σ:=.tok 1 acc.length ex::τ) (l:=acc) (a:=(k:Int)) (ex:=ex) (t:=0) (by omega) rfl
    (repeat (first|simp only [↓QA,QB,Nat.reduceLT,reduceIte,Nat.reduceEqDiff,Nat.reduceAdd,Nat.reduceLeDiff,Nat.reduceMul,Nat.reduceBEq,eP,hw,hap]|refine rd0 rfl ?_))
    refine ⟨(k+1,acc++[(k:Int)],true),⟨by simp only;omega,by simp only [List.length_append,List.length_cons,List.length_nil];omega,by
     rw [←hacc];simp⟩,by simp only;omega,?_⟩
    try simp only [aC,QE,Nat.reduceLT,reduceIte,Nat.reduceEqDiff,Nat.reduceAdd,Nat.reduceLeDiff,Nat.reduceMul,Nat.reduceBEq,eP,hw,nL,List.map_append,List.map_cons,List.map_nil]
    try simp [aJ]
  ·have hk1:k=n:=by simp at h;omega
   rw [hk1] at hacc
   simp only [Nat.sub_self,aT,List.filter_nil,List.append_nil] at hacc
   (repeat (first|simp only [↓QA,QB,Nat.reduceLT,reduceIte,Nat.reduceEqDiff,Nat.reduceAdd,Nat.reduceLeDiff,Nat.reduceMul,Nat.reduceBEq,eP,hacc,ints]|refine rd0 rfl ?_))
end Go.Am.Room
set_option maxRecDepth 4000
namespace Go.Am.Room
def dA:=And.intro @bD (And.intro @aI (And.intro @aX (And.intro @aW (And.intro @aV (And.intro @aS (And.intro @bC (And.intro @a9 (And.intro @aZ (And.intro @dH (And.intro @dF (@Nat.not_lt_zero)))))))))))
theorem SO (r:Rail) (s:Int):dY T 102 [d5 r,.int .i64 s] (.int .i64 (cY r s)):=by
 refine bA (af:=a102) rfl (by simp [a102]) dd ?_
 (repeat (first|simp only [↓QA,QB,Nat.reduceLT,reduceIte,Nat.reduceEqDiff,Nat.reduceAdd,Nat.reduceLeDiff,Nat.reduceMul,Nat.reduceBEq,dA,a102]|refine rd0 rfl ?_))
 cases h1:(s==r.a)
 ·have h1':s≠r.a:=by simpa using h1
  (repeat (first|simp only [↓QA,QB,Nat.reduceLT,reduceIte,Nat.reduceEqDiff,Nat.reduceAdd,Nat.reduceLeDiff,Nat.reduceMul,Nat.reduceBEq,dA,h1]|refine rd0 rfl ?_))
  cases h2:(s==r.b)
  ·have h2':s≠r.b:=by simpa using h2
   (repeat (first|simp only [↓QA,QB,Nat.reduceLT,reduceIte,Nat.reduceEqDiff,Nat.reduceAdd,Nat.reduceLeDiff,Nat.reduceMul,Nat.reduceBEq,dA,h2]|refine rd0 rfl ?_))
   simp [cY,h1',h2']
  ·have h2':s=r.b:=by simpa using h2
   (repeat (first|simp only [↓QA,QB,Nat.reduceLT,reduceIte,Nat.reduceEqDiff,Nat.reduceAdd,Nat.reduceLeDiff,Nat.reduceMul,Nat.reduceBEq,dA,h2]|refine rd0 rfl ?_))
   simp only [cY,if_neg h1',if_pos h2']
 ·have h1':s=r.a:=by simpa using h1
  (repeat (first|simp only [↓QA,QB,Nat.reduceLT,reduceIte,Nat.reduceEqDiff,Nat.reduceAdd,Nat.reduceLeDiff,Nat.reduceMul,Nat.reduceBEq,dA,h1]|refine rd0 rfl ?_))
  simp only [cY,if_pos h1']
structure MetIs (b:Nat) (met:List Int):Prop where
 lt:b<2^6
 bit:∀ i:Nat,i<6→b.testBit i=met.contains (i:Int)
theorem LR {b:Nat} {met:List Int} (h:MetIs b met) {x:Nat} (hx:x<6):MetIs (b|||2^x) (met++[(x:Int)]):=by
 refine ⟨Nat.or_lt_two_pow h.lt (Nat.pow_lt_pow_right (by omega) hx),fun i hi=>?_⟩
 rw [Nat.testBit_or,h.bit i hi,Nat.testBit_two_pow,Bool.eq_iff_iff]
 simp
 rw [or_congr_right]
 omega
theorem TT {x:Nat} (hx:x<6):MetIs (2^x) [(x:Int)]:=by
 have:=LR (b:=0) (met:=[]) ⟨by simp,fun i _=>by simp⟩ hx
 simpa using this
theorem U5 {b:Nat} {met:List Int} (h:MetIs b met) {i:Nat} (hi:i<6):(((b/2^i%2:Nat):Int)==0) = !met.contains (i:Int):=by
 have e:(((b/2^i%2:Nat):Int)==0) = !b.testBit i:=by
  rw [wC,EX,Bool.eq_iff_iff]
  simp
 rw [e,h.bit i hi]
theorem T8 {v:Net} {r:Rail} (h:RailOk v r) (s:Int):-1≤cY r s∧cY r s<v.stations:=by
 have h1:=h.a
 have h2:=h.b
 unfold cY
 split
 ·omega
 ·split<;>omega
theorem N9 {v:Net} {p:List Int} {k:Nat} (hk:k<p.length) (s:Int) (met:List Int):fK v (p.drop k) s met=if s=0∨cY (c9 v p[k]) s<0∨met.contains (cY (c9 v p[k]) s)=true then none else fK v (p.drop (k+1)) (cY (c9 v p[k]) s) (met++[cY (c9 v p[k]) s]):=by
 rw [List.drop_eq_getElem_cons hk,fK]
def whB (o:Option Int) (p:List Int):Bool:=match o with|some o=>o==0&&!p.isEmpty|none=>false
def bgB (o:Option Int):Bool:=match o with|some o=>!(o==0)|none=>false
theorem DK (v:Net) (hst:2≤v.stations∧v.stations≤5) (hra:∀ r∈v.rails,RailOk v r) (s:Nat) (hs:s<5) (p:List Int) (hp:∀ r∈p,0≤r∧r<v.rails.length) (hl:p.length<9223372036854775808) :
  dY T 71 [bX v,.int .i64 s,ints p] (.tuple [.bool (iQ v s p),.bool (fB v s p)]):=by
 refine bA (af:=a71) rfl (by simp [a71]) dd ?_
 obtain ⟨R,hR⟩:∃ R,fK v p s [(s:Int)]=R:=⟨_,rfl⟩
 have hwb:iQ v s p=whB R p:=by rw [←hR];rfl
 have hbb:fB v s p=bgB R:=by rw [←hR];rfl
 rw [hwb,hbb]
 have hsh:=uM s (by omega)
 (repeat (first|simp only [↓QA,QB,Nat.reduceLT,reduceIte,Nat.reduceEqDiff,Nat.reduceAdd,Nat.reduceLeDiff,Nat.reduceMul,Nat.reduceBEq,dA,a71,hsh]|refine rd0 rfl ?_))
 refine bY (S:=Nat×Nat×Nat×List Int) (0,s,2^s,[(s:Int)]) (fun a=>a.1≤p.length∧a.2.1<5∧MetIs a.2.2.1 a.2.2.2∧fK v (p.drop a.1) (a.2.1:Int) a.2.2.2=R) (fun a=>p.length-a.1)
  (fun a=>[(1,.int .i64 (a.2.1:Nat)),(2,ints p),(3,.ptr 0 0),(8,.int .i64 (a.2.2.1:Nat)),(13,ints p),(14,.int .i64 p.length),(15,.int .i64 a.1)]) (fun a=>[.cells (aB v)]) ⟨Nat.zero_le _,hs,TT (by omega),by simpa using hR⟩ (by simp [aB,ints]) ?_ fun a ha=>?_
 ·try simp only [aC,QE,Nat.reduceLT,reduceIte,Nat.reduceEqDiff,Nat.reduceAdd,Nat.reduceLeDiff,Nat.reduceMul,Nat.reduceBEq,dA,ints]
  try simp
 ·obtain ⟨k,c,b,met⟩:=a
  obtain ⟨hk,hc,hm,hq⟩:=ha
  simp only at hk hc hm hq
  (repeat (first|simp only [↓QA,QB,Nat.reduceLT,reduceIte,Nat.reduceEqDiff,Nat.reduceAdd,Nat.reduceLeDiff,Nat.reduceMul,Nat.reduceBEq,dA,YP]|refine rd0 rfl ?_))
  refine aG (fun h=>?_) fun h=>?_
  ·have hk1:k<p.length:=by simpa using h
   have hw:=bV hk1 hl
   rw [N9 hk1] at hq
   have hpk:=hp _ (List.getElem_mem hk1)
   obtain ⟨r,hr⟩:∃ r:Nat,p[k]=(r:Int):=⟨p[k].toNat,by omega⟩
   rw [hr] at hpk hq
   have hr1:r<v.rails.length:=by omega
   rw [wE hr1] at hq
   have hro:=hra _ (List.getElem_mem hr1)
   obtain ⟨z,hz⟩:∃ z,v.rails[r]=z:=⟨_,rfl⟩
   rw [hz] at hq hro
   have hov:=SO z c
   have hoi:=T8 hro (c:Int)
   obtain ⟨o,ho⟩:∃ o,cY z (c:Int)=o:=⟨_,rfl⟩
   rw [ho] at hq hov hoi
   have hc0:((c:Int)==0)=decide (c=0):=EX c
   (repeat (first|simp only [↓QA,QB,Nat.reduceLT,reduceIte,Nat.reduceEqDiff,Nat.reduceAdd,Nat.reduceLeDiff,Nat.reduceMul,Nat.reduceBEq,dA,hk1,hr]|refine rd0 rfl ?_))
   cases q1:((c:Int)==0)
   ·have q1':¬(c:Int)=0:=by simpa using q1
    (repeat (first|simp only [↓QA,QB,Nat.reduceLT,reduceIte,Nat.reduceEqDiff,Nat.reduceAdd,Nat.reduceLeDiff,Nat.reduceMul,Nat.reduceBEq,dA,hr1,hz]|refine rd0 rfl ?_))
    ((first|refine aE (hov) rfl dd ?_|refine aF (hov) rfl dd ?_);(repeat (first|simp only [↓QA,QB,Nat.reduceLT,reduceIte,Nat.reduceEqDiff,Nat.reduceAdd,Nat.reduceLeDiff,Nat.reduceMul,Nat.reduceBEq,dA,hr1,hz]|refine rd0 rfl ?_)))
    cases q2:decide ((0:Int)≤o)
    ·have q2':¬0≤o:=by simpa using q2
     rw [if_pos (.inr (.inl (by omega)))] at hq
     (repeat (first|simp only [↓QA,QB,Nat.reduceLT,reduceIte,Nat.reduceEqDiff,Nat.reduceAdd,Nat.reduceLeDiff,Nat.reduceMul,Nat.reduceBEq,dA,q2]|refine rd0 rfl ?_))
     rw [←hq]
     try rfl
    ·have q2':0≤o:=by simpa using q2
     obtain ⟨O,rfl⟩:∃ O:Nat,o=(O:Int):=⟨o.toNat,by omega⟩
     have hO:O<5:=by omega
     have hb:=hm.lt
     have vs:=PE b O (by omega)
     have va:=IW (b/2^O) (Nat.lt_of_le_of_lt (Nat.div_le_self _ _) (by omega))
     have vb:=U5 hm (show O<6 by omega)
     have hsh:=uM O (by omega)
     have hp2:=kH (show O≤60 by omega)
     have hor:=aAV b (2^O) (by omega) (by omega)
     cases q3:met.contains (O:Int)
     ·rw [q3] at vb
      rw [if_neg (by rw [not_or,not_or];exact ⟨q1',by omega,by rw [q3];simp⟩)] at hq
      (repeat (first|simp only [↓QA,QB,Nat.reduceLT,reduceIte,Nat.reduceEqDiff,Nat.reduceAdd,Nat.reduceLeDiff,Nat.reduceMul,Nat.reduceBEq,dA,q2,vs,va,vb,hsh,hor,hw]|refine rd0 rfl ?_))
      refine ⟨(k+1,O,b|||2^O,met++[(O:Int)]),⟨by simp only;omega,hO,LR hm (by omega),hq⟩,by simp only;omega,?_⟩
      try simp only [aC,QE,Nat.reduceLT,reduceIte,Nat.reduceEqDiff,Nat.reduceAdd,Nat.reduceLeDiff,Nat.reduceMul,Nat.reduceBEq,dA,hw,ints]
      try simp [aJ]
     ·rw [q3] at vb
      rw [if_pos (.inr (.inr q3))] at hq
      (repeat (first|simp only [↓QA,QB,Nat.reduceLT,reduceIte,Nat.reduceEqDiff,Nat.reduceAdd,Nat.reduceLeDiff,Nat.reduceMul,Nat.reduceBEq,dA,q2,vs,va,vb]|refine rd0 rfl ?_))
      rw [←hq]
      try rfl
   ·have q1':(c:Int)=0:=by simpa using q1
    rw [if_pos (.inl q1')] at hq
    (repeat (first|simp only [↓QA,QB,Nat.reduceLT,reduceIte,Nat.reduceEqDiff,Nat.reduceAdd,Nat.reduceLeDiff,Nat.reduceMul,Nat.reduceBEq,dA]|refine rd0 rfl ?_))
    rw [←hq]
    try rfl
  ·have hk1:k=p.length:=by
    have:¬k<p.length:=by simpa using h
    omega
   rw [hk1,List.drop_length,fK] at hq
   have hle:decide ((0:Int)<(p.length:Int)) = !p.isEmpty:=by cases p<;>simp
   cases q1:((c:Int)==0)
   ·(repeat (first|simp only [↓QA,QB,Nat.reduceLT,reduceIte,Nat.reduceEqDiff,Nat.reduceAdd,Nat.reduceLeDiff,Nat.reduceMul,Nat.reduceBEq,dA,q1]|refine rd0 rfl ?_))
    rw [←hq]
    simp only [whB,bgB,q1]
    try rfl
   ·(repeat (first|simp only [↓QA,QB,Nat.reduceLT,reduceIte,Nat.reduceEqDiff,Nat.reduceAdd,Nat.reduceLeDiff,Nat.reduceMul,Nat.reduceBEq,dA,q1,hle]|refine rd0 rfl ?_))
    rw [←hq]
    simp only [whB,bgB,q1]
    try rfl
theorem O0 (σ:St) (f:AV) (l:List Tram) (p:Tram→Bool) (hl:l.length<9223372036854775808) (hk:uE σ f) (h:∀ x∈l,jJ T f [cV x] σ (.bool (p x))):jJ T (.func 101 [] []) [.lit (l.map cV) false none,f] σ (.int .i64 (nI p l 0)):=by
 refine eV (af:=a101) rfl (by simp [a101]) ?_
 have hk0:=hk.nil
 (repeat (first|simp only [↓QA,QB,Nat.reduceLT,reduceIte,Nat.reduceEqDiff,Nat.reduceAdd,Nat.reduceLeDiff,Nat.reduceMul,Nat.reduceBEq,dA,a101]|refine rd0 rfl ?_))
 refine bY (S:=Nat) 0 (fun k=>k≤l.length∧nI p (l.drop k) k=nI p l 0) (fun k=>l.length-k) (fun k=>[(0,.lit (l.map cV) false none),(1,f),(7,.int .i64 l.length),(8,.int .i64 k)]) (fun _=>σ) ⟨Nat.zero_le _,by simp⟩ rfl ?_ fun k hk1=>?_
 ·try simp only [aC,QE,Nat.reduceLT,reduceIte,Nat.reduceEqDiff,Nat.reduceAdd,Nat.reduceLeDiff,Nat.reduceMul,Nat.reduceBEq,dA]
  try simp
 ·obtain ⟨hkl,hi⟩:=hk1
  (repeat (first|simp only [↓QA,QB,Nat.reduceLT,reduceIte,Nat.reduceEqDiff,Nat.reduceAdd,Nat.reduceLeDiff,Nat.reduceMul,Nat.reduceBEq,dA,RG]|refine rd0 rfl ?_))
  refine aG (fun hd=>?_) fun hd=>?_
  ·have hlt:k<l.length:=by simpa using hd
   rw [List.drop_eq_getElem_cons hlt] at hi
   simp only [nI] at hi
   have hw:=bV hlt hl
   (repeat (first|simp only [↓QA,QB,Nat.reduceLT,reduceIte,Nat.reduceEqDiff,Nat.reduceAdd,Nat.reduceLeDiff,Nat.reduceMul,Nat.reduceBEq,dA,hlt]|refine rd0 rfl ?_))
   refine bW (h l[k] (List.getElem_mem hlt)) ?_
   (repeat (first|simp only [↓QA,QB,Nat.reduceLT,reduceIte,Nat.reduceEqDiff,Nat.reduceAdd,Nat.reduceLeDiff,Nat.reduceMul,Nat.reduceBEq,dA]|refine rd0 rfl ?_))
   cases hp:p l[k]
   ·(repeat (first|simp only [↓QA,QB,Nat.reduceLT,reduceIte,Nat.reduceEqDiff,Nat.reduceAdd,Nat.reduceLeDiff,Nat.reduceMul,Nat.reduceBEq,dA,hw]|refine rd0 rfl ?_))
    refine ⟨k+1,⟨by omega,by rw [←hi,hp];rfl⟩,by omega,?_⟩
    try simp only [aC,QE,Nat.reduceLT,reduceIte,Nat.reduceEqDiff,Nat.reduceAdd,Nat.reduceLeDiff,Nat.reduceMul,Nat.reduceBEq,dA,hw,hk0,Nat.le_refl,a9]
   ·(repeat (first|simp only [↓QA,QB,Nat.reduceLT,reduceIte,Nat.reduceEqDiff,Nat.reduceAdd,Nat.reduceLeDiff,Nat.reduceMul,Nat.reduceBEq,dA]|refine rd0 rfl ?_))
    refine fI [] (by first|rfl|simp) ?_
    rw [←hi,hp]
    try simp only [QS,QC,Nat.reduceLT,reduceIte,Nat.reduceEqDiff,Nat.reduceAdd,Nat.reduceLeDiff,Nat.reduceMul,Nat.reduceBEq,dA]
  ·have hlt:k=l.length:=by simp at hd;omega
   (repeat (first|simp only [↓QA,QB,Nat.reduceLT,reduceIte,Nat.reduceEqDiff,Nat.reduceAdd,Nat.reduceLeDiff,Nat.reduceMul,Nat.reduceBEq,dA]|refine rd0 rfl ?_))
   refine fI [] (by first|rfl|simp) ?_
   rw [←hi,hlt,List.drop_length]
   try simp only [QS,QC,Nat.reduceLT,reduceIte,Nat.reduceEqDiff,Nat.reduceAdd,Nat.reduceLeDiff,Nat.reduceMul,Nat.reduceBEq,dA,nI]
theorem FO (σ:St) (f:AV) (l:List Tram) (p:Tram→Bool) (hl:l.length<9223372036854775808) (hk:uE σ f) (h:∀ x∈l,jJ T f [cV x] σ (.bool (p x))):jJ T (.func 69 [] []) [.lit (l.map cV) false none,f] σ (.bool (l.any p)):=by
 refine eV (af:=a69) rfl (by simp [a69]) ?_
 (repeat (first|simp only [↓QA,QB,Nat.reduceLT,reduceIte,Nat.reduceEqDiff,Nat.reduceAdd,Nat.reduceLeDiff,Nat.reduceMul,Nat.reduceBEq,dA,a69]|refine rd0 rfl ?_))
 refine bW (O0 σ f l p hl hk h) ?_
 (repeat (first|simp only [↓QA,QB,Nat.reduceLT,reduceIte,Nat.reduceEqDiff,Nat.reduceAdd,Nat.reduceLeDiff,Nat.reduceMul,Nat.reduceBEq,dA]|refine rd0 rfl ?_))
 refine fI [] (by first|rfl|simp) ?_
 rw [←wU p l 0]
 try simp only [QS,QC,Nat.reduceLT,reduceIte,Nat.reduceEqDiff,Nat.reduceAdd,Nat.reduceLeDiff,Nat.reduceMul,Nat.reduceBEq,dA]
end Go.Am.Room
set_option maxRecDepth 4000
namespace Go.Am.Room
def aH:=And.intro @bD (And.intro @aI (And.intro @aX (And.intro @aW (And.intro @aV (And.intro @aS (And.intro @bC (And.intro @a9 (And.intro @aZ (And.intro @dH (And.intro @dF (@Nat.not_lt_zero)))))))))))
def nU {α:Type} (of:Nat→α→Int) (l:List α):Int×Int:=match bN of l 0 with|some (i,e)=>(i,e)|none=>(0,0)
theorem ER (σ:St) (f:AV) (l:List Rail) (of:Nat→Rail→Int) (hl:l.length<9223372036854775808) (hk:uE σ f)
  (h:∀ i (hi:i<l.length),jJ T f [.int .i64 i,d5 l[i]] (σ++[.cells (d5 l[i]).cells]) (.int .i64 (of i l[i]))):jJ T (.func 64 [] []) [.lit (l.map d5) false none,f] σ (uZ (nU of l)):=by
 refine eV (af:=a64) rfl (by simp [a64]) ?_
 have hk0:=hk.nil
 have hk2:∀ τ,cN (σ++τ) σ.length 20 f=some f:=hk
 (repeat (first|simp only [↓QA,QB,Nat.reduceLT,reduceIte,Nat.reduceEqDiff,Nat.reduceAdd,Nat.reduceLeDiff,Nat.reduceMul,Nat.reduceBEq,aH,a64]|refine rd0 rfl ?_))
 refine bY (S:=Nat) 0 (fun k=>k≤l.length∧bN of (l.drop k) k=bN of l 0) (fun k=>l.length-k) (fun k=>[(1,f),(9,.lit (l.map d5) false none),(10,.int .i64 l.length),(11,.int .i64 k)]) (fun _=>σ) ⟨Nat.zero_le _,by simp⟩ rfl ?_ fun k hk1=>?_
 ·try simp only [aC,QE,Nat.reduceLT,reduceIte,Nat.reduceEqDiff,Nat.reduceAdd,Nat.reduceLeDiff,Nat.reduceMul,Nat.reduceBEq,aH]
  try simp
 ·obtain ⟨hkl,hi⟩:=hk1
  (repeat (first|simp only [↓QA,QB,Nat.reduceLT,reduceIte,Nat.reduceEqDiff,Nat.reduceAdd,Nat.reduceLeDiff,Nat.reduceMul,Nat.reduceBEq,aH,XL]|refine rd0 rfl ?_))
  refine aG (fun hd=>?_) fun hd=>?_
  ·have hlt:k<l.length:=by simpa using hd
   have hs:=h k hlt
   rw [iN hlt] at hi
   have hw:=bV hlt hl
   try simp only [↓QA,QB,Nat.reduceLT,reduceIte,Nat.reduceEqDiff,Nat.reduceAdd,Nat.reduceLeDiff,Nat.reduceMul,Nat.reduceBEq,aH,hlt] at hs
   (repeat (first|simp only [↓QA,QB,Nat.reduceLT,reduceIte,Nat.reduceEqDiff,Nat.reduceAdd,Nat.reduceLeDiff,Nat.reduceMul,Nat.reduceBEq,aH,hlt]|refine rd0 rfl ?_))
   refine bW hs ?_
   (repeat (first|simp only [↓QA,QB,Nat.reduceLT,reduceIte,Nat.reduceEqDiff,Nat.reduceAdd,Nat.reduceLeDiff,Nat.reduceMul,Nat.reduceBEq,aH]|refine rd0 rfl ?_))
   cases hp:(of k l[k]==0)
   ·have hp':of k l[k]≠0:=by simpa using hp
    rw [if_neg hp'] at hi
    (repeat (first|simp only [↓QA,QB,Nat.reduceLT,reduceIte,Nat.reduceEqDiff,Nat.reduceAdd,Nat.reduceLeDiff,Nat.reduceMul,Nat.reduceBEq,aH,hp]|refine rd0 rfl ?_))
    refine fI _ rfl ?_
    try simp only [QS,QC,Nat.reduceLT,reduceIte,Nat.reduceEqDiff,Nat.reduceAdd,Nat.reduceLeDiff,Nat.reduceMul,Nat.reduceBEq,aH,uZ,nU,←hi,reduceCtorEq]
   ·have hp':of k l[k]=0:=by simpa using hp
    rw [if_pos hp'] at hi
    (repeat (first|simp only [↓QA,QB,Nat.reduceLT,reduceIte,Nat.reduceEqDiff,Nat.reduceAdd,Nat.reduceLeDiff,Nat.reduceMul,Nat.reduceBEq,aH,hp,hw]|refine rd0 rfl ?_))
    refine ⟨k+1,⟨by omega,hi⟩,by omega,?_⟩
    try simp only [aC,QE,Nat.reduceLT,reduceIte,Nat.reduceEqDiff,Nat.reduceAdd,Nat.reduceLeDiff,Nat.reduceMul,Nat.reduceBEq,aH,hw,hk0,hk2,Nat.le_refl,bC]
  ·have hlt:k=l.length:=by simp at hd;omega
   rw [jB hlt] at hi
   (repeat (first|simp only [↓QA,QB,Nat.reduceLT,reduceIte,Nat.reduceEqDiff,Nat.reduceAdd,Nat.reduceLeDiff,Nat.reduceMul,Nat.reduceBEq,aH]|refine rd0 rfl ?_))
   refine fI [] (by first|rfl|simp) ?_
   try simp only [QS,QC,Nat.reduceLT,reduceIte,Nat.reduceEqDiff,Nat.reduceAdd,Nat.reduceLeDiff,Nat.reduceMul,Nat.reduceBEq,aH,uZ,nU,←hi,reduceCtorEq]
theorem ES (σ:St) (f:AV) (l:List Tram) (of:Nat→Tram→Int) (hl:l.length<9223372036854775808) (hk:uE σ f)
  (h:∀ i (hi:i<l.length),jJ T f [.int .i64 i,cV l[i]] (σ++[.cells (cV l[i]).cells]) (.int .i64 (of i l[i]))):jJ T (.func 66 [] []) [.lit (l.map cV) false none,f] σ (uZ (nU of l)):=by
 refine eV (af:=a66) rfl (by simp [a66]) ?_
 have hk0:=hk.nil
 have hk2:∀ τ,cN (σ++τ) σ.length 20 f=some f:=hk
 (repeat (first|simp only [↓QA,QB,Nat.reduceLT,reduceIte,Nat.reduceEqDiff,Nat.reduceAdd,Nat.reduceLeDiff,Nat.reduceMul,Nat.reduceBEq,aH,a66]|refine rd0 rfl ?_))
 refine bY (S:=Nat) 0 (fun k=>k≤l.length∧bN of (l.drop k) k=bN of l 0) (fun k=>l.length-k) (fun k=>[(1,f),(9,.lit (l.map cV) false none),(10,.int .i64 l.length),(11,.int .i64 k)]) (fun _=>σ) ⟨Nat.zero_le _,by simp⟩ rfl ?_ fun k hk1=>?_
 ·try simp only [aC,QE,Nat.reduceLT,reduceIte,Nat.reduceEqDiff,Nat.reduceAdd,Nat.reduceLeDiff,Nat.reduceMul,Nat.reduceBEq,aH]
  try simp
 ·obtain ⟨hkl,hi⟩:=hk1
  (repeat (first|simp only [↓QA,QB,Nat.reduceLT,reduceIte,Nat.reduceEqDiff,Nat.reduceAdd,Nat.reduceLeDiff,Nat.reduceMul,Nat.reduceBEq,aH,YS]|refine rd0 rfl ?_))
  refine aG (fun hd=>?_) fun hd=>?_
  ·have hlt:k<l.length:=by simpa using hd
   have hs:=h k hlt
   rw [iN hlt] at hi
   have hw:=bV hlt hl
   try simp only [↓QA,QB,Nat.reduceLT,reduceIte,Nat.reduceEqDiff,Nat.reduceAdd,Nat.reduceLeDiff,Nat.reduceMul,Nat.reduceBEq,aH,hlt] at hs
   (repeat (first|simp only [↓QA,QB,Nat.reduceLT,reduceIte,Nat.reduceEqDiff,Nat.reduceAdd,Nat.reduceLeDiff,Nat.reduceMul,Nat.reduceBEq,aH,hlt]|refine rd0 rfl ?_))
   refine bW hs ?_
   (repeat (first|simp only [↓QA,QB,Nat.reduceLT,reduceIte,Nat.reduceEqDiff,Nat.reduceAdd,Nat.reduceLeDiff,Nat.reduceMul,Nat.reduceBEq,aH]|refine rd0 rfl ?_))
   cases hp:(of k l[k]==0)
   ·have hp':of k l[k]≠0:=by simpa using hp
    rw [if_neg hp'] at hi
    (repeat (first|simp only [↓QA,QB,Nat.reduceLT,reduceIte,Nat.reduceEqDiff,Nat.reduceAdd,Nat.reduceLeDiff,Nat.reduceMul,Nat.reduceBEq,aH,hp]|refine rd0 rfl ?_))
    refine fI _ rfl ?_
    try simp only [QS,QC,Nat.reduceLT,reduceIte,Nat.reduceEqDiff,Nat.reduceAdd,Nat.reduceLeDiff,Nat.reduceMul,Nat.reduceBEq,aH,uZ,nU,←hi,reduceCtorEq]
   ·have hp':of k l[k]=0:=by simpa using hp
    rw [if_pos hp'] at hi
    (repeat (first|simp only [↓QA,QB,Nat.reduceLT,reduceIte,Nat.reduceEqDiff,Nat.reduceAdd,Nat.reduceLeDiff,Nat.reduceMul,Nat.reduceBEq,aH,hp,hw]|refine rd0 rfl ?_))
    refine ⟨k+1,⟨by omega,hi⟩,by omega,?_⟩
    try simp only [aC,QE,Nat.reduceLT,reduceIte,Nat.reduceEqDiff,Nat.reduceAdd,Nat.reduceLeDiff,Nat.reduceMul,Nat.reduceBEq,aH,hw,hk0,hk2,Nat.le_refl,a9]
  ·have hlt:k=l.length:=by simp at hd;omega
   rw [jB hlt] at hi
   (repeat (first|simp only [↓QA,QB,Nat.reduceLT,reduceIte,Nat.reduceEqDiff,Nat.reduceAdd,Nat.reduceLeDiff,Nat.reduceMul,Nat.reduceBEq,aH]|refine rd0 rfl ?_))
   refine fI [] (by first|rfl|simp) ?_
   try simp only [QS,QC,Nat.reduceLT,reduceIte,Nat.reduceEqDiff,Nat.reduceAdd,Nat.reduceLeDiff,Nat.reduceMul,Nat.reduceBEq,aH,uZ,nU,←hi,reduceCtorEq]
theorem EH (σ:St) (f:AV) (l:List Seen) (of:Nat→Seen→Int) (hl:l.length<9223372036854775808) (hk:uE σ f)
  (h:∀ i (hi:i<l.length),jJ T f [.int .i64 i,eL l[i]] (σ++[.cells (eL l[i]).cells]) (.int .i64 (of i l[i]))):jJ T (.func 72 [] []) [.lit (l.map eL) false none,f] σ (uZ (nU of l)):=by
 refine eV (af:=a72) rfl (by simp [a72]) ?_
 have hk0:=hk.nil
 have hk2:∀ τ,cN (σ++τ) σ.length 20 f=some f:=hk
 (repeat (first|simp only [↓QA,QB,Nat.reduceLT,reduceIte,Nat.reduceEqDiff,Nat.reduceAdd,Nat.reduceLeDiff,Nat.reduceMul,Nat.reduceBEq,aH,a72]|refine rd0 rfl ?_))
 refine bY (S:=Nat) 0 (fun k=>k≤l.length∧bN of (l.drop k) k=bN of l 0) (fun k=>l.length-k) (fun k=>[(1,f),(9,.lit (l.map eL) false none),(10,.int .i64 l.length),(11,.int .i64 k)]) (fun _=>σ) ⟨Nat.zero_le _,by simp⟩ rfl ?_ fun k hk1=>?_
 ·try simp only [aC,QE,Nat.reduceLT,reduceIte,Nat.reduceEqDiff,Nat.reduceAdd,Nat.reduceLeDiff,Nat.reduceMul,Nat.reduceBEq,aH]
  try simp
 ·obtain ⟨hkl,hi⟩:=hk1
  (repeat (first|simp only [↓QA,QB,Nat.reduceLT,reduceIte,Nat.reduceEqDiff,Nat.reduceAdd,Nat.reduceLeDiff,Nat.reduceMul,Nat.reduceBEq,aH,YQ]|refine rd0 rfl ?_))
  refine aG (fun hd=>?_) fun hd=>?_
  ·have hlt:k<l.length:=by simpa using hd
   have hs:=h k hlt
   rw [iN hlt] at hi
   have hw:=bV hlt hl
   try simp only [↓QA,QB,Nat.reduceLT,reduceIte,Nat.reduceEqDiff,Nat.reduceAdd,Nat.reduceLeDiff,Nat.reduceMul,Nat.reduceBEq,aH,hlt] at hs
   (repeat (first|simp only [↓QA,QB,Nat.reduceLT,reduceIte,Nat.reduceEqDiff,Nat.reduceAdd,Nat.reduceLeDiff,Nat.reduceMul,Nat.reduceBEq,aH,hlt]|refine rd0 rfl ?_))
   refine bW hs ?_
   (repeat (first|simp only [↓QA,QB,Nat.reduceLT,reduceIte,Nat.reduceEqDiff,Nat.reduceAdd,Nat.reduceLeDiff,Nat.reduceMul,Nat.reduceBEq,aH]|refine rd0 rfl ?_))
   cases hp:(of k l[k]==0)
   ·have hp':of k l[k]≠0:=by simpa using hp
    rw [if_neg hp'] at hi
    (repeat (first|simp only [↓QA,QB,Nat.reduceLT,reduceIte,Nat.reduceEqDiff,Nat.reduceAdd,Nat.reduceLeDiff,Nat.reduceMul,Nat.reduceBEq,aH,hp]|refine rd0 rfl ?_))
    refine fI _ rfl ?_
    try simp only [QS,QC,Nat.reduceLT,reduceIte,Nat.reduceEqDiff,Nat.reduceAdd,Nat.reduceLeDiff,Nat.reduceMul,Nat.reduceBEq,aH,uZ,nU,←hi,reduceCtorEq]
   ·have hp':of k l[k]=0:=by simpa using hp
    rw [if_pos hp'] at hi
    (repeat (first|simp only [↓QA,QB,Nat.reduceLT,reduceIte,Nat.reduceEqDiff,Nat.reduceAdd,Nat.reduceLeDiff,Nat.reduceMul,Nat.reduceBEq,aH,hp,hw]|refine rd0 rfl ?_))
    refine ⟨k+1,⟨by omega,hi⟩,by omega,?_⟩
    try simp only [aC,QE,Nat.reduceLT,reduceIte,Nat.reduceEqDiff,Nat.reduceAdd,Nat.reduceLeDiff,Nat.reduceMul,Nat.reduceBEq,aH,hw,hk0,hk2,Nat.le_refl,aZ]
  ·have hlt:k=l.length:=by simp at hd;omega
   rw [jB hlt] at hi
   (repeat (first|simp only [↓QA,QB,Nat.reduceLT,reduceIte,Nat.reduceEqDiff,Nat.reduceAdd,Nat.reduceLeDiff,Nat.reduceMul,Nat.reduceBEq,aH]|refine rd0 rfl ?_))
   refine fI [] (by first|rfl|simp) ?_
   try simp only [QS,QC,Nat.reduceLT,reduceIte,Nat.reduceEqDiff,Nat.reduceAdd,Nat.reduceLeDiff,Nat.reduceMul,Nat.reduceBEq,aH,uZ,nU,←hi,reduceCtorEq]
theorem IL (s:Span):(n9 s 1 20=7)↔(!inR s.lo 1 20||!inR s.hi 1 20)=true:=by
 unfold n9
 split
 ·rename_i h;simp [h]
 ·rename_i h
  constructor
  ·intro q;split at q<;>omega
  ·intro q;exact absurd q h
theorem XJ (v:Net) (W:Int) (hW:∀ s:Int,inR s 0 W=mD v s) (i:Int) (r:Rail) (b:ABlk) (τ:St):jJ T (.func 65 [] [.ptr 1 0]) [.int .i64 i,d5 r] (b::.cells [.int .i64 W]::τ) (.int .i64 (cW v r)):=by
 refine eV (af:=a65) rfl (by simp [a65]) ?_
 (repeat (first|simp only [↓QA,QB,Nat.reduceLT,reduceIte,Nat.reduceEqDiff,Nat.reduceAdd,Nat.reduceLeDiff,Nat.reduceMul,Nat.reduceBEq,aH,a65]|refine rd0 rfl ?_))
 ((first|refine eN (bQ 0 W [r.a,r.b] (by simp)) (by simp [clr,clrs,ints]) (by simp [okV,okVs]) ?_|refine fA (bQ 0 W [r.a,r.b] (by simp)) (by simp [clr,clrs,ints]) (by simp [okV,okVs]) ?_);(repeat (first|simp only [↓QA,QB,Nat.reduceLT,reduceIte,Nat.reduceEqDiff,Nat.reduceAdd,Nat.reduceLeDiff,Nat.reduceMul,Nat.reduceBEq,aH,L8]|refine rd0 rfl ?_)))
 rw [hW,hW]
 cases h1:(!mD v r.a||!mD v r.b)
 ·have h1':¬(mD v r.a=false∨mD v r.b=false):=by
   rintro (h|h)<;>rw [h] at h1<;>simp at h1
  (repeat (first|simp only [↓QA,QB,Nat.reduceLT,reduceIte,Nat.reduceEqDiff,Nat.reduceAdd,Nat.reduceLeDiff,Nat.reduceMul,Nat.reduceBEq,aH]|refine rd0 rfl ?_))
  cases h2:(r.a==r.b)
  ·have h2':r.a≠r.b:=by simpa using h2
   (repeat (first|simp only [↓QA,QB,Nat.reduceLT,reduceIte,Nat.reduceEqDiff,Nat.reduceAdd,Nat.reduceLeDiff,Nat.reduceMul,Nat.reduceBEq,aH,h2]|refine rd0 rfl ?_))
   ((first|refine eN (bQ 1 20 [r.mins.lo,r.mins.hi] (by simp)) (by simp [clr,clrs,ints]) (by simp [okV,okVs]) ?_|refine fA (bQ 1 20 [r.mins.lo,r.mins.hi] (by simp)) (by simp [clr,clrs,ints]) (by simp [okV,okVs]) ?_);(repeat (first|simp only [↓QA,QB,Nat.reduceLT,reduceIte,Nat.reduceEqDiff,Nat.reduceAdd,Nat.reduceLeDiff,Nat.reduceMul,Nat.reduceBEq,aH,L8]|refine rd0 rfl ?_)))
   cases h3:(!inR r.mins.lo 1 20||!inR r.mins.hi 1 20)
   ·have h3':n9 r.mins 1 20≠7:=fun q=>by rw [IL,h3] at q;cases q
    (repeat (first|simp only [↓QA,QB,Nat.reduceLT,reduceIte,Nat.reduceEqDiff,Nat.reduceAdd,Nat.reduceLeDiff,Nat.reduceMul,Nat.reduceBEq,aH]|refine rd0 rfl ?_))
    ((first|refine eN (bQ 0 2 [r.shut] (by simp)) (by simp [clr,clrs,ints]) (by simp [okV,okVs]) ?_|refine fA (bQ 0 2 [r.shut] (by simp)) (by simp [clr,clrs,ints]) (by simp [okV,okVs]) ?_);(repeat (first|simp only [↓QA,QB,Nat.reduceLT,reduceIte,Nat.reduceEqDiff,Nat.reduceAdd,Nat.reduceLeDiff,Nat.reduceMul,Nat.reduceBEq,aH,jW]|refine rd0 rfl ?_)))
    cases h4:inR r.shut 0 2
    ·(repeat (first|simp only [↓QA,QB,Nat.reduceLT,reduceIte,Nat.reduceEqDiff,Nat.reduceAdd,Nat.reduceLeDiff,Nat.reduceMul,Nat.reduceBEq,aH]|refine rd0 rfl ?_))
     refine fI _ rfl ?_
     have:cW v r=7:=by rw [cW,if_neg h1',if_neg h2',if_pos (.inr h4)]
     rw [this]
     try simp only [QS,QC,Nat.reduceLT,reduceIte,Nat.reduceEqDiff,Nat.reduceAdd,Nat.reduceLeDiff,Nat.reduceMul,Nat.reduceBEq,aH]
    ·have hlo:inR r.mins.lo 1 20=true:=by
      cases q:inR r.mins.lo 1 20
      ·rw [q] at h3;simp at h3
      ·rfl
     have hhi:inR r.mins.hi 1 20=true:=by
      cases q:inR r.mins.hi 1 20
      ·rw [q] at h3;simp at h3
      ·rfl
     rw [eK] at hlo hhi
     have hw:IntKind.i64.wrap (r.mins.hi-r.mins.lo)=r.mins.hi-r.mins.lo:=eO ⟨by omega,by omega⟩
     have hen:n9 r.mins 1 20=if r.mins.hi<r.mins.lo then 2 else 0:=by rw [n9,h3];rfl
     simp only [Bool.not_true,lD]
     (repeat (first|simp only [↓QA,QB,Nat.reduceLT,reduceIte,Nat.reduceEqDiff,Nat.reduceAdd,Nat.reduceLeDiff,Nat.reduceMul,Nat.reduceBEq,aH,hw]|refine rd0 rfl ?_))
     ((first|refine eN (bQ 0 1 [r.mins.hi-r.mins.lo] (by simp)) (by simp [clr,clrs,ints]) (by simp [okV,okVs]) ?_|refine fA (bQ 0 1 [r.mins.hi-r.mins.lo] (by simp)) (by simp [clr,clrs,ints]) (by simp [okV,okVs]) ?_);(repeat (first|simp only [↓QA,QB,Nat.reduceLT,reduceIte,Nat.reduceEqDiff,Nat.reduceAdd,Nat.reduceLeDiff,Nat.reduceMul,Nat.reduceBEq,aH,jW]|refine rd0 rfl ?_)))
     cases h5:inR (r.mins.hi-r.mins.lo) 0 1
     ·have h5':¬(0≤r.mins.hi-r.mins.lo∧r.mins.hi-r.mins.lo≤1):=fun q=>by rw [←eK,h5] at q;cases q
      (repeat (first|simp only [↓QA,QB,Nat.reduceLT,reduceIte,Nat.reduceEqDiff,Nat.reduceAdd,Nat.reduceLeDiff,Nat.reduceMul,Nat.reduceBEq,aH]|refine rd0 rfl ?_))
      refine fI _ rfl ?_
      have:cW v r=2:=by
       rw [cW,if_neg h1',if_neg h2',if_neg (by rw [not_or];exact ⟨h3',by rw [h4];simp⟩),hen]
       split
       ·rw [if_pos (.inl (by omega))]
       ·rw [if_pos (.inr (by omega))]
      rw [this]
      try simp only [QS,QC,Nat.reduceLT,reduceIte,Nat.reduceEqDiff,Nat.reduceAdd,Nat.reduceLeDiff,Nat.reduceMul,Nat.reduceBEq,aH]
     ·rw [eK] at h5
      (repeat (first|simp only [↓QA,QB,Nat.reduceLT,reduceIte,Nat.reduceEqDiff,Nat.reduceAdd,Nat.reduceLeDiff,Nat.reduceMul,Nat.reduceBEq,aH]|refine rd0 rfl ?_))
      refine fI _ rfl ?_
      have:cW v r=0:=by
       rw [cW,if_neg h1',if_neg h2',if_neg (by rw [not_or];exact ⟨h3',by rw [h4];simp⟩),hen,if_neg (by omega)]
       try rfl
      rw [this]
      try simp only [QS,QC,Nat.reduceLT,reduceIte,Nat.reduceEqDiff,Nat.reduceAdd,Nat.reduceLeDiff,Nat.reduceMul,Nat.reduceBEq,aH]
   ·have h3':n9 r.mins 1 20=7:=IL _ |>.2 h3
    (repeat (first|simp only [↓QA,QB,Nat.reduceLT,reduceIte,Nat.reduceEqDiff,Nat.reduceAdd,Nat.reduceLeDiff,Nat.reduceMul,Nat.reduceBEq,aH]|refine rd0 rfl ?_))
    refine fI _ rfl ?_
    have:cW v r=7:=by rw [cW,if_neg h1',if_neg h2',if_pos (.inl h3')]
    rw [this]
    try simp only [QS,QC,Nat.reduceLT,reduceIte,Nat.reduceEqDiff,Nat.reduceAdd,Nat.reduceLeDiff,Nat.reduceMul,Nat.reduceBEq,aH]
  ·have h2':r.a=r.b:=by simpa using h2
   (repeat (first|simp only [↓QA,QB,Nat.reduceLT,reduceIte,Nat.reduceEqDiff,Nat.reduceAdd,Nat.reduceLeDiff,Nat.reduceMul,Nat.reduceBEq,aH,h2]|refine rd0 rfl ?_))
   refine fI _ rfl ?_
   have:cW v r=2:=by rw [cW,if_neg h1',if_pos h2']
   rw [this]
   try simp only [QS,QC,Nat.reduceLT,reduceIte,Nat.reduceEqDiff,Nat.reduceAdd,Nat.reduceLeDiff,Nat.reduceMul,Nat.reduceBEq,aH]
 ·have h1':mD v r.a=false∨mD v r.b=false:=by
   cases a:mD v r.a
   ·exact .inl rfl
   ·cases b:mD v r.b
    ·exact .inr rfl
    ·rw [a,b] at h1;simp at h1
  (repeat (first|simp only [↓QA,QB,Nat.reduceLT,reduceIte,Nat.reduceEqDiff,Nat.reduceAdd,Nat.reduceLeDiff,Nat.reduceMul,Nat.reduceBEq,aH]|refine rd0 rfl ?_))
  refine fI _ rfl ?_
  have:cW v r=4:=by rw [cW,if_pos h1']
  rw [this]
  try simp only [QS,QC,Nat.reduceLT,reduceIte,Nat.reduceEqDiff,Nat.reduceAdd,Nat.reduceLeDiff,Nat.reduceMul,Nat.reduceBEq,aH]
theorem PM (s x:Tram) (b0 b1:ABlk) (τ:St):jJ T (.func 70 [] [.ptr (τ.length+2) 0]) [cV x] (b0::b1::(τ++[.cells (cV s).cells])) (.bool (decide (x.name=s.name))):=by
 refine eV (af:=a70) rfl (by simp [a70]) ?_
 (repeat (first|simp only [↓QA,QB,Nat.reduceLT,reduceIte,Nat.reduceEqDiff,Nat.reduceAdd,Nat.reduceLeDiff,Nat.reduceMul,Nat.reduceBEq,aH,a70,FM,List.length_append]|refine rd0 rfl ?_))
 refine fI [.cells [.str x.name,.int .i64 x.frm,.int .i64 x.leaves,.int .i64 x.due,.lit (x.path.map (.int .i64)) false none]] (by first|rfl|simp) ?_
 try simp only [QS,QC,Nat.reduceLT,reduceIte,Nat.reduceEqDiff,Nat.reduceAdd,Nat.reduceLeDiff,Nat.reduceMul,Nat.reduceBEq,aH]
theorem KQ (lo hi:Int) (l:List Int):oR lo hi l = !l.all (fun r=>inR r lo hi):=by
 rw [oR]
 induction l with
 |nil=>rfl
 |cons x l ih =>
  rw [List.any_cons,List.all_cons,ih,Bool.not_and]
  congr 1
  rw [Bool.eq_iff_iff]
  simp [lP,inR]
  try omega
theorem U9 (v:Net) (h:Fits v) (hst:2≤v.stations∧v.stations≤5) (hra:∀ r∈v.rails,RailOk v r) (i:Nat) (hi:i<v.trams.length) (τ:St):jJ T (.func 67 [] [.ptr 0 0,.ptr 1 0]) [.int .i64 i,cV v.trams[i]] (.cells (aB v)::.cells [.int .i64 (v.stations-1)]::τ) (.int .i64 (jF v i v.trams[i])):=by
 refine eV (af:=a67) rfl (by simp [a67]) ?_
 have hfr:=h.rails
 have hsz:=h.names _ (List.getElem_mem hi)
 have hpz:=h.paths _ (List.getElem_mem hi)
 have hts:(v.trams.take i).length<9223372036854775808:=by have:=h.trams;simp;omega
 obtain ⟨s,hs⟩:∃ s,v.trams[i]=s:=⟨_,rfl⟩
 have hk:jF v i s=if fresh s.name ((v.trams.take i).map Tram.name)=0 then f9 v s else fresh s.name ((v.trams.take i).map Tram.name):=rfl
 rw [hs] at hsz hpz ⊢
 obtain ⟨E,hE⟩:∃ E,jF v i s=E:=⟨_,rfl⟩
 rw [hE] at hk ⊢
 have hwr:IntKind.i64.wrap ((v.rails.length:Int)-1)=(v.rails.length:Int)-1:=eO ⟨by omega,by omega⟩
 have fin:∀ (n:Int) (b:List AV),n=E→AJ (some (.int .i64 n)) (.cells (aB v)::.cells [.int .i64 (v.stations-1)]::τ) (.cells (aB v)::.cells [.int .i64 (v.stations-1)]::(τ++[.cells b])) (.int .i64 E):=fun n b hv=>by
  refine fI [.cells b] (by first|rfl|simp) ?_
  rw [hv]
  try simp only [QS,QC,Nat.reduceLT,reduceIte,Nat.reduceEqDiff,Nat.reduceAdd,Nat.reduceLeDiff,Nat.reduceMul,Nat.reduceBEq,aH]
 simp only [aI] at fin
 (repeat (first|simp only [↓QA,QB,Nat.reduceLT,reduceIte,Nat.reduceEqDiff,Nat.reduceAdd,Nat.reduceLeDiff,Nat.reduceMul,Nat.reduceBEq,aH,a67]|refine rd0 rfl ?_))
 ((first|refine aE (yQ s.name hsz) rfl dd ?_|refine aF (yQ s.name hsz) rfl dd ?_);(repeat (first|simp only [↓QA,QB,Nat.reduceLT,reduceIte,Nat.reduceEqDiff,Nat.reduceAdd,Nat.reduceLeDiff,Nat.reduceMul,Nat.reduceBEq,aH]|refine rd0 rfl ?_)))
 cases h1:oY s.name
 ·(repeat (first|simp only [↓QA,QB,Nat.reduceLT,reduceIte,Nat.reduceEqDiff,Nat.reduceAdd,Nat.reduceLeDiff,Nat.reduceMul,Nat.reduceBEq,aH]|refine rd0 rfl ?_))
  exact fin _ _ (by rw [hk];simp [fresh,h1])
 ·have hc:=FO (.cells (aB v)::.cells [.int .i64 (v.stations-1)]::(τ++[.cells (cV s).cells])) (.func 70 [] [.ptr (τ.length+2) 0]) (v.trams.take i) (fun x=>decide (x.name=s.name)) hts (fun υ=>by try simp only [QS,QC,Nat.reduceLT,reduceIte,Nat.reduceEqDiff,Nat.reduceAdd,Nat.reduceLeDiff,Nat.reduceMul,Nat.reduceBEq,aH,List.length_append];simp) fun x _=>PM s x _ _ τ
  try simp only [↓QA,QB,Nat.reduceLT,reduceIte,Nat.reduceEqDiff,Nat.reduceAdd,Nat.reduceLeDiff,Nat.reduceMul,Nat.reduceBEq,aH] at hc
  (repeat (first|simp only [↓QA,QB,Nat.reduceLT,reduceIte,Nat.reduceEqDiff,Nat.reduceAdd,Nat.reduceLeDiff,Nat.reduceMul,Nat.reduceBEq,aH,aBT (enc:=cV) (l:=v.trams) (Nat.le_of_lt hi)]|refine rd0 rfl ?_))
  refine bW hc ?_
  rw [AB]
  cases h2:decide (j4 s.name ((v.trams.take i).map Tram.name)≠((v.trams.take i).map Tram.name).length)
  ·have h2':j4 s.name ((v.trams.take i).map Tram.name)=((v.trams.take i).map Tram.name).length:=by simpa using h2
   have hf:fresh s.name ((v.trams.take i).map Tram.name)=0:=by simp only [fresh,h1,h2'];simp
   rw [hf] at hk
   simp only [if_true] at hk
   (repeat (first|simp only [↓QA,QB,Nat.reduceLT,reduceIte,Nat.reduceEqDiff,Nat.reduceAdd,Nat.reduceLeDiff,Nat.reduceMul,Nat.reduceBEq,aH]|refine rd0 rfl ?_))
   ((first|refine eN (bQ 0 (v.stations-1) [s.frm] (by simp)) (by simp [clr,clrs,ints]) (by simp [okV,okVs]) ?_|refine fA (bQ 0 (v.stations-1) [s.frm] (by simp)) (by simp [clr,clrs,ints]) (by simp [okV,okVs]) ?_);(repeat (first|simp only [↓QA,QB,Nat.reduceLT,reduceIte,Nat.reduceEqDiff,Nat.reduceAdd,Nat.reduceLeDiff,Nat.reduceMul,Nat.reduceBEq,aH,jW]|refine rd0 rfl ?_)))
   have hsi:inR s.frm 0 (v.stations-1)=mD v s.frm:=rfl
   rw [hsi]
   cases h3:mD v s.frm
   ·(repeat (first|simp only [↓QA,QB,Nat.reduceLT,reduceIte,Nat.reduceEqDiff,Nat.reduceAdd,Nat.reduceLeDiff,Nat.reduceMul,Nat.reduceBEq,aH]|refine rd0 rfl ?_))
    exact fin _ _ (by rw [hk,f9,if_pos h3])
   ·rw [f9,if_neg (by rw [h3];simp)] at hk
    (repeat (first|simp only [↓QA,QB,Nat.reduceLT,reduceIte,Nat.reduceEqDiff,Nat.reduceAdd,Nat.reduceLeDiff,Nat.reduceMul,Nat.reduceBEq,aH]|refine rd0 rfl ?_))
    ((first|refine eN (bQ 0 60 [s.leaves] (by simp)) (by simp [clr,clrs,ints]) (by simp [okV,okVs]) ?_|refine fA (bQ 0 60 [s.leaves] (by simp)) (by simp [clr,clrs,ints]) (by simp [okV,okVs]) ?_);(repeat (first|simp only [↓QA,QB,Nat.reduceLT,reduceIte,Nat.reduceEqDiff,Nat.reduceAdd,Nat.reduceLeDiff,Nat.reduceMul,Nat.reduceBEq,aH,jW]|refine rd0 rfl ?_)))
    cases h4:inR s.leaves 0 60
    ·(repeat (first|simp only [↓QA,QB,Nat.reduceLT,reduceIte,Nat.reduceEqDiff,Nat.reduceAdd,Nat.reduceLeDiff,Nat.reduceMul,Nat.reduceBEq,aH]|refine rd0 rfl ?_))
     exact fin _ _ (by rw [hk,if_pos (.inl h4)])
    ·(repeat (first|simp only [↓QA,QB,Nat.reduceLT,reduceIte,Nat.reduceEqDiff,Nat.reduceAdd,Nat.reduceLeDiff,Nat.reduceMul,Nat.reduceBEq,aH]|refine rd0 rfl ?_))
     ((first|refine eN (bQ 0 400 [s.due] (by simp)) (by simp [clr,clrs,ints]) (by simp [okV,okVs]) ?_|refine fA (bQ 0 400 [s.due] (by simp)) (by simp [clr,clrs,ints]) (by simp [okV,okVs]) ?_);(repeat (first|simp only [↓QA,QB,Nat.reduceLT,reduceIte,Nat.reduceEqDiff,Nat.reduceAdd,Nat.reduceLeDiff,Nat.reduceMul,Nat.reduceBEq,aH,jW]|refine rd0 rfl ?_)))
     cases h5:inR s.due 0 400
     ·(repeat (first|simp only [↓QA,QB,Nat.reduceLT,reduceIte,Nat.reduceEqDiff,Nat.reduceAdd,Nat.reduceLeDiff,Nat.reduceMul,Nat.reduceBEq,aH]|refine rd0 rfl ?_))
      exact fin _ _ (by rw [hk,if_pos (.inr h5)])
     ·rw [if_neg (by rw [h4,h5];simp)] at hk
      (repeat (first|simp only [↓QA,QB,Nat.reduceLT,reduceIte,Nat.reduceEqDiff,Nat.reduceAdd,Nat.reduceLeDiff,Nat.reduceMul,Nat.reduceBEq,aH]|refine rd0 rfl ?_))
      ((first|refine eN (bQ 1 4 [(s.path.length:Int)] (by simp)) (by simp [clr,clrs,ints]) (by simp [okV,okVs]) ?_|refine fA (bQ 1 4 [(s.path.length:Int)] (by simp)) (by simp [clr,clrs,ints]) (by simp [okV,okVs]) ?_);(repeat (first|simp only [↓QA,QB,Nat.reduceLT,reduceIte,Nat.reduceEqDiff,Nat.reduceAdd,Nat.reduceLeDiff,Nat.reduceMul,Nat.reduceBEq,aH,jW]|refine rd0 rfl ?_)))
      cases h6:inR s.path.length 1 4
      ·(repeat (first|simp only [↓QA,QB,Nat.reduceLT,reduceIte,Nat.reduceEqDiff,Nat.reduceAdd,Nat.reduceLeDiff,Nat.reduceMul,Nat.reduceBEq,aH]|refine rd0 rfl ?_))
       exact fin _ _ (by rw [hk,if_pos h6])
      ·rw [if_neg (by rw [h6];simp)] at hk
       (repeat (first|simp only [↓QA,QB,Nat.reduceLT,reduceIte,Nat.reduceEqDiff,Nat.reduceAdd,Nat.reduceLeDiff,Nat.reduceMul,Nat.reduceBEq,aH,hwr]|refine rd0 rfl ?_))
       ((first|refine aE (bQ 0 ((v.rails.length:Int)-1) s.path hpz) rfl dd ?_|refine aF (bQ 0 ((v.rails.length:Int)-1) s.path hpz) rfl dd ?_);(repeat (first|simp only [↓QA,QB,Nat.reduceLT,reduceIte,Nat.reduceEqDiff,Nat.reduceAdd,Nat.reduceLeDiff,Nat.reduceMul,Nat.reduceBEq,aH,KQ]|refine rd0 rfl ?_)))
       cases h7:s.path.all (fun r=>inR r 0 ((v.rails.length:Int)-1))
       ·rw [if_pos h7] at hk
        (repeat (first|simp only [↓QA,QB,Nat.reduceLT,reduceIte,Nat.reduceEqDiff,Nat.reduceAdd,Nat.reduceLeDiff,Nat.reduceMul,Nat.reduceBEq,aH]|refine rd0 rfl ?_))
        exact fin _ _ hk.symm
       ·rw [if_neg (by rw [h7];simp)] at hk
        rw [nR] at h3
        obtain ⟨S,hS⟩:∃ S:Nat,s.frm=(S:Int):=⟨s.frm.toNat,by omega⟩
        rw [eK] at h6
        have hld:=DK v hst hra S (by omega) s.path (fun r hr=>by
         have:=eK.1 (List.all_eq_true.1 h7 r hr)
         omega) hpz
        have hlw:d4 v s.frm s.path=iQ v S s.path:=by rw [hS];exact xV (by omega)
        rw [hlw] at hk
        obtain ⟨B,hB⟩:∃ B,iQ v S s.path=B:=⟨_,rfl⟩
        rw [hB] at hk hld
        (repeat (first|simp only [↓QA,QB,Nat.reduceLT,reduceIte,Nat.reduceEqDiff,Nat.reduceAdd,Nat.reduceLeDiff,Nat.reduceMul,Nat.reduceBEq,aH,hS]|refine rd0 rfl ?_))
        ((first|refine aE (hld) rfl dd ?_|refine aF (hld) rfl dd ?_);(repeat (first|simp only [↓QA,QB,Nat.reduceLT,reduceIte,Nat.reduceEqDiff,Nat.reduceAdd,Nat.reduceLeDiff,Nat.reduceMul,Nat.reduceBEq,aH,hS]|refine rd0 rfl ?_)))
        cases B
        ·(repeat (first|simp only [↓QA,QB,Nat.reduceLT,reduceIte,Nat.reduceEqDiff,Nat.reduceAdd,Nat.reduceLeDiff,Nat.reduceMul,Nat.reduceBEq,aH]|refine rd0 rfl ?_))
         exact fin _ _ (by rw [hk];rfl)
        ·(repeat (first|simp only [↓QA,QB,Nat.reduceLT,reduceIte,Nat.reduceEqDiff,Nat.reduceAdd,Nat.reduceLeDiff,Nat.reduceMul,Nat.reduceBEq,aH]|refine rd0 rfl ?_))
         exact fin _ _ (by rw [hk];rfl)
  ·have h2':j4 s.name ((v.trams.take i).map Tram.name)≠((v.trams.take i).map Tram.name).length:=by simpa using h2
   have hf:fresh s.name ((v.trams.take i).map Tram.name)=5:=by simp only [fresh,h1,h2',if_false];simp
   rw [hf] at hk
   (repeat (first|simp only [↓QA,QB,Nat.reduceLT,reduceIte,Nat.reduceEqDiff,Nat.reduceAdd,Nat.reduceLeDiff,Nat.reduceMul,Nat.reduceBEq,aH]|refine rd0 rfl ?_))
   exact fin _ _ (by rw [hk];simp)
theorem V6 (v:Net) (h:Fits v) (i:Nat) (x:Seen) (b:ABlk):jJ T (.func 73 [] [.ptr 0 0]) [.int .i64 i,eL x] [.cells (aB v),b,.cells (eL x).cells] (.int .i64 (jV v i x)):=by
 refine eV (af:=a73) rfl (by simp [a73]) ?_
 have hfp:=h.trams
 have hw:IntKind.i64.wrap ((v.trams.length:Int)-1)=(v.trams.length:Int)-1:=eO ⟨by omega,by omega⟩
 (repeat (first|simp only [↓QA,QB,Nat.reduceLT,reduceIte,Nat.reduceEqDiff,Nat.reduceAdd,Nat.reduceLeDiff,Nat.reduceMul,Nat.reduceBEq,aH,a73,hw]|refine rd0 rfl ?_))
 ((first|refine eN (bQ 0 ((v.trams.length:Int)-1) [x.tram] (by simp)) (by simp [clr,clrs,ints]) (by simp [okV,okVs]) ?_|refine fA (bQ 0 ((v.trams.length:Int)-1) [x.tram] (by simp)) (by simp [clr,clrs,ints]) (by simp [okV,okVs]) ?_);(repeat (first|simp only [↓QA,QB,Nat.reduceLT,reduceIte,Nat.reduceEqDiff,Nat.reduceAdd,Nat.reduceLeDiff,Nat.reduceMul,Nat.reduceBEq,aH,jW]|refine rd0 rfl ?_)))
 cases h1:inR x.tram 0 ((v.trams.length:Int)-1)
 ·(repeat (first|simp only [↓QA,QB,Nat.reduceLT,reduceIte,Nat.reduceEqDiff,Nat.reduceAdd,Nat.reduceLeDiff,Nat.reduceMul,Nat.reduceBEq,aH]|refine rd0 rfl ?_))
  refine fI _ rfl ?_
  try simp only [QS,QC,Nat.reduceLT,reduceIte,Nat.reduceEqDiff,Nat.reduceAdd,Nat.reduceLeDiff,Nat.reduceMul,Nat.reduceBEq,aH,jV,h1]
 ·(repeat (first|simp only [↓QA,QB,Nat.reduceLT,reduceIte,Nat.reduceEqDiff,Nat.reduceAdd,Nat.reduceLeDiff,Nat.reduceMul,Nat.reduceBEq,aH]|refine rd0 rfl ?_))
  ((first|refine eN (bQ (-1) 400 [x.minute] (by simp)) (by simp [clr,clrs,ints]) (by simp [okV,okVs]) ?_|refine fA (bQ (-1) 400 [x.minute] (by simp)) (by simp [clr,clrs,ints]) (by simp [okV,okVs]) ?_);(repeat (first|simp only [↓QA,QB,Nat.reduceLT,reduceIte,Nat.reduceEqDiff,Nat.reduceAdd,Nat.reduceLeDiff,Nat.reduceMul,Nat.reduceBEq,aH,jW]|refine rd0 rfl ?_)))
  cases h2:inR x.minute (-1) 400
  all_goals
   (repeat (first|simp only [↓QA,QB,Nat.reduceLT,reduceIte,Nat.reduceEqDiff,Nat.reduceAdd,Nat.reduceLeDiff,Nat.reduceMul,Nat.reduceBEq,aH]|refine rd0 rfl ?_))
   refine fI _ rfl ?_
   try simp only [QS,QC,Nat.reduceLT,reduceIte,Nat.reduceEqDiff,Nat.reduceAdd,Nat.reduceLeDiff,Nat.reduceMul,Nat.reduceBEq,aH,jV,h1,h2,Bool.true_eq_false]
end Go.Am.Room
set_option maxRecDepth 4000
namespace Go.Am.Room
def eX:=And.intro @bD (And.intro @aI (And.intro @aX (And.intro @aW (And.intro @aV (And.intro @aS (And.intro @bC (And.intro @a9 (And.intro @aZ (And.intro @dH (And.intro @dF (@Nat.not_lt_zero)))))))))))
theorem lR (v:Net) (h:Fits v):dY T 17 [bX v] (pA (dL v)):=by
 refine bA (af:=a17) rfl (by simp [a17]) dd ?_
 obtain ⟨W,hW⟩:∃ W,IntKind.i64.wrap (v.stations-1)=W:=⟨_,rfl⟩
 (repeat (first|simp only [↓QA,QB,Nat.reduceLT,reduceIte,Nat.reduceEqDiff,Nat.reduceAdd,Nat.reduceLeDiff,Nat.reduceMul,Nat.reduceBEq,eX,a17,hW]|refine rd0 rfl ?_))
 ((first|refine eN (bQ 2 5 [v.stations] (by simp)) (by simp [clr,clrs,ints]) (by simp [okV,okVs]) ?_|refine fA (bQ 2 5 [v.stations] (by simp)) (by simp [clr,clrs,ints]) (by simp [okV,okVs]) ?_);(repeat (first|simp only [↓QA,QB,Nat.reduceLT,reduceIte,Nat.reduceEqDiff,Nat.reduceAdd,Nat.reduceLeDiff,Nat.reduceMul,Nat.reduceBEq,eX,jW]|refine rd0 rfl ?_)))
 cases h1:inR v.stations 2 5
 ·(repeat (first|simp only [↓QA,QB,Nat.reduceLT,reduceIte,Nat.reduceEqDiff,Nat.reduceAdd,Nat.reduceLeDiff,Nat.reduceMul,Nat.reduceBEq,eX]|refine rd0 rfl ?_))
  simp [dL,h1,pA]
 ·have hc:dL v=oQ v:=by simp only [dL,h1,Bool.true_eq_false,if_false]
  rw [hc]
  have hst:=eK.1 h1
  have hWe:W=v.stations-1:=by rw [←hW];exact eO ⟨by omega,by omega⟩
  subst hWe
  have hWs:∀ s:Int,inR s 0 (v.stations-1)=mD v s:=fun s=>rfl
  (repeat (first|simp only [↓QA,QB,Nat.reduceLT,reduceIte,Nat.reduceEqDiff,Nat.reduceAdd,Nat.reduceLeDiff,Nat.reduceMul,Nat.reduceBEq,eX]|refine rd0 rfl ?_))
  cases h2:decide ((5:Int)<(v.rails.length:Int))
  case' true =>
   have h2':5<v.rails.length:=by first|(have:=of_decide_eq_false h2;omega)|(have:=of_decide_eq_true h2;omega)
   (repeat (first|simp only [↓QA,QB,Nat.reduceLT,reduceIte,Nat.reduceEqDiff,Nat.reduceAdd,Nat.reduceLeDiff,Nat.reduceMul,Nat.reduceBEq,eX,h2]|refine rd0 rfl ?_))
   simp [oQ,h2',pA]
  have h2':¬5<v.rails.length:=by first|(have:=of_decide_eq_false h2;omega)|(have:=of_decide_eq_true h2;omega)
  have hc:oQ v=match bN (fun _ r=>cW v r) v.rails 0 with|some (i,e)=>(2,(i:Int),e)|none=>oS v:=by simp only [oQ,h2',if_false];try rfl
  rw [hc]
  have hf:=ER [.cells (aB v),.cells [.int .i64 (v.stations-1)]] (.func 65 [] [.ptr 1 0]) v.rails (fun _ r=>cW v r) h.rails (fun τ=>by try simp only [QS,QC,Nat.reduceLT,reduceIte,Nat.reduceEqDiff,Nat.reduceAdd,Nat.reduceLeDiff,Nat.reduceMul,Nat.reduceBEq,eX]) fun i hi=>XJ v _ hWs i _ _ _
  try simp only [↓QA,QB,Nat.reduceLT,reduceIte,Nat.reduceEqDiff,Nat.reduceAdd,Nat.reduceLeDiff,Nat.reduceMul,Nat.reduceBEq,eX] at hf
  (repeat (first|simp only [↓QA,QB,Nat.reduceLT,reduceIte,Nat.reduceEqDiff,Nat.reduceAdd,Nat.reduceLeDiff,Nat.reduceMul,Nat.reduceBEq,eX,h2]|refine rd0 rfl ?_))
  refine bW hf ?_
  cases hb:bN (fun _ r=>cW v r) v.rails 0 with
  |some p =>
   obtain ⟨i,e⟩:=p
   have he:=i6 hb
   have hg:(e==0)=false:=by simpa using he
   (repeat (first|simp only [↓QA,QB,Nat.reduceLT,reduceIte,Nat.reduceEqDiff,Nat.reduceAdd,Nat.reduceLeDiff,Nat.reduceMul,Nat.reduceBEq,eX,nU,hb,uZ,hg,pA]|refine rd0 rfl ?_))
  |none =>
   have hra:∀ r∈v.rails,RailOk v r:=fun x hx=>by
    obtain ⟨k,hk,rfl⟩:=List.getElem_of_mem hx
    exact D6.1 (kO hb k hk)
   (repeat (first|simp only [↓QA,QB,Nat.reduceLT,reduceIte,Nat.reduceEqDiff,Nat.reduceAdd,Nat.reduceLeDiff,Nat.reduceMul,Nat.reduceBEq,eX,nU,hb,uZ]|refine rd0 rfl ?_))
   cases h6:decide ((3:Int)<(v.trams.length:Int))
   case' true =>
    have h6':3<v.trams.length:=by first|(have:=of_decide_eq_false h6;omega)|(have:=of_decide_eq_true h6;omega)
    (repeat (first|simp only [↓QA,QB,Nat.reduceLT,reduceIte,Nat.reduceEqDiff,Nat.reduceAdd,Nat.reduceLeDiff,Nat.reduceMul,Nat.reduceBEq,eX,h6]|refine rd0 rfl ?_))
    simp [oS,h6',pA]
   have h6':¬3<v.trams.length:=by first|(have:=of_decide_eq_false h6;omega)|(have:=of_decide_eq_true h6;omega)
   have hc:oS v=match bN (jF v) v.trams 0 with|some (i,e)=>(3,(i:Int),e)|none=>oX v:=by simp only [oS,h6',if_false];try rfl
   rw [hc]
   have hf:=ES [.cells (aB v),.cells [.int .i64 (v.stations-1)]] (.func 67 [] [.ptr 0 0,.ptr 1 0]) v.trams (jF v) h.trams (fun τ=>by try simp only [QS,QC,Nat.reduceLT,reduceIte,Nat.reduceEqDiff,Nat.reduceAdd,Nat.reduceLeDiff,Nat.reduceMul,Nat.reduceBEq,eX]) fun i hi=>U9 v h hst hra i hi _
   try simp only [↓QA,QB,Nat.reduceLT,reduceIte,Nat.reduceEqDiff,Nat.reduceAdd,Nat.reduceLeDiff,Nat.reduceMul,Nat.reduceBEq,eX] at hf
   (repeat (first|simp only [↓QA,QB,Nat.reduceLT,reduceIte,Nat.reduceEqDiff,Nat.reduceAdd,Nat.reduceLeDiff,Nat.reduceMul,Nat.reduceBEq,eX,h6]|refine rd0 rfl ?_))
   refine bW hf ?_
   cases hb:bN (jF v) v.trams 0 with
   |some p =>
    obtain ⟨i,e⟩:=p
    have he:=i6 hb
    have hg:(e==0)=false:=by simpa using he
    (repeat (first|simp only [↓QA,QB,Nat.reduceLT,reduceIte,Nat.reduceEqDiff,Nat.reduceAdd,Nat.reduceLeDiff,Nat.reduceMul,Nat.reduceBEq,eX,nU,hb,uZ,hg,pA]|refine rd0 rfl ?_))
   |none =>
    (repeat (first|simp only [↓QA,QB,Nat.reduceLT,reduceIte,Nat.reduceEqDiff,Nat.reduceAdd,Nat.reduceLeDiff,Nat.reduceMul,Nat.reduceBEq,eX,nU,hb,uZ]|refine rd0 rfl ?_))
    cases h7:decide ((3:Int)<(v.seen.length:Int))
    case' true =>
     have h7':3<v.seen.length:=by first|(have:=of_decide_eq_false h7;omega)|(have:=of_decide_eq_true h7;omega)
     (repeat (first|simp only [↓QA,QB,Nat.reduceLT,reduceIte,Nat.reduceEqDiff,Nat.reduceAdd,Nat.reduceLeDiff,Nat.reduceMul,Nat.reduceBEq,eX,h7]|refine rd0 rfl ?_))
     simp [oX,h7',pA]
    have h7':¬3<v.seen.length:=by first|(have:=of_decide_eq_false h7;omega)|(have:=of_decide_eq_true h7;omega)
    have hc:oX v=match bN (jV v) v.seen 0 with|some (i,e)=>(4,(i:Int),e)|none=>(0,0,0):=by simp only [oX,h7',if_false];try rfl
    rw [hc]
    have hf:=EH [.cells (aB v),.cells [.int .i64 (v.stations-1)]] (.func 73 [] [.ptr 0 0]) v.seen (jV v) h.seen (fun τ=>by try simp only [QS,QC,Nat.reduceLT,reduceIte,Nat.reduceEqDiff,Nat.reduceAdd,Nat.reduceLeDiff,Nat.reduceMul,Nat.reduceBEq,eX]) fun i hi=>V6 v h i _ _
    try simp only [↓QA,QB,Nat.reduceLT,reduceIte,Nat.reduceEqDiff,Nat.reduceAdd,Nat.reduceLeDiff,Nat.reduceMul,Nat.reduceBEq,eX] at hf
    (repeat (first|simp only [↓QA,QB,Nat.reduceLT,reduceIte,Nat.reduceEqDiff,Nat.reduceAdd,Nat.reduceLeDiff,Nat.reduceMul,Nat.reduceBEq,eX,h7]|refine rd0 rfl ?_))
    refine bW hf ?_
    cases hb:bN (jV v) v.seen 0 with
    |some p =>
     obtain ⟨i,e⟩:=p
     have he:=i6 hb
     have hg:(e==0)=false:=by simpa using he
     (repeat (first|simp only [↓QA,QB,Nat.reduceLT,reduceIte,Nat.reduceEqDiff,Nat.reduceAdd,Nat.reduceLeDiff,Nat.reduceMul,Nat.reduceBEq,eX,nU,hb,uZ,hg,pA]|refine rd0 rfl ?_))
    |none =>
     (repeat (first|simp only [↓QA,QB,Nat.reduceLT,reduceIte,Nat.reduceEqDiff,Nat.reduceAdd,Nat.reduceLeDiff,Nat.reduceMul,Nat.reduceBEq,eX,nU,hb,uZ,pA]|refine rd0 rfl ?_))
end Go.Am.Room
set_option maxRecDepth 4000
namespace Go.Am.Room
def cA:=And.intro @bD (And.intro @aI (And.intro @aX (And.intro @aW (And.intro @aV (And.intro @aS (And.intro @bC (And.intro @a9 (And.intro @aZ (And.intro @dH (And.intro @dF (And.intro @Nat.not_lt_zero (And.intro @List.length_append.{0} (And.intro @List.length_replicate.{0} (And.intro @Nat.zero_add (And.intro @Nat.mul_one (@Int.toNat_natCast))))))))))))))))
theorem DN:∀ l:List Int,uV 1 l.length (l.map (AV.int .i64))=l.map (.int .i64)
 |[]=>rfl
 |x::l=>by simp [uV,DN l,AV.cell]
theorem KN {σ:St} {m id n:Nat} {l:List Int} (hm:¬id<m) (hn:n=l.length) (hl:aK σ id=some (l.map (.int .i64))):cN σ m 20 (.ref id 0 n 1)=some (.lit (l.map (.int .i64)) false none):=by
 subst hn
 have hv:kN σ (.ref id 0 l.length 1)=some (l.map (.int .i64)):=by simp [kN,hl,DN]
 rw [LH,if_neg hm,hv]
 simp [iE,nL]
theorem S0 {σ:St} {id:Nat} {l:List Int} (h:aK σ id=some (List.replicate (l.length+1) (.int .i64 0))):rD 1 σ (.ref id 0 (l.length+1) 1) (.lit (l.map (.int .i64)) false none)=some (.int .i64 l.length,σ.set id (.cells (l.map (.int .i64)++[.int .i64 0]))):=by
 have h1:=iE l
 have h2:(l.map (AV.int .i64)).take (l.length+1)=l.map (.int .i64):=List.take_of_length_le (by simp)
 have h3:Nat.min l.length (l.length+1)=l.length:=Nat.min_eq_left (by omega)
 have h4:(List.replicate (l.length+1) (AV.int .i64 0)).drop l.length=[.int .i64 0]:=by rw [List.drop_replicate];simp [List.replicate]
 simp [rD,kN,yJ,h1,h,gD,h2,JK,h3,h4]
theorem WF (l:List Int) (r:Int):(l.map (AV.int .i64)++[AV.int .i64 0]).take l.length++[AV.int .i64 r]++(l.map (AV.int .i64)++[AV.int .i64 0]).drop (l.length+1)=(l++[r]).map (.int .i64):=by
 simp [List.take_append_of_le_length]
def okR (v:Net) (b:Int) (l:List Int) (r:Int):Bool:=u4 v b r&&!(l.length==4)
def gF (v:Net) (b:Int) (l:List Int) (k:Int):List (List Int):=((aT k ((v.rails.length:Int)-k).toNat).filter (okR v b l)).map fun r=>l++[r]
def gW (v:Net) (b:Int) (l:List Int):List (List Int):=gF v b l 0
theorem V7 {v:Net} {k:Nat} (h:k<v.rails.length) (b:Int) (l:List Int):gF v b l k=(if okR v b l (k:Int)=true then [l++[(k:Int)]] else [])++gF v b l ((k+1:Nat):Int):=by
 have:=m5 (a:=(k:Int)) (below:=v.rails.length) (by omega)
 rw [gF,this,List.filter_cons,show (k:Int)+1=((k+1:Nat):Int) by omega]
 split<;>rfl
theorem aAR (v:Net) (b:Int) (l:List Int):gF v b l (v.rails.length:Int)=[]:=by rw [gF,mW (by omega)];rfl
theorem HF {v:Net} {b:Int} {l:List Int} (h:l.length≠4):gW v b l=IA v b l:=by
 have e:∀ r,okR v b l r=u4 v b r:=fun r=>by simp [okR,h]
 simp only [gW,gF,IA,Int.sub_zero,Int.toNat_natCast]
 congr 1
 exact List.filter_congr fun r _=>e r
theorem K4 {v:Net} {b:Int} {l:List Int} (h:l.length=4):gW v b l=[]:=by
 have e:∀ r,okR v b l r=false:=fun r=>by simp [okR,h]
 simp only [gW,gF,List.map_eq_nil_iff,List.filter_eq_nil_iff]
 intro r _
 rw [e];simp
def mP (v:Net) (s b:Int) (k:Nat):List (List Int):=if k≤4 then uA v s b k else []
def aP (v:Net) (s b:Int) (k:Nat):List (List Int):=E7 v s b (min k 4)
theorem sH {v:Net} {s b:Int} (hs:s≠0) {k:Nat}:∀ l∈uA v s b k,l.length=k∧∀ r∈l,0≤r∧r<v.rails.length:=fun l hl=>by
 rw [vJ hs] at hl
 have:=(List.mem_filter.1 hl).1
 exact ⟨tN _ _ _ _ this,vM _ _ _ _ this⟩
theorem MR {v:Net} {s b:Int} (hs:s≠0) (h5:v.rails.length≤5) (k:Nat):(uA v s b k).length≤5^k:=by
 rw [vJ hs]
 exact Nat.le_trans (List.length_filter_le _ _) (kD v _ h5 k)
theorem RI {v:Net} {s b:Int} (hs:s≠0) (h5:v.rails.length≤5) {k:Nat} (hk:k≤4):(E7 v s b k).length≤1000:=by
 rw [EP hs k hk]
 exact uG h5 _ _ hk
theorem aF1 {v:Net} {s b:Int} (hs:s≠0) {k:Nat}:∀ l∈mP v s b k,l.length=k∧l.length≤4∧∀ r∈l,0≤r∧r<v.rails.length:=fun l hl=>by
 unfold mP at hl
 split at hl
 ·have:=sH hs l hl
  exact ⟨this.1,by omega,this.2⟩
 ·cases hl
theorem AN {α β:Type} {f:α→List β}:∀ {l:List α},(∀ x∈l,f x=[])→l.flatMap f=[]
 |[],_=>rfl
 |x::l,h=>by rw [List.flatMap_cons,h x (by simp),AN fun y hy=>h y (by simp [hy])];rfl
theorem LM {v:Net} {s b:Int} (hs:s≠0) (k:Nat):(mP v s b k).flatMap (fun l=>(gW v b l).filter (fB v s))=mP v s b (k+1):=by
 unfold mP
 by_cases h:k≤4
 ·rw [if_pos h]
  by_cases h4:k=4
  ·rw [if_neg (by omega)]
   refine AN fun l hl=>?_
   rw [K4 (by rw [(sH hs l hl).1,h4])];rfl
  ·rw [if_pos (by omega),uA]
   refine kJ fun l hl=>?_
   rw [HF (by rw [(sH hs l hl).1];exact h4)]
 ·rw [if_neg h,if_neg (by omega)];rfl
theorem LF {v:Net} {s b:Int} (hs:s≠0) (k:Nat):aP v s b k++(mP v s b k).flatMap (fun l=>(gW v b l).filter (iQ v s))=aP v s b (k+1):=by
 unfold mP aP
 by_cases h:k≤4
 ·rw [if_pos h]
  by_cases h4:k=4
  ·subst h4
   rw [AN fun l hl=>by rw [K4 (sH hs l hl).1];rfl]
   simp
  ·rw [show min k 4=k by omega,show min (k+1) 4=k+1 by omega,E7]
   congr 1
   refine kJ fun l hl=>?_
   rw [HF (by rw [(sH hs l hl).1];exact h4)]
 ·rw [if_neg h,show min k 4=4 by omega,show min (k+1) 4=4 by omega]
  simp
theorem GV {v:Net} {s b:Int} (hs:s≠0) {k:Nat} (h:mP v s b k=[]):∀ j,mP v s b (k+j)=[]∧aP v s b (k+j)=aP v s b k
 |0=>⟨h,rfl⟩
 |j+1=>by
  obtain ⟨h1,h2⟩:=GV hs h j
  have m:=LM (v:=v) (s:=s) (b:=b) hs (k+j)
  have a:=LF (v:=v) (s:=s) (b:=b) hs (k+j)
  rw [h1] at m a
  simp only [List.flatMap_nil,List.append_nil] at m a
  rw [show k+(j+1)=k+j+1 by omega]
  exact ⟨m.symm,by rw [←a,h2]⟩
theorem aA7 {v:Net} {s b:Int} (hs:s≠0) {k:Nat} (h:mP v s b k=[]):aP v s b k=cJ v s (pE b):=by
 rw [←aEX v hs]
 by_cases hk:k≤4
 ·have:=(GV hs h (4-k)).2
  rw [show k+(4-k)=4 by omega] at this
  rw [←this];rfl
 ·rw [aP,show min k 4=4 by omega]
theorem M1 {v:Net} {s:Int} {p:List Int} (h:iQ v s p=true):fB v s p=false:=by
 unfold iQ at h
 unfold fB
 split at h
 ·rename_i o ho
  simp only [Bool.and_eq_true] at h
  simp [ho,h.1]
 ·cases h
theorem AD (v:Net) (hv:Vd v) (s:Nat) (hs5:s<5) (b:Int):dY T 77 [bX v,.int .i64 s,.int .i64 b] (aN (cJ v s (pE b))):=by
 refine bA (af:=a77) rfl (by simp [a77]) dd ?_
 have hnr:=hv.nra
 (repeat (first|simp only [↓QA,QB,Nat.reduceLT,reduceIte,Nat.reduceEqDiff,Nat.reduceAdd,Nat.reduceLeDiff,Nat.reduceMul,Nat.reduceBEq,cA,a77]|refine rd0 rfl ?_))
 cases h0:((s:Int)==0)
 case' true =>
  have h0':(s:Int)=0:=by simpa using h0
  have hz:=NZ v (pE b)
  rw [←h0'] at hz
  rw [hz]
  (repeat (first|simp only [↓QA,QB,Nat.reduceLT,reduceIte,Nat.reduceEqDiff,Nat.reduceAdd,Nat.reduceLeDiff,Nat.reduceMul,Nat.reduceBEq,cA,h0,bP,List.map_nil]|refine rd0 rfl ?_))
  try try simp only [QS,QC,Nat.reduceLT,reduceIte,Nat.reduceEqDiff,Nat.reduceAdd,Nat.reduceLeDiff,Nat.reduceMul,Nat.reduceBEq,cA]
 have hs:(s:Int)≠0:=by simpa using h0
 obtain ⟨Z,hZ⟩:∃ Z,cJ v s (pE b)=Z:=⟨_,rfl⟩
 have hall:=fun k=>aA7 (v:=v) (s:=s) (b:=b) hs (k:=k)
 simp only [hZ] at hall
 rw [hZ]
 (repeat (first|simp only [↓QA,QB,Nat.reduceLT,reduceIte,Nat.reduceEqDiff,Nat.reduceAdd,Nat.reduceLeDiff,Nat.reduceMul,Nat.reduceBEq,cA,h0]|refine rd0 rfl ?_))
 refine jP 6 1 [] rfl ?_
 refine bY (S:=Nat×Bool) (0,false) (fun a=>a.1≤5) (fun a=>5-a.1)
  (fun a=>[(1,.int .i64 s),(2,.int .i64 b),(3,.ptr 0 0),(6,.lit ((aP v s b a.1).map ints) false (some 1)),(7,aN (mP v s b a.1))])
  (fun a=>[.cells (aB v),.tok 1 (aP v s b a.1).length a.2]) (Nat.zero_le _) (by simp [aB,ints,aP,E7]) ?_ fun a hk=>?_
 ·try simp only [aC,QE,Nat.reduceLT,reduceIte,Nat.reduceEqDiff,Nat.reduceAdd,Nat.reduceLeDiff,Nat.reduceMul,Nat.reduceBEq,cA]
  simp [aN,ints,mP,uA,aP,E7,clr,clrs]
 ·obtain ⟨k,ex⟩:=a
  simp only at hk
  have hin:=aF1 (v:=v) (s:=s) (b:=b) hs (k:=k)
  have hmn:=LM (v:=v) (s:=s) (b:=b) hs k
  have han:=LF (v:=v) (s:=s) (b:=b) hs k
  have hac:∀ j,(aP v s b j).length≤1000:=fun j=>RI hs (by omega) (by omega)
  have hmc:∀ j,(mP v s b j).length≤625:=fun j=>by
   unfold mP
   split
   ·exact Nat.le_trans (MR hs (by omega) j) (Nat.le_trans (Nat.pow_le_pow_right (by omega) (by omega):5^j≤5^4) (by decide))
   ·simp
  have c1:=hac k
  have c2:=hac (k+1)
  have c3:=hmc k
  have c4:=hmc (k+1)
  have hfin:=hall k
  have hm5:k=5→mP v s b k=[]:=fun q=>by rw [q];rfl
  obtain ⟨W,hW⟩:∃ W,mP v s b k=W:=⟨_,rfl⟩
  obtain ⟨X,hX⟩:∃ X,mP v s b (k+1)=X:=⟨_,rfl⟩
  obtain ⟨O,hO⟩:∃ O,aP v s b k=O:=⟨_,rfl⟩
  obtain ⟨Y,hY⟩:∃ Y,aP v s b (k+1)=Y:=⟨_,rfl⟩
  rw [hO] at c1 han hfin
  rw [hY] at c2 han
  rw [hX] at c4 hmn
  rw [hW] at c3 hmn han hfin hm5
  simp only [hW] at hin
  rw [hW,hO]
  (repeat (first|simp only [↓QA,QB,Nat.reduceLT,reduceIte,Nat.reduceEqDiff,Nat.reduceAdd,Nat.reduceLeDiff,Nat.reduceMul,Nat.reduceBEq,cA,Y9,aN]|refine rd0 rfl ?_))
  cases hne:decide ((0:Int)<(W.length:Int))
  ·have hw0:W=[]:=by
    have:¬(0:Int)<(W.length:Int):=by simpa using hne
    exact List.length_eq_zero_iff.1 (by omega)
   rw [hfin hw0]
   (repeat (first|simp only [↓QA,QB,Nat.reduceLT,reduceIte,Nat.reduceEqDiff,Nat.reduceAdd,Nat.reduceLeDiff,Nat.reduceMul,Nat.reduceBEq,cA]|refine rd0 rfl ?_))
   try try simp only [QS,QC,Nat.reduceLT,reduceIte,Nat.reduceEqDiff,Nat.reduceAdd,Nat.reduceLeDiff,Nat.reduceMul,Nat.reduceBEq,cA]
  ·have hw0:W≠[]:=by
    have:(0:Int)<(W.length:Int):=by simpa using hne
    rintro rfl
    simp at this
   have hk4:k<5:=by
    by_cases q:k=5
    ·exact absurd (hm5 q) hw0
    ·omega
   (repeat (first|simp only [↓QA,QB,Nat.reduceLT,reduceIte,Nat.reduceEqDiff,Nat.reduceAdd,Nat.reduceLeDiff,Nat.reduceMul,Nat.reduceBEq,cA]|refine rd0 rfl ?_))
   refine jP 8 1 [] rfl ?_
   (repeat (first|simp only [↓QA,QB,Nat.reduceLT,reduceIte,Nat.reduceEqDiff,Nat.reduceAdd,Nat.reduceLeDiff,Nat.reduceMul,Nat.reduceBEq,cA]|refine rd0 rfl ?_))
   refine bY (S:=Nat×List (List Int)×List (List Int)×Bool×Bool) (0,O,[],ex,false) (fun a=>a.1≤W.length∧a.2.2.1++(W.drop a.1).flatMap (fun l=>(gW v b l).filter (fB v s))=X∧a.2.1++(W.drop a.1).flatMap (fun l=>(gW v b l).filter (iQ v s))=Y) (fun a=>W.length-a.1)
    (fun a=>[(1,.int .i64 s),(2,.int .i64 b),(3,.ptr 0 0),(6,.lit (a.2.1.map ints) false (some 1)),(8,.lit (a.2.2.1.map ints) false (some 2)),(22,aN W),(23,.int .i64 W.length),(24,.int .i64 a.1)])
    (fun a=>[.cells (aB v),.tok 1 a.2.1.length a.2.2.2.1,.tok 1 a.2.2.1.length a.2.2.2.2]) ⟨Nat.zero_le _,by simpa using hmn,by simpa using han⟩ (by simp [aB,ints]) ?_ fun a ha=>?_
   ·try simp only [aC,QE,Nat.reduceLT,reduceIte,Nat.reduceEqDiff,Nat.reduceAdd,Nat.reduceLeDiff,Nat.reduceMul,Nat.reduceBEq,cA,aN,ints]
    try simp
   ·obtain ⟨i,O,A,ex,ex2⟩:=a
    obtain ⟨hi,hA,hB⟩:=ha
    simp only at hi hA hB
    (repeat (first|simp only [↓QA,QB,Nat.reduceLT,reduceIte,Nat.reduceEqDiff,Nat.reduceAdd,Nat.reduceLeDiff,Nat.reduceMul,Nat.reduceBEq,cA,YN,aN]|refine rd0 rfl ?_))
    refine aG (fun h2=>?_) fun h2=>?_
    ·have hi1:i<W.length:=by simpa using h2
     have hwi:=bV hi1 (by omega)
     obtain ⟨l,hl⟩:∃ l,W[i]=l:=⟨_,rfl⟩
     obtain ⟨_,hl4,hlr⟩:=hin _ (List.getElem_mem hi1)
     rw [hl] at hl4 hlr
     rw [List.drop_eq_getElem_cons hi1,hl,List.flatMap_cons] at hA hB
     obtain ⟨F,hF⟩:∃ F,(W.drop (i+1)).flatMap (fun l=>(gW v b l).filter (fB v s))=F:=⟨_,rfl⟩
     obtain ⟨G,hG⟩:∃ G,(W.drop (i+1)).flatMap (fun l=>(gW v b l).filter (iQ v s))=G:=⟨_,rfl⟩
     rw [hF,gW] at hA
     rw [hG,gW] at hB
     have hwl:=bV (show l.length<5 by omega) (by omega)
     have hmk:pC 8 (.int .i64 ((l.length+1:Nat):Int)) (.int .i64 ((l.length+1:Nat):Int))=some (l.length+1):=by simp [pC,room];omega
     (repeat (first|simp only [↓QA,QB,Nat.reduceLT,reduceIte,Nat.reduceEqDiff,Nat.reduceAdd,Nat.reduceLeDiff,Nat.reduceMul,Nat.reduceBEq,cA,hi1,hl,aN]|refine rd0 rfl ?_))
     refine bY (S:=Nat×List (List Int)×List (List Int)×Bool×Bool) (0,O,A,ex,ex2) (fun a=>a.1≤v.rails.length∧a.2.2.1++((gF v b l a.1).filter (fB v s)++F)=X∧a.2.1++((gF v b l a.1).filter (iQ v s)++G)=Y) (fun a=>v.rails.length-a.1)
      (fun a=>[(1,.int .i64 s),(2,.int .i64 b),(3,.ptr 0 0),(6,.lit (a.2.1.map ints) false (some 1)),(8,.lit (a.2.2.1.map ints) false (some 2)),(10,ints l),(22,aN W),(23,.int .i64 W.length),(24,.int .i64 i),(29,.lit (v.rails.map d5) false none),(30,.int .i64 v.rails.length),(31,.int .i64 a.1)])
      (fun a=>[.cells (aB v),.tok 1 a.2.1.length a.2.2.2.1,.tok 1 a.2.2.1.length a.2.2.2.2]) ⟨Nat.zero_le _,hA,hB⟩ (by simp [aB]) ?_ fun a ha=>?_
     ·try simp only [aC,QE,Nat.reduceLT,reduceIte,Nat.reduceEqDiff,Nat.reduceAdd,Nat.reduceLeDiff,Nat.reduceMul,Nat.reduceBEq,cA,aN,ints]
      try simp
     ·obtain ⟨r,O,A,ex,ex2⟩:=a
      obtain ⟨hr,hA,hB⟩:=ha
      simp only at hr hA hB
      (repeat (first|simp only [↓QA,QB,Nat.reduceLT,reduceIte,Nat.reduceEqDiff,Nat.reduceAdd,Nat.reduceLeDiff,Nat.reduceMul,Nat.reduceBEq,cA,YH,aN]|refine rd0 rfl ?_))
      refine aG (fun h3=>?_) fun h3=>?_
      ·have hr1:r<v.rails.length:=by simpa using h3
       have hwr:=bV hr1 (by omega)
       rw [V7 hr1] at hA hB
       have hok:okR v b l (r:Int)=(!((r:Int)==b)&&!(v.rails[r].shut==1)&&!((l.length:Int)==4)):=by
        rw [okR,u4,wE hr1]
        have e1:(v.rails[r].shut==1)=decide (v.rails[r].shut=1):=by rw [Bool.eq_iff_iff];simp
        have e2:((l.length:Int)==4)=(l.length==4):=by rw [Bool.eq_iff_iff];simp;omega
        rw [e1,e2]
       obtain ⟨z,hz⟩:∃ z,v.rails[r]=z:=⟨_,rfl⟩
       rw [hz] at hok
       obtain ⟨E,hE⟩:∃ E,gF v b l ((r+1:Nat):Int)=E:=⟨_,rfl⟩
       rw [hE] at hA hB
       have no:okR v b l (r:Int)=false→A++(E.filter (fB v s)++F)=X∧O++(E.filter (iQ v s)++G)=Y:=fun q=>by
        rw [q] at hA hB
        exact ⟨by simpa using hA,by simpa using hB⟩
       (repeat (first|simp only [↓QA,QB,Nat.reduceLT,reduceIte,Nat.reduceEqDiff,Nat.reduceAdd,Nat.reduceLeDiff,Nat.reduceMul,Nat.reduceBEq,cA,hr1,hz]|refine rd0 rfl ?_))
       cases q0:((r:Int)==b)
       ·cases q1:(z.shut==1)
        ·cases q2:((l.length:Int)==4)
         ·rw [q0,q1,q2] at hok
          rw [hok] at hA hB
          simp only [Bool.not_false,Bool.and_self,if_true,List.singleton_append,List.cons_append,List.filter_cons] at hA hB
          have hal:A.length≤625:=by
           have:=congrArg List.length hA
           simp only [List.length_append] at this
           omega
          have hol:O.length≤1000:=by
           have:=congrArg List.length hB
           simp only [List.length_append] at this
           omega
          have hbw:=M1 (v:=v) (s:=s) (p:=l++[(r:Int)])
          have hld:=DK v hv.st hv.ra s hs5 (l++[(r:Int)]) (fun x hx=>by
           rcases List.mem_append.1 hx with hx|hx
           ·exact hlr x hx
           ·simp only [List.mem_singleton] at hx;subst hx;omega) (by simp;omega)
          have hcp:=fun (b0 b1 b2 b3:ABlk)=>S0 (σ:=[b0,b1,b2,b3,.cells (List.replicate (l.length+1) (.int .i64 0))]) (id:=4) (l:=l) rfl
          have hos:=WF l r
          have hsr:=fun (b0 b1 b2 b3:ABlk) (m:Nat) (hm:m≤4)=>KN (σ:=[b0,b1,b2,b3,.cells ((l++[(r:Int)]).map (.int .i64))]) (m:=m) (id:=4) (n:=l.length+1) (l:=l++[(r:Int)]) (by omega) (by simp) rfl
          have i4:(0:Int)≤(l.length:Int)∧(l.length:Int)<((l.length+1:Nat):Int)∧1=1:=⟨by omega,by omega,rfl⟩
          obtain ⟨WB,hWB⟩:∃ WB,iQ v s (l++[(r:Int)])=WB:=⟨_,rfl⟩
          obtain ⟨BB,hBB⟩:∃ BB,fB v s (l++[(r:Int)])=BB:=⟨_,rfl⟩
          rw [hWB,hBB] at hld
          rw [hWB] at hB hbw
          rw [hBB] at hA hbw
          have a2:=fun (b0 b1:ABlk) (τ:St)=>iK (σ:=b0::b1::.tok 1 A.length ex2::τ) (t:=2) (ex:=ex2) (sz:=1) (b:=24) (xs:=A.map ints) (ys:=[.ref 4 0 (l.length+1) 1]) (f:=true) (tk:=none) ⟨iM A,by simp [aL,AV.cells,AV.cell],by simp [room];omega,by simp [room];omega⟩ (by simp) A.length (by simp) rfl
          have a3:=fun (b0:ABlk) (τ:St)=>iK (σ:=b0::.tok 1 O.length ex::τ) (t:=1) (ex:=ex) (sz:=1) (b:=24) (xs:=O.map ints) (ys:=[.ref 4 0 (l.length+1) 1]) (f:=true) (tk:=none) ⟨iM O,by simp [aL,AV.cells,AV.cell],by simp [room];omega,by simp [room];omega⟩ (by simp) O.length (by simp) rfl
          have hml:(l++[(r:Int)]).map (AV.int .i64)=l.map (.int .i64)++[.int .i64 r]:=by simp
          (repeat (first|simp only [↓QA,QB,Nat.reduceLT,reduceIte,Nat.reduceEqDiff,Nat.reduceAdd,Nat.reduceLeDiff,Nat.reduceMul,Nat.reduceBEq,cA,q0,q1,q2,hwl,hmk,KD,hcp,i4,hos]|refine rd0 rfl ?_))
          refine s7 hld (by try simp only [QS,QC,Nat.reduceLT,reduceIte,Nat.reduceEqDiff,Nat.reduceAdd,Nat.reduceLeDiff,Nat.reduceMul,Nat.reduceBEq,cA,hsr]) (by simp [Scal,Scals]) ?_
          (repeat (first|simp only [↓QA,QB,Nat.reduceLT,reduceIte,Nat.reduceEqDiff,Nat.reduceAdd,Nat.reduceLeDiff,Nat.reduceMul,Nat.reduceBEq,cA]|refine rd0 rfl ?_))
          cases WB
          ·cases BB
           ·(repeat (first|simp only [↓QA,QB,Nat.reduceLT,reduceIte,Nat.reduceEqDiff,Nat.reduceAdd,Nat.reduceLeDiff,Nat.reduceMul,Nat.reduceBEq,cA,hwr]|refine rd0 rfl ?_))
            refine ⟨(r+1,O,A,ex,ex2),⟨by simp only;omega,by rw [hE];simpa using hA,by rw [hE];simpa using hB⟩,by simp only;omega,?_⟩
            try simp only [aC,QE,Nat.reduceLT,reduceIte,Nat.reduceEqDiff,Nat.reduceAdd,Nat.reduceLeDiff,Nat.reduceMul,Nat.reduceBEq,cA,hwr,aN,ints]
            try simp [aJ]
           ·(repeat (first|simp only [↓QA,QB,Nat.reduceLT,reduceIte,Nat.reduceEqDiff,Nat.reduceAdd,Nat.reduceLeDiff,Nat.reduceMul,Nat.reduceBEq,cA,hwr,a2]|refine rd0 rfl ?_))
            refine ⟨(r+1,O,A++[l++[(r:Int)]],ex,true),⟨by simp only;omega,by rw [hE,←hA];simp,by rw [hE];simpa using hB⟩,by simp only;omega,?_⟩
            have hs1:=KN (σ:=[.cells (aB v),.tok 1 O.length ex,.tok 1 (A.length+1) true,.cells (d5 z).cells,.cells ((l++[(r:Int)]).map (.int .i64))]) (m:=3) (id:=4) (n:=l.length+1) (l:=l++[(r:Int)]) (by omega) (by simp) rfl
            rw [hml] at hs1
            try simp only [↓QA,QB,Nat.reduceLT,reduceIte,Nat.reduceEqDiff,Nat.reduceAdd,Nat.reduceLeDiff,Nat.reduceMul,Nat.reduceBEq,cA] at hs1
            try simp only [aC,QE,Nat.reduceLT,reduceIte,Nat.reduceEqDiff,Nat.reduceAdd,Nat.reduceLeDiff,Nat.reduceMul,Nat.reduceBEq,cA,hwr,aN,ints,hs1,List.map_append,List.map_cons,List.map_nil]
            try simp [aJ]
          ·have:=hbw rfl
           subst this
           (repeat (first|simp only [↓QA,QB,Nat.reduceLT,reduceIte,Nat.reduceEqDiff,Nat.reduceAdd,Nat.reduceLeDiff,Nat.reduceMul,Nat.reduceBEq,cA,hwr,a3]|refine rd0 rfl ?_))
           refine ⟨(r+1,O++[l++[(r:Int)]],A,true,ex2),⟨by simp only;omega,by rw [hE];simpa using hA,by rw [hE,←hB];simp⟩,by simp only;omega,?_⟩
           have hs1:=KN (σ:=[.cells (aB v),.tok 1 (O.length+1) true,.tok 1 A.length ex2,.cells (d5 z).cells,.cells ((l++[(r:Int)]).map (.int .i64))]) (m:=3) (id:=4) (n:=l.length+1) (l:=l++[(r:Int)]) (by omega) (by simp) rfl
           rw [hml] at hs1
           try simp only [↓QA,QB,Nat.reduceLT,reduceIte,Nat.reduceEqDiff,Nat.reduceAdd,Nat.reduceLeDiff,Nat.reduceMul,Nat.reduceBEq,cA] at hs1
           try simp only [aC,QE,Nat.reduceLT,reduceIte,Nat.reduceEqDiff,Nat.reduceAdd,Nat.reduceLeDiff,Nat.reduceMul,Nat.reduceBEq,cA,hwr,aN,ints,hs1,List.map_append,List.map_cons,List.map_nil]
           try simp [aJ]
         ·have nn:=no (by rw [hok,q2];simp)
          (repeat (first|simp only [↓QA,QB,Nat.reduceLT,reduceIte,Nat.reduceEqDiff,Nat.reduceAdd,Nat.reduceLeDiff,Nat.reduceMul,Nat.reduceBEq,cA,q0,q1,q2,hwr]|refine rd0 rfl ?_))
          refine ⟨(r+1,O,A,ex,ex2),⟨by simp only;omega,by rw [hE];exact nn.1,by rw [hE];exact nn.2⟩,by simp only;omega,?_⟩
          try simp only [aC,QE,Nat.reduceLT,reduceIte,Nat.reduceEqDiff,Nat.reduceAdd,Nat.reduceLeDiff,Nat.reduceMul,Nat.reduceBEq,cA,hwr,aN,ints]
          try simp [aJ]
        ·have nn:=no (by rw [hok,q1];simp)
         (repeat (first|simp only [↓QA,QB,Nat.reduceLT,reduceIte,Nat.reduceEqDiff,Nat.reduceAdd,Nat.reduceLeDiff,Nat.reduceMul,Nat.reduceBEq,cA,q0,q1,hwr]|refine rd0 rfl ?_))
         refine ⟨(r+1,O,A,ex,ex2),⟨by simp only;omega,by rw [hE];exact nn.1,by rw [hE];exact nn.2⟩,by simp only;omega,?_⟩
         try simp only [aC,QE,Nat.reduceLT,reduceIte,Nat.reduceEqDiff,Nat.reduceAdd,Nat.reduceLeDiff,Nat.reduceMul,Nat.reduceBEq,cA,hwr,aN,ints]
         try simp [aJ]
       ·have nn:=no (by rw [hok,q0];simp)
        (repeat (first|simp only [↓QA,QB,Nat.reduceLT,reduceIte,Nat.reduceEqDiff,Nat.reduceAdd,Nat.reduceLeDiff,Nat.reduceMul,Nat.reduceBEq,cA,q0,hwr]|refine rd0 rfl ?_))
        refine ⟨(r+1,O,A,ex,ex2),⟨by simp only;omega,by rw [hE];exact nn.1,by rw [hE];exact nn.2⟩,by simp only;omega,?_⟩
        try simp only [aC,QE,Nat.reduceLT,reduceIte,Nat.reduceEqDiff,Nat.reduceAdd,Nat.reduceLeDiff,Nat.reduceMul,Nat.reduceBEq,cA,hwr,aN,ints]
        try simp [aJ]
      ·have hr1:r=v.rails.length:=by simp at h3;omega
       rw [hr1,aAR] at hA hB
       simp only [List.nil_append,List.filter_nil] at hA hB
       (repeat (first|simp only [↓QA,QB,Nat.reduceLT,reduceIte,Nat.reduceEqDiff,Nat.reduceAdd,Nat.reduceLeDiff,Nat.reduceMul,Nat.reduceBEq,cA,hwi]|refine rd0 rfl ?_))
       refine ⟨(i+1,O,A,ex,ex2),⟨by simp only;omega,by rw [hF];exact hA,by rw [hG];exact hB⟩,by simp only;omega,?_⟩
       try simp only [aC,QE,Nat.reduceLT,reduceIte,Nat.reduceEqDiff,Nat.reduceAdd,Nat.reduceLeDiff,Nat.reduceMul,Nat.reduceBEq,cA,hwi,aN,ints]
       try simp [aJ]
    ·have hi1:i=W.length:=by simp at h2;omega
     rw [hi1,List.drop_length] at hA hB
     simp only [List.flatMap_nil,List.append_nil] at hA hB
     subst hA hB
     (repeat (first|simp only [↓QA,QB,Nat.reduceLT,reduceIte,Nat.reduceEqDiff,Nat.reduceAdd,Nat.reduceLeDiff,Nat.reduceMul,Nat.reduceBEq,cA]|refine rd0 rfl ?_))
     refine ⟨(k+1,ex),by simp only;omega,by simp only;omega,?_⟩
     try simp only [aC,QE,Nat.reduceLT,reduceIte,Nat.reduceEqDiff,Nat.reduceAdd,Nat.reduceLeDiff,Nat.reduceMul,Nat.reduceBEq,cA,hX,hY,aN,ints]
     try simp [aJ]
end Go.Am.Room
set_option maxRecDepth 4000
namespace Go.Am.Room
def dI:=And.intro @bD (And.intro @aI (And.intro @aX (And.intro @aW (And.intro @aV (And.intro @aS (And.intro @bC (And.intro @a9 (And.intro @aZ (And.intro @dH (And.intro @dF (And.intro @Nat.not_lt_zero (And.intro @List.length_append.{0} (And.intro @Nat.zero_add (And.intro @Nat.mul_one (And.intro @Int.toNat_natCast (And.intro @eH (And.intro @fO (And.intro @fP (And.intro @kQ (@fQ))))))))))))))))))))
def kP (x:Stay):AV:=.agg [.int .i64 x.rail,.int .i64 x.frm,.int .i64 x.til]
theorem bZ (x:Stay):kP x = .agg [.int .i64 x.rail,.int .i64 x.frm,.int .i64 x.til]:=by simp only [kP]
theorem FJ (x:Stay):kV (kP x):=i7 (bE (cR _ _) (bE (cR _ _) (bE (cR _ _) dD)))
instance (x:Stay):Dat (kP x):=⟨FJ x⟩
instance (l:List Stay):Dats (l.map kP):=⟨cL FJ l⟩
theorem dE (σ:St) (m d:Nat) (l:List Stay):cT σ m d (l.map kP)=some (l.map kP):=jC (cL FJ l) σ m d
theorem FP (l:List Stay):aL 3 (l.map kP)=true:=oT 3 kP l fun x=>by simp [cG,kP,AV.cells,AV.cell]
def db (v:Net) (b m:Nat):List AV:=aB v++[.int .i64 b,.map m]
theorem g7 (v:Net) (b m:Nat):(db v b m)[0]? = some (.int .i64 v.stations):=by simp [db,aB]
theorem g9 (v:Net) (b m:Nat):(db v b m)[1]? = some (.lit (v.rails.map d5) false none):=by simp [db,aB]
theorem g8 (v:Net) (b m:Nat):(db v b m)[2]? = some (.lit (v.trams.map cV) false none):=by simp [db,aB]
theorem gY (v:Net) (b m:Nat):(db v b m)[3]? = some (.lit (v.seen.map eL) false none):=by simp [db,aB]
theorem hH (v:Net) (b m:Nat):(db v b m)[4]? = some (.int .i64 b):=by simp [db,aB]
theorem gZ (v:Net) (b m:Nat):(db v b m)[5]? = some (.map m):=by simp [db,aB]
theorem RN (ss:List Stay) (rail ready m B:Int) (hl:ss.length<9223372036854775808) (hB:∀ x∈ss,x.til≤B) (h0:0≤ready) (hr:ready≤B) (hB2:B≤1000) (hm:0≤m∧m≤20) :
  dY T 120 [.lit (ss.map kP) false none,.agg [.int .i64 rail,.int .i64 ready,.int .i64 (ready+m)]] (.int .i64 (jN ss rail ready m)):=by
 refine bA (af:=a120) rfl (by simp [a120]) dd ?_
 have hfi:=xR (rail:=rail) (m:=m) hB (show B≤ready+1000 by omega)
 obtain ⟨Z,hZ⟩:∃ Z,jN ss rail ready m=Z:=⟨_,rfl⟩
 rw [hZ] at hfi ⊢
 (repeat (first|simp only [↓QA,QB,Nat.reduceLT,reduceIte,Nat.reduceEqDiff,Nat.reduceAdd,Nat.reduceLeDiff,Nat.reduceMul,Nat.reduceBEq,dI,bZ,dE,g7,g9,g8,gY,hH,gZ,a120]|refine rd0 rfl ?_))
 refine bY (S:=Int) ready (fun r=>qO ss rail m ready r) (fun r=>(B-r).toNat)
  (fun r=>[(0,.lit (ss.map kP) false none),(3,.ptr 0 0)]) (fun r=>[.cells [.int .i64 rail,.int .i64 r,.int .i64 (r+m)]]) (DW _ _ _ _) rfl ?_ fun r hb=>?_
 ·try simp only [aC,QE,Nat.reduceLT,reduceIte,Nat.reduceEqDiff,Nat.reduceAdd,Nat.reduceLeDiff,Nat.reduceMul,Nat.reduceBEq,dI,bZ,dE,g7,g9,g8,gY,hH,gZ]
  try simp
 ·have hrB:=y5 hB hb hr
  have hr0:=hb.1
  (repeat (first|simp only [↓QA,QB,Nat.reduceLT,reduceIte,Nat.reduceEqDiff,Nat.reduceAdd,Nat.reduceLeDiff,Nat.reduceMul,Nat.reduceBEq,dI,bZ,dE,g7,g9,g8,gY,hH,gZ,S1]|refine rd0 rfl ?_))
  refine bY (S:=Nat×Int) (0,r) (fun a=>a.1≤ss.length∧N4 ss rail m ready r a.1 a.2) (fun a=>ss.length-a.1)
   (fun a=>[(0,.lit (ss.map kP) false none),(3,.ptr 0 0),(5,.ptr 1 0),(10,.lit (ss.map kP) false none),(11,.int .i64 ss.length),(12,.int .i64 a.1)]) (fun a=>[.cells [.int .i64 rail,.int .i64 a.2,.int .i64 (a.2+m)],.cells [.int .i64 rail,.int .i64 r,.int .i64 (r+m)]]) ⟨by simp,.inl ⟨rfl,by simp⟩⟩ rfl ?_ fun a ha=>?_
  ·try simp only [aC,QE,Nat.reduceLT,reduceIte,Nat.reduceEqDiff,Nat.reduceAdd,Nat.reduceLeDiff,Nat.reduceMul,Nat.reduceBEq,dI,bZ,dE,g7,g9,g8,gY,hH,gZ]
   try simp
  ·obtain ⟨k,n⟩:=a
   obtain ⟨hk,hlk⟩:=ha
   simp only at hk hlk
   have hbn:qO ss rail m ready n:=by
    rcases hlk with ⟨e,_⟩|⟨_,e⟩
    ·rw [e];exact hb
    ·exact e
   have hnB:=y5 hB hbn hr
   have hn0:=hbn.1
   (repeat (first|simp only [↓QA,QB,Nat.reduceLT,reduceIte,Nat.reduceEqDiff,Nat.reduceAdd,Nat.reduceLeDiff,Nat.reduceMul,Nat.reduceBEq,dI,bZ,dE,g7,g9,g8,gY,hH,gZ,PJ]|refine rd0 rfl ?_))
   refine aG (fun h=>?_) fun h=>?_
   ·have hk1:k<ss.length:=by simpa using h
    have hw:=bV hk1 hl
    obtain ⟨x,hx⟩:∃ x,ss[k]=x:=⟨_,rfl⟩
    have hxm:x∈ss:=by rw [←hx];exact List.getElem_mem hk1
    have hat:=AF (p:=iB rail r m) hk1
    rw [hx] at hat
    have no:iB rail n m x=false→N4 ss rail m ready r (k+1) n:=fun q=>by
     rcases hlk with ⟨e,a⟩|e
     ·subst e
      exact .inl ⟨rfl,by rw [hat,a,q];rfl⟩
     ·exact .inr e
    have yes:iB rail n m x=true→N4 ss rail m ready r (k+1) x.til:=fun q=>by
     have q1:=vX q
     have hrn:r≤n:=by rcases hlk with ⟨e,_⟩|⟨e,_⟩<;>omega
     exact .inr ⟨by omega,CP hbn hxm (Int.le_refl n) q (fun y h1 h2=>by omega)⟩
    have hcl:iB rail n m x=((x.rail==rail)&&decide (x.frm<n+m)&&decide (n<x.til)):=by
     have:decide (x.rail=rail)=(x.rail==rail):=by rw [Bool.eq_iff_iff];simp
     rw [iB,this]
    have hxB:=hB x hxm
    (repeat (first|simp only [↓QA,QB,Nat.reduceLT,reduceIte,Nat.reduceEqDiff,Nat.reduceAdd,Nat.reduceLeDiff,Nat.reduceMul,Nat.reduceBEq,dI,bZ,dE,g7,g9,g8,gY,hH,gZ,hk1,hx]|refine rd0 rfl ?_))
    cases q1:(x.rail==rail)
    ·have nn:=no (by rw [hcl,q1];simp)
     (repeat (first|simp only [↓QA,QB,Nat.reduceLT,reduceIte,Nat.reduceEqDiff,Nat.reduceAdd,Nat.reduceLeDiff,Nat.reduceMul,Nat.reduceBEq,dI,bZ,dE,g7,g9,g8,gY,hH,gZ,q1,hw]|refine rd0 rfl ?_))
     refine ⟨(k+1,n),⟨by simp only;omega,nn⟩,by simp only;omega,?_⟩
     try simp only [aC,QE,Nat.reduceLT,reduceIte,Nat.reduceEqDiff,Nat.reduceAdd,Nat.reduceLeDiff,Nat.reduceMul,Nat.reduceBEq,dI,bZ,dE,g7,g9,g8,gY,hH,gZ,hw]
     try simp [aJ]
    ·cases q2:decide (x.frm<n+m)
     ·have nn:=no (by rw [hcl,q1,q2];simp)
      (repeat (first|simp only [↓QA,QB,Nat.reduceLT,reduceIte,Nat.reduceEqDiff,Nat.reduceAdd,Nat.reduceLeDiff,Nat.reduceMul,Nat.reduceBEq,dI,bZ,dE,g7,g9,g8,gY,hH,gZ,q1,hw,q2]|refine rd0 rfl ?_))
      refine ⟨(k+1,n),⟨by simp only;omega,nn⟩,by simp only;omega,?_⟩
      try simp only [aC,QE,Nat.reduceLT,reduceIte,Nat.reduceEqDiff,Nat.reduceAdd,Nat.reduceLeDiff,Nat.reduceMul,Nat.reduceBEq,dI,bZ,dE,g7,g9,g8,gY,hH,gZ,hw]
      try simp [aJ]
     ·cases q3:decide (n<x.til)
      ·have nn:=no (by rw [hcl,q1,q2,q3];simp)
       (repeat (first|simp only [↓QA,QB,Nat.reduceLT,reduceIte,Nat.reduceEqDiff,Nat.reduceAdd,Nat.reduceLeDiff,Nat.reduceMul,Nat.reduceBEq,dI,bZ,dE,g7,g9,g8,gY,hH,gZ,q1,hw,q2,q3]|refine rd0 rfl ?_))
       refine ⟨(k+1,n),⟨by simp only;omega,nn⟩,by simp only;omega,?_⟩
       try simp only [aC,QE,Nat.reduceLT,reduceIte,Nat.reduceEqDiff,Nat.reduceAdd,Nat.reduceLeDiff,Nat.reduceMul,Nat.reduceBEq,dI,bZ,dE,g7,g9,g8,gY,hH,gZ,hw]
       try simp [aJ]
      ·have hc:iB rail n m x=true:=by rw [hcl,q1,q2,q3];rfl
       have nn:=yes hc
       have hlt:=vX hc
       have w1:IntKind.i64.wrap (n+m-n)=m:=by rw [show n+m-n=m by omega];exact eO ⟨by omega,by omega⟩
       have w2:IntKind.i64.wrap (x.til+m)=x.til+m:=eO ⟨by omega,by omega⟩
       (repeat (first|simp only [↓QA,QB,Nat.reduceLT,reduceIte,Nat.reduceEqDiff,Nat.reduceAdd,Nat.reduceLeDiff,Nat.reduceMul,Nat.reduceBEq,dI,bZ,dE,g7,g9,g8,gY,hH,gZ,q1,hw,q2,q3,w1,w2]|refine rd0 rfl ?_))
       refine ⟨(k+1,x.til),⟨by simp only;omega,nn⟩,by simp only;omega,?_⟩
       try simp only [aC,QE,Nat.reduceLT,reduceIte,Nat.reduceEqDiff,Nat.reduceAdd,Nat.reduceLeDiff,Nat.reduceMul,Nat.reduceBEq,dI,bZ,dE,g7,g9,g8,gY,hH,gZ,hw]
       try simp [aJ,okVs,okV]
   ·have hk1:k=ss.length:=by simp at h;omega
    rw [hk1] at hlk
    have hrr:(rail==rail)=true:=by simp
    rcases hlk with ⟨e,a⟩|⟨e1,e2⟩
    ·rw [List.take_length] at a
     have hz:=D9 hfi (DF hb a)
     subst e
     have g:(n==n)=true:=by simp
     have g2:(n+m==n+m)=true:=by simp
     (repeat (first|simp only [↓QA,QB,Nat.reduceLT,reduceIte,Nat.reduceEqDiff,Nat.reduceAdd,Nat.reduceLeDiff,Nat.reduceMul,Nat.reduceBEq,dI,bZ,dE,g7,g9,g8,gY,hH,gZ,g,g2,hrr,hz]|refine rd0 rfl ?_))
    ·have g:(n==r)=false:=by simp;omega
     (repeat (first|simp only [↓QA,QB,Nat.reduceLT,reduceIte,Nat.reduceEqDiff,Nat.reduceAdd,Nat.reduceLeDiff,Nat.reduceMul,Nat.reduceBEq,dI,bZ,dE,g7,g9,g8,gY,hH,gZ,g,hrr,Bool.false_and]|refine rd0 rfl ?_))
     refine ⟨n,e2,by omega,?_⟩
     try simp only [aC,QE,Nat.reduceLT,reduceIte,Nat.reduceEqDiff,Nat.reduceAdd,Nat.reduceLeDiff,Nat.reduceMul,Nat.reduceBEq,dI,bZ,dE,g7,g9,g8,gY,hH,gZ]
     try simp [aJ,okVs,okV]
theorem S8 (v:Net) (b m p:Nat) (σ:St) (hσ:aK σ p=some (db v b m)) (i:Nat) (hi:i<v.trams.length):jJ T (.func 110 [.ptr p 0] []) [.int .i64 i] σ (ints (cH (gR v) i)):=by
 refine eV (af:=a110) rfl (by simp [a110]) ?_
 rw [xH hi]
 obtain ⟨z,hz⟩:∃ z,v.trams[i]=z:=⟨_,rfl⟩
 rw [hz]
 (repeat (first|simp only [↓QA,QB,Nat.reduceLT,reduceIte,Nat.reduceEqDiff,Nat.reduceAdd,Nat.reduceLeDiff,Nat.reduceMul,Nat.reduceBEq,dI,bZ,dE,g7,g9,g8,gY,hH,gZ,a110,hσ,hi,hz]|refine rd0 rfl ?_))
 refine fI [] (by first|rfl|simp) ?_
 try simp only [QS,QC,Nat.reduceLT,reduceIte,Nat.reduceEqDiff,Nat.reduceAdd,Nat.reduceLeDiff,Nat.reduceMul,Nat.reduceBEq,dI,bZ,dE,g7,g9,g8,gY,hH,gZ]
def cM (cs:List Int) (j:Nat):Int:=d8 cs (j:Int)
theorem JB (cs:List Int) (x:Int) {k:Nat} (hk:cs.length=k):cM (cs++[x])=mF (cM cs) k x:=by
 funext j
 simp only [cM,d8,Int.toNat_natCast,mF]
 by_cases e:j=k
 ·subst e;simp [←hk]
 ·rw [if_neg e]
  by_cases h:j<cs.length
  ·rw [List.getElem?_append_left h]
  ·rw [List.getElem?_eq_none (by simp;omega),List.getElem?_eq_none (by omega)]
theorem vH (f:Nat→Int) (i:Nat) (a b:Int):mF (mF f i a) i b=mF f i b:=by
 funext j;simp only [mF];split<;>rfl
theorem P8 (f:Nat→Int) (i:Nat) (a:Int):mF f i a i=a:=by simp [mF]
theorem aB1 (v:Net) (m:Int→Int) (ps:List (List Int)):bL 3 (cM (dP v m ps 0).2)=[.int .i64 0,.int .i64 0,.int .i64 0]:=by
 simp [bL,cM,d8,dP,List.range_succ]
theorem N2 (M:Nat→Int) (k:Nat) (σ:St) (hσ:aK σ k=some (bL 5 M)) (r:Nat) (hr:r<5):jJ T (.func 119 [] [.ptr k 0]) [.int .i64 r] σ (.bool (M r==0)):=by
 refine eV (af:=a119) rfl (by simp [a119]) ?_
 have i5:(0:Int)≤(r:Int)∧(r:Int)<((5:Nat):Int):=⟨by omega,by omega⟩
 have hg:=jS 5 M hr
 (repeat (first|simp only [↓QA,QB,Nat.reduceLT,reduceIte,Nat.reduceEqDiff,Nat.reduceAdd,Nat.reduceLeDiff,Nat.reduceMul,Nat.reduceBEq,dI,bZ,dE,g7,g9,g8,gY,hH,gZ,a119,i5,hσ,hg]|refine rd0 rfl ?_))
 refine fI [] (by first|rfl|simp) ?_
 try simp only [QS,QC,Nat.reduceLT,reduceIte,Nat.reduceEqDiff,Nat.reduceAdd,Nat.reduceLeDiff,Nat.reduceMul,Nat.reduceBEq,dI,bZ,dE,g7,g9,g8,gY,hH,gZ]
theorem EA (v:Net) (h:Fits v) (s:Int):dY T 19 [bX v,.int .i64 s] (B1 (oG v s)):=by
 refine bA (af:=a19) rfl (by simp [a19]) dd ?_
 obtain ⟨W,hW⟩:∃ W,IntKind.i64.wrap (v.stations-1)=W:=⟨_,rfl⟩
 (repeat (first|simp only [↓QA,QB,Nat.reduceLT,reduceIte,Nat.reduceEqDiff,Nat.reduceAdd,Nat.reduceLeDiff,Nat.reduceMul,Nat.reduceBEq,dI,bZ,dE,g7,g9,g8,gY,hH,gZ,a19]|refine rd0 rfl ?_))
 ((first|refine aE (lR v h) rfl dd ?_|refine aF (lR v h) rfl dd ?_);(repeat (first|simp only [↓QA,QB,Nat.reduceLT,reduceIte,Nat.reduceEqDiff,Nat.reduceAdd,Nat.reduceLeDiff,Nat.reduceMul,Nat.reduceBEq,dI,bZ,dE,g7,g9,g8,gY,hH,gZ,pA]|refine rd0 rfl ?_)))
 cases h0:((dL v).2.2==0)
 ·have h0':(dL v).2.2≠0:=by simpa using h0
  have hp:oG v s=([],(dL v).2.2):=by simp [oG,h0']
  rw [hp]
  (repeat (first|simp only [↓QA,QB,Nat.reduceLT,reduceIte,Nat.reduceEqDiff,Nat.reduceAdd,Nat.reduceLeDiff,Nat.reduceMul,Nat.reduceBEq,dI,bZ,dE,g7,g9,g8,gY,hH,gZ,h0,B1,bP,List.map_nil]|refine rd0 rfl ?_))
  try rfl
 ·have h0':(dL v).2.2=0:=by simpa using h0
  have hv:=hJ h0'
  have hst:=hv.st
  have hWe:IntKind.i64.wrap (v.stations-1)=v.stations-1:=eO ⟨by omega,by omega⟩
  (repeat (first|simp only [↓QA,QB,Nat.reduceLT,reduceIte,Nat.reduceEqDiff,Nat.reduceAdd,Nat.reduceLeDiff,Nat.reduceMul,Nat.reduceBEq,dI,bZ,dE,g7,g9,g8,gY,hH,gZ,h0,hWe]|refine rd0 rfl ?_))
  ((first|refine eN (bQ 0 (v.stations-1) [s] (by simp)) (by simp [clr,clrs,ints]) (by simp [okV,okVs]) ?_|refine fA (bQ 0 (v.stations-1) [s] (by simp)) (by simp [clr,clrs,ints]) (by simp [okV,okVs]) ?_);(repeat (first|simp only [↓QA,QB,Nat.reduceLT,reduceIte,Nat.reduceEqDiff,Nat.reduceAdd,Nat.reduceLeDiff,Nat.reduceMul,Nat.reduceBEq,dI,bZ,dE,g7,g9,g8,gY,hH,gZ,jW]|refine rd0 rfl ?_)))
  rw [show inR s 0 (v.stations-1)=mD v s from rfl]
  cases h1:mD v s
  ·have hp:oG v s=([],4):=by simp [oG,h0',h1]
   rw [hp]
   (repeat (first|simp only [↓QA,QB,Nat.reduceLT,reduceIte,Nat.reduceEqDiff,Nat.reduceAdd,Nat.reduceLeDiff,Nat.reduceMul,Nat.reduceBEq,dI,bZ,dE,g7,g9,g8,gY,hH,gZ,h0,B1,bP,List.map_nil]|refine rd0 rfl ?_))
   try rfl
  ·have hp:oG v s=(cJ v s [],0):=by simp [oG,h0',h1]
   rw [hp]
   rw [nR] at h1
   obtain ⟨S,rfl⟩:∃ S:Nat,s=(S:Int):=⟨s.toNat,by omega⟩
   have hw:=AD v hv S (by omega) (-1)
   have hb:pE (-1)=[]:=rfl
   rw [hb] at hw
   (repeat (first|simp only [↓QA,QB,Nat.reduceLT,reduceIte,Nat.reduceEqDiff,Nat.reduceAdd,Nat.reduceLeDiff,Nat.reduceMul,Nat.reduceBEq,dI,bZ,dE,g7,g9,g8,gY,hH,gZ,h0]|refine rd0 rfl ?_))
   ((first|refine aE (hw) rfl dd ?_|refine aF (hw) rfl dd ?_);(repeat (first|simp only [↓QA,QB,Nat.reduceLT,reduceIte,Nat.reduceEqDiff,Nat.reduceAdd,Nat.reduceLeDiff,Nat.reduceMul,Nat.reduceBEq,dI,bZ,dE,g7,g9,g8,gY,hH,gZ,B1,bP]|refine rd0 rfl ?_)))
   try try simp only [QS,QC,Nat.reduceLT,reduceIte,Nat.reduceEqDiff,Nat.reduceAdd,Nat.reduceLeDiff,Nat.reduceMul,Nat.reduceBEq,dI,bZ,dE,g7,g9,g8,gY,hH,gZ]
end Go.Am.Room
