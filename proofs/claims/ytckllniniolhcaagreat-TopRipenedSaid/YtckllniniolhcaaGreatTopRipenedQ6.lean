/- A part of the proof of TopRipened: an abstract machine, or what functions come to on it. -/
import Derived.Test.YtckllniniolhcaaGreatTopRipenedQ5
open Nat (reduceLT reduceEqDiff reduceAdd reduceLeDiff reduceMul)
set_option linter.unusedVariables false
set_option linter.unusedSimpArgs false
set_option linter.defProp false
set_option maxRecDepth 8000
namespace Go.Am.Room.Fa
def kQ:=zz @Tr.encNet_eq (zz @Tr.netCells_eq (zz @Tr.encRail_eq (zz @Tr.encTram_eq (zz @Tr.encSeen_eq (zz @Tr.S_mapRail (zz @Tr.S_mapTram (zz @Tr.S_mapSeen (zz @dH (zz @aJ (zz @bZ (@List.length_append.{0})))))))))))
def eM(m:Int):Int:=1+m/100
theorem LX(m:Int)(h0:0<=m)(h1:m<=1000):cV T 54 [.int .i64 m] (.int .i64 (eM m)):=by
 refine aR (af:=a54) rfl (by simp[a54]) dd ?_;have e:m.tdiv 100=m/100:=Int.tdiv_eq_ediv_of_nonneg h0;have w1:IntKind.i64.wrap (m/100)=m/100:=bM ⟨by omega,by omega⟩;have w2:IntKind.i64.wrap (1+m/100)=1+m/100:=bM ⟨by omega,by omega⟩;try simp only[↓QA,QB,seval,kQ,a54,aN5 .i64 m 100 (by omega),e,w1,w2,eM]
def HH(x:Span×Int×Int):Bool:=x.2.2==0&&x.2.1==1&&inR x.1.lo 0 400&&inR x.1.hi x.1.lo 300
def wC(v:Tr.Net)(k:Nat):List Span:=(List.range k).map fun (i:Nat)=>(Tr.comesR v (i:Int)).1
def nU(v:Tr.Net)(k:Nat):Bool:=(List.range k).all fun (i:Nat)=>HH (Tr.comesR v (i:Int))
def CG(v:Tr.Net):AV:=if nU v v.trams.length=true then .tuple [.lit ((wC v v.trams.length).map cG) false none,.bool true] else .tuple [.lit [] false none,.bool false]
theorem J1(v:Tr.Net)(k:Nat):(wC v k).length=k:=by simp[wC]
theorem TC(v:Tr.Net)(k:Nat):wC v (k+1)=wC v k++[(Tr.comesR v (k:Int)).1]:=by simp[wC,List.range_succ]
theorem KM(v:Tr.Net)(k:Nat):nU v (k+1)=(nU v k&&HH (Tr.comesR v (k:Int))):=by simp[nU,List.range_succ]
theorem NK{v:Tr.Net}{k:Nat}(h:HH (Tr.comesR v (k:Int))=false):∀ m,k<m->nU v m=false:=by
 intro m hm;rw[nU,List.all_eq_false];exact⟨k,List.mem_range.2 hm,by simp[h]⟩
theorem V5{k:Nat}{l:List Span}{s:Span}{b:ABlk}{ex:Bool}{τ:St}(hk:l.length=k)(hn:k<1000):dK 2 16 (b::.tok 2 k ex::τ) (.lit (l.map cG) false (some 1)) (.lit [.agg [.int .i64 s.lo,.int .i64 s.hi]] true none)=some (.lit ((l++[s]).map cG) false (some 1),b::.tok 2 (k+1) true::τ):=by
 rw[xO (ex:=ex) ⟨pD 2 _ l (fun x=>rfl),by simp[aM,AV.cells,AV.cell],by simp[room,hk];omega,by simp[room,hk];omega⟩ (by simp) (by simp[hk])];simp[hk,cG]
theorem aF0(v:Tr.Net)(hf:Tr.Fits v)(ht:v.trams.length<=3):cV T 50 [Tr.encNet v] (CG v):=by
 refine aR (af:=a50) rfl (by simp[a50]) dd ?_;try simp only[↓QA,QB,seval,kQ,a50]
 refine jN 4 2 [] rfl ?_;refine bC (S:=Nat×Bool) (0,false) (fun s=>s.1<=v.trams.length/\nU v s.1=true) (fun s=>v.trams.length-s.1)
  (fun s=>[(1,.ptr 0 0),(4,.lit ((wC v s.1).map cG) false (some 1)),(5,.int .i64 s.1)]) (fun s=>[.cells (Tr.netCells v),.tok 2 s.1 s.2]) (by simp[nU]) (by simp[Tr.netCells]) ?_ fun s hs=>?_
 ·try simp only[aB,QE,seval,kQ]
  try simp[wC]
 ·obtain⟨k,ex⟩:=s;obtain⟨hk,hg⟩:=hs;simp only at hk hg;have hl:=J1 v k;try simp only[↓QA,QB,seval,kQ,aI5]
  refine aE (fun h=>?_) fun h=>?_
  ·have hk1:k<v.trams.length:=by simpa using h
   have hw:=bD hk1 (by omega);have hgs:=KM v k;have hms:=TC v k;have hng:=fun (h:HH (Tr.comesR v (k:Int))=false)=>NK h v.trams.length hk1
   have hcm:=Tr.pcomes_ok v hf k;obtain⟨x,hx⟩:∃ x,Tr.comesR v (k:Int)=x:=⟨_,rfl⟩;rw[hx] at hgs hms hng hcm;obtain⟨s,w,e⟩:=x;simp only[HH] at hgs hms hng;have hap:=fun (b:ABlk) (τ:St)=>V5 (k:=k) (l:=wC v k) (s:=s) (b:=b) (ex:=ex) (τ:=τ) hl (by omega)
   try simp only[↓QA,QB,seval,kQ,hk1]
   (refine aD (hcm) rfl dd ?_;try simp only[↓QA,QB,seval,kQ,Tr.encSIE])
   have bad:(e==0&&w==1&&inR s.lo 0 400&&inR s.hi s.lo 300)=false->CG v = .tuple [.lit [] false none,.bool false]:=fun h=>by rw[CG,hng h];rfl
   cases h1:(e==0)
   ·try simp only[↓QA,QB,seval,kQ,h1]
    rw[bad (by rw[h1];rfl)];try rfl
   ·cases h2:(w==1)
    ·try simp only[↓QA,QB,seval,kQ,h1,h2]
     rw[bad (by rw[h1,h2];rfl)];try rfl
    ·try simp only[↓QA,QB,seval,kQ,h1,h2]
     (refine aD (fQ s.lo 0 400) rfl dd ?_;try simp only[↓QA,QB,seval,kQ,h1,h2])
     cases h3:inR s.lo 0 400
     ·try simp only[↓QA,QB,seval,kQ,h3]
      rw[bad (by rw[h1,h2,h3];rfl)];try rfl
     ·try simp only[↓QA,QB,seval,kQ,h3]
      (refine aD (fQ s.hi s.lo 300) rfl dd ?_;try simp only[↓QA,QB,seval,kQ,h1,h2,h3])
      cases h4:inR s.hi s.lo 300
      ·try simp only[↓QA,QB,seval,kQ,h4]
       rw[bad (by rw[h1,h2,h3,h4];rfl)];try rfl
      ·rw[h1,h2,h3,h4] at hgs;try simp only[↓QA,QB,seval,kQ,h4,hap,hw]
       refine⟨(k+1,true),⟨by simp only;omega,by simp only;rw[hgs,hg];rfl⟩,by simp only;omega,?_⟩;try simp only[aB,QE,seval,kQ,hw,hms,List.map_append,List.map_cons,List.map_nil]
       try simp[aF]
  ·have hk1:k=v.trams.length:=by simp at h;omega
   subst hk1;try simp only[↓QA,QB,seval,kQ,CG,hg]
   try simp
def jt(l:List Span):Nat->Span
 |0=>(l[0]?).getD ⟨0,0⟩
 |k+1=>kI (kI (jt l k) ((l[k+1]?).getD ⟨0,0⟩).lo) ((l[k+1]?).getD ⟨0,0⟩).hi
theorem aJC{l:List Span}(hl:∀ s∈l,0<=s.lo/\s.lo<=s.hi/\s.hi<=300):∀ k,k<l.length->0<=(jt l k).lo/\(jt l k).lo<=(jt l k).hi/\(jt l k).hi<=300/\∀ (i:Nat) (h:i<l.length),i<=k->(jt l k).lo<=l[i].lo/\l[i].hi<=(jt l k).hi
 |0,h=>by
  have hb:=hl _ (List.getElem_mem h);rw[jt,List.getElem?_eq_getElem h,Option.getD_some];refine⟨hb.1,hb.2.1,hb.2.2,fun i hi h0=>?_⟩;have:i=0:=by omega
  subst this;exact⟨Int.le_refl _,Int.le_refl _⟩
 |k+1,h=>by
  have ih:=aJC hl k (by omega);have hb:=hl _ (List.getElem_mem h);rw[jt,List.getElem?_eq_getElem h,Option.getD_some];simp only[kI];refine⟨by omega,by omega,by omega,fun i hi h0=>?_⟩;rcases Nat.lt_or_ge k i with q|q
  ·have:i=k+1:=by omega
   subst this;omega
  ·have:=ih.2.2.2 i hi q;omega
def pL(v:Farm)(w:Span):Farm:={ v with way:=w }
theorem N6{v:Farm}{w:Span}(h:(check v).2.2=0)(h0:0<=w.lo)(h1:w.lo<=w.hi)(h2:w.hi<=9):(check (pL v w)).2.2=0:=by
 have a1:inR w.lo 0 9=true:=by simp[inR];omega
 have a2:inR w.hi 0 9=true:=by simp[inR];omega
 have e0:fW w 0 9=0:=by simp[fW,a1,a2];omega
 unfold check at h ⊢;split at h
 ·simp at h
 ·rename_i c1;rw[if_neg (show ¬inR ((pL v w).rain.length:Int) 1 7=false from c1)];have e1:aU tF (pL v w).rain 0=aU tF v.rain 0:=rfl;rw[e1];cases hb:aU tF v.rain 0 with
  |some p=>rw[hb] at h;exact h
  |none =>
   rw[hb] at h;simp only at h ⊢;unfold gD at h ⊢;split at h
   ·simp at h
   ·rename_i c2;split at h
    ·rw[not_or,not_or] at c2;have e2:(pL v w).way=w:=rfl;rw[e2,e0,if_neg (by rw[not_or,not_or];exact⟨c2.1,c2.2.1,by omega⟩),if_pos rfl];exact h
    ·rename_i c3;exact absurd h c3
theorem P2{v:Farm}{w:Span}(hs:someV v=true)(h0:0<=w.lo)(h1:w.lo<=w.hi)(h2:w.hi<=9):someV (pL v w)=true:=some_iff.2 ⟨N6 (some_iff.1 hs).1 h0 h1 h2,(some_iff.1 hs).2⟩
theorem BH(v:Farm)(w:Span):truths (pL v w) []=truths v []:=rfl
end Go.Am.Room.Fa
namespace Go.Am.Room.Fa
def eJ:=zz @dE (zz @aI (zz @dC (zz @dD (zz @aJ (zz @dQ (zz @dS (zz @dH (zz @bZ (@List.length_append.{0})))))))))
set_option maxHeartbeats 1000000 in
theorem awake_ok:cV T 12 [] (.bool true):=by
 refine aR (af:=a12) rfl (by simp[a12]) a9 ?_
 (repeat (first|simp only[↓QA,QB,seval,eJ,a12]|refine rd0 rfl ?_))
 refine bT (C8 []) (by simp[clr,clrs]) (by simp[okV,okVs]) ?_
 (repeat (first|simp only[↓QA,QB,seval,eJ]|refine rd0 rfl ?_))
 ((first|refine aD (yC 1 3 2) rfl dd ?_|refine aG (yC 1 3 2) rfl dd ?_);(repeat (first|simp only[↓QA,QB,seval,eJ]|refine rd0 rfl ?_)))
 refine bT (C8 [⟨1,3,2⟩]) (by simp[clr,clrs,gA]) (by simp[okV,okVs]) ?_
 (repeat (first|simp only[↓QA,QB,seval,eJ]|refine rd0 rfl ?_))
 ((first|refine aD (yC 1 3 2) rfl dd ?_|refine aG (yC 1 3 2) rfl dd ?_);(repeat (first|simp only[↓QA,QB,seval,eJ]|refine rd0 rfl ?_)))
 ((first|refine aD (yC 0 1 3) rfl dd ?_|refine aG (yC 0 1 3) rfl dd ?_);(repeat (first|simp only[↓QA,QB,seval,eJ]|refine rd0 rfl ?_)))
 refine bT (C8 [⟨1,3,2⟩,⟨0,1,3⟩]) (by simp[clr,clrs,gA]) (by simp[okV,okVs]) ?_
 (repeat (first|simp only[↓QA,QB,seval,eJ]|refine rd0 rfl ?_))
 ((first|refine aD (xL (exF []) 1 4 (bF _)) rfl dd ?_|refine aG (xL (exF []) 1 4 (bF _)) rfl dd ?_);(repeat (first|simp only[↓QA,QB,seval,eJ,x1,B4]|refine rd0 rfl ?_)))
 ((first|refine aD (xL exL 1 4 (bF _)) rfl dd ?_|refine aG (xL exL 1 4 (bF _)) rfl dd ?_);(repeat (first|simp only[↓QA,QB,seval,eJ,x2,B4]|refine rd0 rfl ?_)))
 ((first|refine aD (xC (exF []) 0 4 (bF _)) rfl dd ?_|refine aG (xC (exF []) 0 4 (bF _)) rfl dd ?_);(repeat (first|simp only[↓QA,QB,seval,eJ,x3,lX]|refine rd0 rfl ?_)))
 ((first|refine aD (xC (exF []) 0 3 (bF _)) rfl dd ?_|refine aG (xC (exF []) 0 3 (bF _)) rfl dd ?_);(repeat (first|simp only[↓QA,QB,seval,eJ,x4,lX]|refine rd0 rfl ?_)))
 ((first|refine aD (N3 (exF []) 0 (bF _)) rfl dd ?_|refine aG (N3 (exF []) 0 (bF _)) rfl dd ?_);(repeat (first|simp only[↓QA,QB,seval,eJ,x5,j5]|refine rd0 rfl ?_)))
 ((first|refine aD (AI (exF []) 0 (bF _)) rfl dd ?_|refine aG (AI (exF []) 0 (bF _)) rfl dd ?_);(repeat (first|simp only[↓QA,QB,seval,eJ,x6,lX]|refine rd0 rfl ?_)))
 ((first|refine aD (xX (exF []) 4 50 (bF _)) rfl dd ?_|refine aG (xX (exF []) 4 50 (bF _)) rfl dd ?_);(repeat (first|simp only[↓QA,QB,seval,eJ,x7,j5]|refine rd0 rfl ?_)))
 ((first|refine aD (xX (exF []) 4 80 (bF _)) rfl dd ?_|refine aG (xX (exF []) 4 80 (bF _)) rfl dd ?_);(repeat (first|simp only[↓QA,QB,seval,eJ,x8,j5]|refine rd0 rfl ?_)))
 ((first|refine aD (HX exL 1 (bF _)) rfl dd ?_|refine aG (HX exL 1 (bF _)) rfl dd ?_);(repeat (first|simp only[↓QA,QB,seval,eJ,x9,B4]|refine rd0 rfl ?_)))
 ((first|refine aD (BG exL 1 (bF _)) rfl dd ?_|refine aG (BG exL 1 (bF _)) rfl dd ?_);(repeat (first|simp only[↓QA,QB,seval,eJ,x10,sE]|refine rd0 rfl ?_)))
 ((first|refine aD (tQ exW (bF _)) rfl dd ?_|refine aG (tQ exW (bF _)) rfl dd ?_);(repeat (first|simp only[↓QA,QB,seval,eJ,x11,sE]|refine rd0 rfl ?_)))
 ((first|refine aD (AI exW 0 (bF _)) rfl dd ?_|refine aG (AI exW 0 (bF _)) rfl dd ?_);(repeat (first|simp only[↓QA,QB,seval,eJ,x12,lX]|refine rd0 rfl ?_)))
 ((first|refine aD (fG 3 6) rfl dd ?_|refine aG (fG 3 6) rfl dd ?_);(repeat (first|simp only[↓QA,QB,seval,eJ]|refine rd0 rfl ?_)))
 ((first|refine aD (fG 4 5) rfl dd ?_|refine aG (fG 4 5) rfl dd ?_);(repeat (first|simp only[↓QA,QB,seval,eJ]|refine rd0 rfl ?_)))
 ((first|refine bT (gK [4] [4] (by simp) (by simp)) (by simp[clr,clrs,ints]) (by simp[okV,okVs]) ?_|refine jH (gK [4] [4] (by simp) (by simp)) (by simp[clr,clrs,ints]) (by simp[okV,okVs]) ?_);(repeat (first|simp only[↓QA,QB,seval,eJ,eq_self]|refine rd0 rfl ?_)))
 ((first|refine bT (gK [4,5] [4,5] (by simp) (by simp)) (by simp[clr,clrs,ints]) (by simp[okV,okVs]) ?_|refine jH (gK [4,5] [4,5] (by simp) (by simp)) (by simp[clr,clrs,ints]) (by simp[okV,okVs]) ?_);(repeat (first|simp only[↓QA,QB,seval,eJ,eq_self]|refine rd0 rfl ?_)))
 ((first|refine bT (gK [0,1] [0,1] (by simp) (by simp)) (by simp[clr,clrs,ints]) (by simp[okV,okVs]) ?_|refine jH (gK [0,1] [0,1] (by simp) (by simp)) (by simp[clr,clrs,ints]) (by simp[okV,okVs]) ?_);(repeat (first|simp only[↓QA,QB,seval,eJ,eq_self]|refine rd0 rfl ?_)))
 ((first|refine bT (gK [1] [1] (by simp) (by simp)) (by simp[clr,clrs,ints]) (by simp[okV,okVs]) ?_|refine jH (gK [1] [1] (by simp) (by simp)) (by simp[clr,clrs,ints]) (by simp[okV,okVs]) ?_);(repeat (first|simp only[↓QA,QB,seval,eJ,eq_self]|refine rd0 rfl ?_)))
 ((first|refine aD (fG 0 0) rfl dd ?_|refine aG (fG 0 0) rfl dd ?_);(repeat (first|simp only[↓QA,QB,seval,eJ]|refine rd0 rfl ?_)))
 ((first|refine bT (gK [1] [1] (by simp) (by simp)) (by simp[clr,clrs,ints]) (by simp[okV,okVs]) ?_|refine jH (gK [1] [1] (by simp) (by simp)) (by simp[clr,clrs,ints]) (by simp[okV,okVs]) ?_);(repeat (first|simp only[↓QA,QB,seval,eJ,eq_self]|refine rd0 rfl ?_)))
 ((first|refine bT (gK [1] [1] (by simp) (by simp)) (by simp[clr,clrs,ints]) (by simp[okV,okVs]) ?_|refine jH (gK [1] [1] (by simp) (by simp)) (by simp[clr,clrs,ints]) (by simp[okV,okVs]) ?_);(repeat (first|simp only[↓QA,QB,seval,eJ,eq_self]|refine rd0 rfl ?_)))
end Go.Am.Room.Fa
namespace Go.Am.Room.Tr
def eR:=zz @encNet_eq (zz @netCells_eq (zz @encRail_eq (zz @encTram_eq (zz @encSeen_eq (zz @aJ (zz @S_mapRail (zz @S_mapTram (zz @S_mapSeen (zz @bZ (zz @List.length_append.{0} (@cT)))))))))))
theorem KB(a:List (List Int))(h:a.length<=1000/\∀ r∈a,r.length<=4):cV T 191 [aY a,aY a] (.bool true):=by
 have:=aIK a a (by omega) (by omega) (fun r hr=>by have:=h.2 r hr;omega) (fun r hr=>by have:=h.2 r hr;omega);simpa using this
set_option maxHeartbeats 1000000 in
theorem awake_ok:cV T 48 [] (.bool true):=by
 refine aR (af:=a48) rfl (by simp[a48]) a9 ?_
 (repeat (first|simp only[↓QA,QB,seval,eR,a48]|refine rd0 rfl ?_))
 refine bT (BK false []) (by simp[clr,clrs]) (by simp[okV,okVs]) ?_
 (repeat (first|simp only[↓QA,QB,seval,eR]|refine rd0 rfl ?_))
 refine bT (BK true []) (by simp[clr,clrs]) (by simp[okV,okVs]) ?_
 (repeat (first|simp only[↓QA,QB,seval,eR]|refine rd0 rfl ?_))
 ((first|refine aD (J0 0 (-1)) rfl dd ?_|refine aG (J0 0 (-1)) rfl dd ?_);(repeat (first|simp only[↓QA,QB,seval,eR]|refine rd0 rfl ?_)))
 ((first|refine aD (J0 1 15) rfl dd ?_|refine aG (J0 1 15) rfl dd ?_);(repeat (first|simp only[↓QA,QB,seval,eR]|refine rd0 rfl ?_)))
 refine bT (BK true [⟨0,-1⟩,⟨1,15⟩]) (by simp[clr,clrs,encSeen]) (by simp[okV,okVs]) ?_
 (repeat (first|simp only[↓QA,QB,seval,eR]|refine rd0 rfl ?_))
 ((first|refine aD (J0 0 (-1)) rfl dd ?_|refine aG (J0 0 (-1)) rfl dd ?_);(repeat (first|simp only[↓QA,QB,seval,eR]|refine rd0 rfl ?_)))
 refine bT (BK true [⟨0,-1⟩]) (by simp[clr,clrs,encSeen]) (by simp[okV,okVs]) ?_
 (repeat (first|simp only[↓QA,QB,seval,eR]|refine rd0 rfl ?_))
 ((first|refine aD (JG exH (bF _ _) 3) rfl dd ?_|refine aG (JG exH (bF _ _) 3) rfl dd ?_);(repeat (first|simp only[↓QA,QB,seval,eR,x1,F2]|refine rd0 rfl ?_)))
 ((first|refine aD (pcomes_ok exH (bF _ _) 1) rfl dd ?_|refine aG (pcomes_ok exH (bF _ _) 1) rfl dd ?_);(repeat (first|simp only[↓QA,QB,seval,eR,x2,encSIE]|refine rd0 rfl ?_)))
 ((first|refine aD (pcomes_ok exK (bF _ _) 1) rfl dd ?_|refine aG (pcomes_ok exK (bF _ _) 1) rfl dd ?_);(repeat (first|simp only[↓QA,QB,seval,eR,x3,encSIE]|refine rd0 rfl ?_)))
 ((first|refine aD (pcomes_ok exT (bF _ _) 0) rfl dd ?_|refine aG (pcomes_ok exT (bF _ _) 0) rfl dd ?_);(repeat (first|simp only[↓QA,QB,seval,eR,x4,encSIE]|refine rd0 rfl ?_)))
 ((first|refine aD (PQ exK (bF _ _)) rfl dd ?_|refine aG (PQ exK (bF _ _)) rfl dd ?_);(repeat (first|simp only[↓QA,QB,seval,eR,x5,j5]|refine rd0 rfl ?_)))
 ((first|refine aD (qF exK (bF _ _)) rfl dd ?_|refine aG (qF exK (bF _ _)) rfl dd ?_);(repeat (first|simp only[↓QA,QB,seval,eR,x6,lX]|refine rd0 rfl ?_)))
 ((first|refine aD (qF exH (bF _ _)) rfl dd ?_|refine aG (qF exH (bF _ _)) rfl dd ?_);(repeat (first|simp only[↓QA,QB,seval,eR,x7,lX]|refine rd0 rfl ?_)))
 ((first|refine aD (N9 exK (bF _ _)) rfl dd ?_|refine aG (N9 exK (bF _ _)) rfl dd ?_);(repeat (first|simp only[↓QA,QB,seval,eR,x8,A7]|refine rd0 rfl ?_)))
 ((first|refine aD (PA exH (bF _ _)) rfl dd ?_|refine aG (PA exH (bF _ _)) rfl dd ?_);(repeat (first|simp only[↓QA,QB,seval,eR,x9,j5]|refine rd0 rfl ?_)))
 ((first|refine aD (I5 exH (bF _ _)) rfl dd ?_|refine aG (I5 exH (bF _ _)) rfl dd ?_);(repeat (first|simp only[↓QA,QB,seval,eR,x10,FO]|refine rd0 rfl ?_)))
 ((first|refine aD (tQ exS (bF _ _)) rfl dd ?_|refine aG (tQ exS (bF _ _)) rfl dd ?_);(repeat (first|simp only[↓QA,QB,seval,eR,x11,sE]|refine rd0 rfl ?_)))
 ((first|refine aD (qF exS (bF _ _)) rfl dd ?_|refine aG (qF exS (bF _ _)) rfl dd ?_);(repeat (first|simp only[↓QA,QB,seval,eR,x12,lX]|refine rd0 rfl ?_)))
 refine jH (KB [[3,2],[3,1,0]] (by simp)) (by simp[clr,clrs,ints,aY]) (by simp[okV,okVs,ints,aY]) ?_
 (repeat (first|simp only[↓QA,QB,seval,eR]|refine rd0 rfl ?_))
 ((first|refine aD (fG 14 16) rfl dd ?_|refine aG (fG 14 16) rfl dd ?_);(repeat (first|simp only[↓QA,QB,seval,eR,List.map_nil,List.length_nil,show (((0:Nat):Int)==0)=true from rfl]|refine rd0 rfl ?_)))
 ((first|refine bT (gK [0,1] [0,1] (by simp) (by simp)) (by simp[clr,clrs,ints]) (by simp[okV,okVs]) ?_|refine jH (gK [0,1] [0,1] (by simp) (by simp)) (by simp[clr,clrs,ints]) (by simp[okV,okVs]) ?_);(repeat (first|simp only[↓QA,QB,seval,eR,eq_self,List.map_nil,List.length_nil,show (((0:Nat):Int)==0)=true from rfl]|refine rd0 rfl ?_)))
 refine jH (KB [[2],[3,2]] (by simp)) (by simp[clr,clrs,ints,aY]) (by simp[okV,okVs,ints,aY]) ?_
 (repeat (first|simp only[↓QA,QB,seval,eR]|refine rd0 rfl ?_))
 ((first|refine bT (gK [0,1] [0,1] (by simp) (by simp)) (by simp[clr,clrs,ints]) (by simp[okV,okVs]) ?_|refine jH (gK [0,1] [0,1] (by simp) (by simp)) (by simp[clr,clrs,ints]) (by simp[okV,okVs]) ?_);(repeat (first|simp only[↓QA,QB,seval,eR,eq_self,List.map_nil,List.length_nil,show (((0:Nat):Int)==0)=true from rfl]|refine rd0 rfl ?_)))
 ((first|refine bT (gK [2] [2] (by simp) (by simp)) (by simp[clr,clrs,ints]) (by simp[okV,okVs]) ?_|refine jH (gK [2] [2] (by simp) (by simp)) (by simp[clr,clrs,ints]) (by simp[okV,okVs]) ?_);(repeat (first|simp only[↓QA,QB,seval,eR,eq_self]|refine rd0 rfl ?_)))
 ((first|refine bT (gK [1] [1] (by simp) (by simp)) (by simp[clr,clrs,ints]) (by simp[okV,okVs]) ?_|refine jH (gK [1] [1] (by simp) (by simp)) (by simp[clr,clrs,ints]) (by simp[okV,okVs]) ?_);(repeat (first|simp only[↓QA,QB,seval,eR,eq_self]|refine rd0 rfl ?_)))
end Go.Am.Room.Tr
namespace Go.Am.Room.Fa
def bP:=zz @dE (zz @aI (zz @dC (zz @dD (zz @Tr.encNet_eq (zz @Tr.netCells_eq (zz @Tr.encRail_eq (zz @Tr.encTram_eq (zz @Tr.encSeen_eq (zz @Tr.S_mapRail (zz @Tr.S_mapTram (zz @Tr.S_mapSeen (zz @Tr.S_mapState (zz @Tr.encState_eq (zz @Tr.statesAV_eq (zz @wF (zz @NB (zz @aJ (zz @dQ (zz @dS (zz @dH (zz @WZ (zz @bZ (zz @List.length_append.{0} (zz @Int.toNat_natCast (@aP1)))))))))))))))))))))))))
theorem aIF(R:List Int)(H D:Nat)(h:∀ i,0<=rl R i/\rl R i<=2)(hD:D<=7):0<=pts (rl R) H D/\pts (rl R) H D<=21:=by
 have key:∀ d:Nat,0<=pts (rl R) H d/\pts (rl R) H d<=3*d:=by
  intro d
  induction d with
  |zero=>simp[pts]
  |succ d ih =>
   have:=h d;simp only[pts];split<;>omega
 have:=key D;omega
theorem IZ{x:List Int}{k:Nat}(h:k<x.length):yN 1 (List.map (AV.int .u8) x) (k:Int) none=some (.lptr (List.map (AV.int .u8) x) k 0 none)/\(List.map (AV.int .u8) x)[k]? = some (.int .u8 x[k]):=⟨RC h (fun _=>rfl),Q2 h⟩
set_option maxHeartbeats 8000000 in
theorem topripened_ok(v:Farm)(n:Tr.Net)(x:List Int)(hf:Fits v)(hn:Tr.Fits n)(hx:aJN x):cV T 8 [encFarm v,Tr.encNet n,u8s x] (.bool true):=by
 refine aR (af:=a8) rfl (by simp[a8]) dd ?_;have hxl:=hx.2;have hpl:=hf.plots;have htl:=hn.trams
 (repeat (first|simp only[↓QA,QB,seval,bP,a8,u8s]|refine rd0 rfl ?_))
 ((first|refine aD (refcheck_ok v hf) rfl dd ?_|refine aG (refcheck_ok v hf) rfl dd ?_);(repeat (first|simp only[↓QA,QB,seval,bP,enc3,u8s]|refine rd0 rfl ?_)))
 ((first|refine aD (Tr.refcheck_ok n hn) rfl dd ?_|refine aG (Tr.refcheck_ok n hn) rfl dd ?_);(repeat (first|simp only[↓QA,QB,seval,bP,Tr.enc3,u8s]|refine rd0 rfl ?_)))
 by_cases hc:(check v).2.2=0
 ·have g1:((check v).2.2==0)=true:=by rw[hc];rfl
  by_cases hd:(Tr.check n).2.2=0
  ·have g2:((Tr.check n).2.2==0)=true:=by rw[hd];rfl
   by_cases hp:v.plots.length=0
   ·have g3:((v.plots.length:Int)==0)=true:=by rw[hp];rfl
    (repeat (first|simp only[↓QA,QB,seval,bP,g1,g2,g3]|refine rd0 rfl ?_))
    refine aD awake_ok rfl a9 ?_
    (repeat (first|simp only[↓QA,QB,seval,bP]|refine rd0 rfl ?_))
    refine aD Tr.awake_ok rfl a9 ?_
    (repeat (first|simp only[↓QA,QB,seval,bP]|refine rd0 rfl ?_))
   ·have g3:((v.plots.length:Int)==0)=false:=beq_eq_false_iff_ne.2 (by omega);by_cases ht:n.trams.length=0
    ·have g4:((n.trams.length:Int)==0)=true:=by rw[ht];rfl
     (repeat (first|simp only[↓QA,QB,seval,bP,g1,g2,g3,g4]|refine rd0 rfl ?_))
     refine aD awake_ok rfl a9 ?_
     (repeat (first|simp only[↓QA,QB,seval,bP]|refine rd0 rfl ?_))
     refine aD Tr.awake_ok rfl a9 ?_
     (repeat (first|simp only[↓QA,QB,seval,bP]|refine rd0 rfl ?_))
    ·have g4:((n.trams.length:Int)==0)=false:=beq_eq_false_iff_ne.2 (by omega);by_cases h6:x.length<6
     ·have g5:decide ((x.length:Int)<6)=true:=by simp;omega
      (repeat (first|simp only[↓QA,QB,seval,bP,g1,g2,g3,g4,g5]|refine rd0 rfl ?_))
      refine aD awake_ok rfl a9 ?_
      (repeat (first|simp only[↓QA,QB,seval,bP]|refine rd0 rfl ?_))
      refine aD Tr.awake_ok rfl a9 ?_
      (repeat (first|simp only[↓QA,QB,seval,bP]|refine rd0 rfl ?_))
     ·have g5:decide ((x.length:Int)<6)=false:=by simp;omega
      have hv:=vd_of_check hc;have hw:=Tr.vd_of_check hd;have htr:=rtruths_ok v hv [] (by simp);have htn:=Tr.rtruths_ok n hw [] (by simp);have hll:=HZ hv []
      (repeat (first|simp only[↓QA,QB,seval,bP,g1,g2,g3,g4,g5]|refine rd0 rfl ?_))
      refine jH htn (Tr.net_nil1 n) (Tr.net_nil1_ok n) ?_
      (repeat (first|simp only[↓QA,QB,seval,bP]|refine rd0 rfl ?_))
      refine jH htr (aD5 v) (PF v) ?_
      (repeat (first|simp only[↓QA,QB,seval,bP]|refine rd0 rfl ?_))
      by_cases hne:Tr.truths n []=[]
      ·have g6:(((Tr.truths n []).length:Int)==0)=true:=by rw[hne];rfl
       (repeat (first|simp only[↓QA,QB,seval,bP,g6]|refine rd0 rfl ?_))
       refine aD awake_ok rfl a9 ?_
       (repeat (first|simp only[↓QA,QB,seval,bP]|refine rd0 rfl ?_))
       refine aD Tr.awake_ok rfl a9 ?_
       (repeat (first|simp only[↓QA,QB,seval,bP]|refine rd0 rfl ?_))
      ·have g6:(((Tr.truths n []).length:Int)==0)=false:=beq_eq_false_iff_ne.2 (by have:=List.length_pos_iff.2 hne;omega);by_cases hme:truths v []=[]
       ·have g7:(((truths v []).length:Int)==0)=true:=by rw[hme];rfl
        (repeat (first|simp only[↓QA,QB,seval,bP,g6,g7]|refine rd0 rfl ?_))
        refine aD awake_ok rfl a9 ?_
        (repeat (first|simp only[↓QA,QB,seval,bP]|refine rd0 rfl ?_))
        refine aD Tr.awake_ok rfl a9 ?_
        (repeat (first|simp only[↓QA,QB,seval,bP]|refine rd0 rfl ?_))
       ·have g7:(((truths v []).length:Int)==0)=false:=beq_eq_false_iff_ne.2 (by have:=List.length_pos_iff.2 hme;omega);have hnt:=hw.ntr;have hcm:=aF0 n hn hnt
        (repeat (first|simp only[↓QA,QB,seval,bP,g6,g7]|refine rd0 rfl ?_))
        cases hg:nU n n.trams.length
        ·rw[CG,if_neg (by rw[hg];simp)] at hcm
         ((first|refine aD (hcm) rfl dd ?_|refine aG (hcm) rfl dd ?_);(repeat (first|simp only[↓QA,QB,seval,bP]|refine rd0 rfl ?_)))
         refine aD awake_ok rfl a9 ?_
         (repeat (first|simp only[↓QA,QB,seval,bP]|refine rd0 rfl ?_))
         refine aD Tr.awake_ok rfl a9 ?_
         (repeat (first|simp only[↓QA,QB,seval,bP]|refine rd0 rfl ?_))
        ·rw[CG,if_pos hg] at hcm;have hs:someV v=true:=some_iff.2 ⟨hc,hme⟩;have hsn:Tr.someV n=true:=Tr.some_iff.2 ⟨hd,hne⟩;have hctr:=fun (t:Nat) (ht:t<n.trams.length)=>Tr.comes_tr (v:=n) hsn (t:=t) ht
         have hso:=fun s hs=>Tr.truth_ok (v:=n) hw (bl:=[]) (s:=s) hs
         obtain⟨ms,hms⟩:∃ ms,wC n n.trams.length=ms:=⟨_,rfl⟩;have hml:ms.length=n.trams.length:=by rw[<-hms];exact J1 _ _
         obtain⟨ts,hts⟩:∃ ts,Tr.truths n []=ts:=⟨_,rfl⟩;obtain⟨fs,hfs⟩:∃ fs,truths v []=fs:=⟨_,rfl⟩;rw[hts] at hne;simp only[hts] at hctr hso;have hmi:∀ (t:Nat) (h:t<ms.length),ms[t]=(Tr.comesS (Tr.atsIn n ts t)).1/\(Tr.comesS (Tr.atsIn n ts t)).2=1/\0<=ms[t].lo/\ms[t].lo<=ms[t].hi/\ms[t].hi<=300:=by
          intro t h;have h1:=hctr t (by omega);have h2:ms[t]=(Tr.comesR n (t:Int)).1:=by simp[<-hms,wC]
          have h3:HH (Tr.comesR n (t:Int))=true:=by
           rw[nU,List.all_eq_true] at hg;exact hg t (List.mem_range.2 (by omega))
          rw[h1] at h2 h3;simp only[HH,inR,Bool.and_eq_true,decide_eq_true_eq,beq_iff_eq] at h3;refine⟨h2,h3.1.1.2,?_⟩;rw[h2];dsimp only at h3 ⊢;omega
         have hmb:∀ s∈ms,0<=s.lo/\s.lo<=s.hi/\s.hi<=300:=fun s hsm=>by
          obtain⟨i,hi,rfl⟩:=List.getElem_of_mem hsm;exact (hmi i hi).2.2
         have hj0:jt ms 0=ms[0]'(by omega):=by rw[jt,List.getElem?_eq_getElem (by omega),Option.getD_some]
         have i0:yN 2 (List.map cG ms) 0 none=some (.lptr (List.map cG ms) 0 0 none):=RC (k:=0) (by omega) (fun _=>rfl);have k0:(List.map cG ms)[0]? = some (cG (ms[0]'(by omega))):=Q2 (by omega)
         (repeat (first|simp only[↓QA,QB,seval,bP,hts,hfs]|refine rd0 rfl ?_))
         ((first|refine aD (hcm) rfl dd ?_|refine aG (hcm) rfl dd ?_);(repeat (first|simp only[↓QA,QB,seval,bP,hms,hts,hfs,i0,k0]|refine rd0 rfl ?_)))
         have hx0:=fun (c:Nat) (h:c<x.length)=>hx.1 _ (List.getElem_mem h)
         have hwx:=fun (c:Nat) (h:c<x.length)=>(bM (x:=x[c]) ⟨by have:=hx0 c h;omega,by have:=hx0 c h;omega⟩:IntKind.i64.wrap x[c]=x[c])
         have x0:yN 1 (List.map (AV.int .u8) x) 0 none=some (.lptr (List.map (AV.int .u8) x) 0 0 none)/\(List.map (AV.int .u8) x)[0]? = some (.int .u8 (x[0]'(by omega))):=IZ (k:=0) (by omega);have x1:yN 1 (List.map (AV.int .u8) x) 1 none=some (.lptr (List.map (AV.int .u8) x) 1 0 none)/\(List.map (AV.int .u8) x)[1]? = some (.int .u8 (x[1]'(by omega))):=IZ (k:=1) (by omega);have x2:yN 1 (List.map (AV.int .u8) x) 2 none=some (.lptr (List.map (AV.int .u8) x) 2 0 none)/\(List.map (AV.int .u8) x)[2]? = some (.int .u8 (x[2]'(by omega))):=IZ (k:=2) (by omega);have x3:yN 1 (List.map (AV.int .u8) x) 3 none=some (.lptr (List.map (AV.int .u8) x) 3 0 none)/\(List.map (AV.int .u8) x)[3]? = some (.int .u8 (x[3]'(by omega))):=IZ (k:=3) (by omega);have x4:yN 1 (List.map (AV.int .u8) x) 4 none=some (.lptr (List.map (AV.int .u8) x) 4 0 none)/\(List.map (AV.int .u8) x)[4]? = some (.int .u8 (x[4]'(by omega))):=IZ (k:=4) (by omega);have x5:yN 1 (List.map (AV.int .u8) x) 5 none=some (.lptr (List.map (AV.int .u8) x) 5 0 none)/\(List.map (AV.int .u8) x)[5]? = some (.int .u8 (x[5]'(by omega))):=IZ (k:=5) (by omega);have w0:=hwx 0 (by omega);have w1:=hwx 1 (by omega);have w2:=hwx 2 (by omega);have w3:=hwx 3 (by omega);have w4:=hwx 4 (by omega);have w5:=hwx 5 (by omega);have b0:=hx0 0 (by omega);have b1:=hx0 1 (by omega);have b2:=hx0 2 (by omega);have b3:=hx0 3 (by omega);have b4:=hx0 4 (by omega);have b5:=hx0 5 (by omega);generalize hy0:x[0]=y0 at *;generalize hy1:x[1]=y1 at *;generalize hy2:x[2]=y2 at *;generalize hy3:x[3]=y3 at *;generalize hy4:x[4]=y4 at *;generalize hy5:x[5]=y5 at *;refine bC (S:=Nat) 0 (fun k=>k+1<=ms.length) (fun k=>ms.length-k)
          (fun k=>[(2,u8s x),(3,.ptr 0 0),(4,.ptr 1 0),(6,.bool false),(13,Tr.statesAV ts),(14,rE fs),(15,.lit (ms.map cG) false none),(17,.ptr 2 0),(18,.int .i64 ((k+1:Nat):Int))])
          (fun k=>[.cells (aC v),.cells (Tr.netCells n),.cells [.int .i64 (jt ms k).lo,.int .i64 (jt ms k).hi]]) (by omega) (by simp[aC,Tr.netCells,ints,hj0]) ?_ fun k hk=>?_
         ·try simp only[aB,QE,seval,bP,u8s]
          try simp
         ·(repeat (first|simp only[↓QA,QB,seval,bP,aNY,u8s]|refine rd0 rfl ?_))
          refine aE (fun h=>?_) fun h=>?_
          ·have hk1:k+1<ms.length:=by simp at h;omega
           have hwk:=bD hk1 (by omega);have ejt:jt ms (k+1)=kI (kI (jt ms k) ms[k+1].lo) ms[k+1].hi:=by rw[jt,List.getElem?_eq_getElem hk1,Option.getD_some]
           (repeat (first|simp only[↓QA,QB,seval,bP,hk1]|refine rd0 rfl ?_))
           ((first|refine aD (EY (jt ms k) ms[k+1].lo) rfl dd ?_|refine aG (EY (jt ms k) ms[k+1].lo) rfl dd ?_);(repeat (first|simp only[↓QA,QB,seval,bP,hk1]|refine rd0 rfl ?_)))
           ((first|refine aD (EY (kI (jt ms k) ms[k+1].lo) ms[k+1].hi) rfl dd ?_|refine aG (EY (kI (jt ms k) ms[k+1].lo) ms[k+1].hi) rfl dd ?_);(repeat (first|simp only[↓QA,QB,seval,bP,hk1,hwk]|refine rd0 rfl ?_)))
           refine⟨k+1,by omega,by omega,?_⟩;try simp only[aB,QE,seval,bP,hwk,ejt,u8s]
           try simp[aF,okVs,okV]
          ·have hk1:k+1=ms.length:=by simp at h;omega
           have hjt:=aJC hmb k (by omega);obtain⟨A,hA⟩:∃ A,jt ms k=A:=⟨_,rfl⟩;rw[hA] at hjt;have hdl:1<=eM A.lo/\eM A.lo<=eM A.hi/\eM A.hi<=4:=by simp only[eM];omega
           have d1:=LX A.lo hjt.1 (by omega);have d2:=LX A.hi (by omega) (by omega);have hs':=P2 (w:=⟨eM A.lo,eM A.hi⟩) hs (by simp only;omega) (by simp only;omega) (by simp only;omega);have hf':Fits (pL v ⟨eM A.lo,eM A.hi⟩):=⟨hf.rain,hf.plots,hf.looks,hf.names⟩;have hv':=vd_of_check (some_iff.1 hs').1;have hnr:=hv.nra;have hnp:=hv.npl;have hfu:=hv.full;have hwr:IntKind.i64.wrap ((v.rain.length:Int)+1)=((v.rain.length+1:Nat):Int):=bD (show v.rain.length<v.rain.length+1 by omega) (by omega);have hrz:((v.rain.length+1:Nat):Int)≠0:=by omega
           have hpz:((v.plots.length:Nat):Int)≠0:=by omega
           obtain⟨P,hPj,hPl⟩:=xP (a:=y0) b0.1 (show 0<v.plots.length by omega);obtain⟨D,hDj,hDl⟩:=xP (a:=y1) b1.1 (show 0<v.rain.length+1 by omega);have hDr:D<=v.rain.length:=by omega
           have e1:=aK8 (v:=pL v ⟨eM A.lo,eM A.hi⟩) hs' (p:=P) (d:=D) hPl hDr;rw[BH,hfs] at e1;have hfok:∀ t∈truths v [],TOk v t:=fun t ht=>z0 hv ht
           have hfok':∀ t∈truths (pL v ⟨eM A.lo,eM A.hi⟩) [],TOk (pL v ⟨eM A.lo,eM A.hi⟩) t:=fun t ht=>z0 hv' ht
           rw[BH] at hfok';rw[hfs] at hfok hfok' hme hll;have q1:=aA8 (v:=pL v ⟨eM A.lo,eM A.hi⟩) (ts:=fs) (p:=P) (d:=D);have q2:=aEB (v:=pL v ⟨eM A.lo,eM A.hi⟩) hv' hfok' hme (p:=P) (d:=D) hPl;have q3:=RW (pL v ⟨eM A.lo,eM A.hi⟩) fs P D;obtain⟨G,hG⟩:∃ G,eG (pL v ⟨eM A.lo,eM A.hi⟩) fs P D=G:=⟨_,rfl⟩;rw[hG] at e1 q1 q2 q3;obtain⟨j,hj,hjl⟩:=xP (a:=y2) b2.1 (List.length_pos_iff.2 hme);have hfz:((fs.length:Nat):Int)≠0:=by have:=List.length_pos_iff.2 hme;omega
           have htm:=List.getElem_mem hjl;have htk:=hfok _ htm;have hin:=fun (h:Int) (hh:h∈jO fs[j] P)=>(aEA (l:=fs) (p:=P) (d:=D)).2 ⟨fs[j],htm,h,hh,rfl⟩
           have hrb:=uL hv htk.rain;have hrl:=htk.rain.1;have hFl:=htk.len;have hfl:=htk.fl P hPl;obtain⟨t,hte⟩:∃ t,fs[j]=t:=⟨_,rfl⟩;rw[hte] at hin hrb hrl hFl hfl;obtain⟨R,F⟩:=t;simp only at hrb hrl hFl;have hPF:P<F.length:=by omega
           rw[aDU (t:=⟨R,F⟩) hPF] at hin hfl;obtain⟨S,hSS⟩:∃ S,F[P]=S:=⟨_,rfl⟩;simp only[hSS] at hin hfl;obtain⟨i,hi,hil⟩:=xP (a:=y3) b3.1 (List.length_pos_iff.2 hfl.1);have hSz:((S.length:Nat):Int)≠0:=by have:=List.length_pos_iff.2 hfl.1;omega
           have him:=List.getElem_mem hil;have hab:=hfl.2.2 _ him;have hin1:=hin _ him;obtain⟨H,hH⟩:∃ H:Nat,S[i]=(H:Int):=⟨S[i].toNat,by omega⟩;rw[hH] at hab hin1;have hpo:=JN R H D hrb (by omega) (by omega);have hpb:=aIF R H D hrb (by omega);simp only[vI,EG,Int.toNat_natCast] at hin1;obtain⟨z,hz⟩:∃ z,pts (rl R) H D=z:=⟨_,rfl⟩;rw[hz] at hin1 hpo hpb;obtain⟨m,hm,hml2⟩:=xP (a:=y4) b4.1 (List.length_pos_iff.2 hne);have htz:((ts.length:Nat):Int)≠0:=by have:=List.length_pos_iff.2 hne;omega
           have hsm:=List.getElem_mem hml2;have hso1:=hso _ hsm;obtain⟨s,hse⟩:∃ s,ts[m]=s:=⟨_,rfl⟩;rw[hse] at hsm hso1;have hrun:=Tr.rrun_own n hw s hso1;have hcl:(Tr.comesOf n s).length=n.trams.length:=Tr.run_len _ _ _ _;have hat:∀ t:Nat,Tr.comeAt (Tr.comesOf n s) (t:Int)∈Tr.atsIn n ts t:=fun t=>List.mem_map.2 ⟨s,hsm,rfl⟩
           obtain⟨C,hC⟩:∃ C,Tr.comesOf n s=C:=⟨_,rfl⟩;rw[hC] at hrun hcl;simp only[hC] at hat
           obtain⟨u,hu,hul⟩:=xP (a:=y5) b5.1 (show 0<C.length by omega);have hCz:((C.length:Nat):Int)≠0:=by omega
           have hum:=hmi u (by omega);have hcu:Tr.comeAt C (u:Int)=C[u]:=by rw[Tr.comeAt,Int.toNat_natCast,List.getElem?_eq_getElem hul,Option.getD_some]
           have hau:=hat u;rw[hcu] at hau;have hcn:=(Tr.how_must (List.ne_nil_of_mem hau)).1 hum.2.1 _ hau;have hcs:=Tr.comes_span hau hcn;have hju:=hjt.2.2.2 u (by omega) (by omega);rw[<-hum.1] at hcs;obtain⟨c,hc1⟩:∃ c,C[u]=c:=⟨_,rfl⟩;rw[hc1] at hcs;have d3:=LX c (by omega) (by omega);have hdw:eM A.lo<=eM c/\eM c<=eM A.hi:=by simp only[eM];omega
           obtain⟨W,hW⟩:∃ W,eM c=W:=⟨_,rfl⟩;rw[hW] at d3 hdw;have hr1:G=1->v.full<=z/\z+W<=v.ripe:=fun h=>q1.1 h z hin1 W hdw.1 hdw.2
           have hr2:G=2->¬(v.full<=z/\z+W<=v.ripe):=fun h=>q2.1 h z hin1 W hdw.1 hdw.2
           have wzw:IntKind.i64.wrap (z+W)=z+W:=bM ⟨by omega,by omega⟩;have okz:((0:Int)==0)=true:=rfl
           (repeat (first|simp only[↓QA,QB,seval,bP,hA]|refine rd0 rfl ?_))
           ((first|refine aD (d1) rfl dd ?_|refine aG (d1) rfl dd ?_);(repeat (first|simp only[↓QA,QB,seval,bP,hA]|refine rd0 rfl ?_)))
           ((first|refine aD (d2) rfl dd ?_|refine aG (d2) rfl dd ?_);(repeat (first|simp only[↓QA,QB,seval,bP,hA,x0.1,x0.2,x1.1,x1.2]|refine rd0 rfl ?_)))
           (repeat (first|simp only[↓QA,QB,seval,bP,x0.1,x0.2,x1.1,x1.2,w0,w1,hwr,BN _ _ _ hrz,BN _ _ _ hpz,hPj,hDj]|refine rd0 rfl ?_))
           ((first|refine aD (xC (pL v ⟨eM A.lo,eM A.hi⟩) P D hf') rfl dd ?_|refine aG (xC (pL v ⟨eM A.lo,eM A.hi⟩) P D hf') rfl dd ?_);(repeat (first|simp only[↓QA,QB,seval,bP,lX,e1,okz]|refine rd0 rfl ?_)))
           have z1:((1:Int)==1)=true:=rfl;have z2:((2:Int)==2)=true:=rfl;have z3:((0:Int)==1)=false:=rfl;have z4:((0:Int)==2)=false:=rfl;have z5:((1:Int)==2)=false:=rfl;have z6:((2:Int)==1)=false:=rfl
           (repeat (first|simp only[↓QA,QB,seval,bP,x2.1,x2.2,w2,BN _ _ _ hfz,hj,hjl,hte,hPF,hSS,x3.1,x3.2,w3,BN _ _ _ hSz,hi,hil,hH]|refine rd0 rfl ?_))
           (repeat (first|simp only[↓QA,QB,seval,bP,hPF,hSS,x3.1,x3.2,w3,BN _ _ _ hSz,hi,hil,hH]|refine rd0 rfl ?_))
           (repeat (first|simp only[↓QA,QB,seval,bP,x4.1,x4.2,w4,BN _ _ _ htz,hm,hml2,hse]|refine rd0 rfl ?_))
           ((first|refine aD (Tr.rown_ok n hw) rfl dd ?_|refine aG (Tr.rown_ok n hw) rfl dd ?_);(repeat (first|simp only[↓QA,QB,seval,bP,x4.1,x4.2,w4,BN _ _ _ htz,hm,hml2,hse]|refine rd0 rfl ?_)))
           ((first|refine aD (hrun) rfl dd ?_|refine aG (hrun) rfl dd ?_);(repeat (first|simp only[↓QA,QB,seval,bP,x4.1,x4.2,w4,BN _ _ _ htz,hm,hml2,hse]|refine rd0 rfl ?_)))
           (repeat (first|simp only[↓QA,QB,seval,bP,x5.1,x5.2,w5,BN _ _ _ hCz,hu,hul,hc1]|refine rd0 rfl ?_))
           ((first|refine aD (d3) rfl dd ?_|refine aG (d3) rfl dd ?_);(repeat (first|simp only[↓QA,QB,seval,bP]|refine rd0 rfl ?_)))
           ((first|refine aD (hpo) rfl dd ?_|refine aG (hpo) rfl dd ?_);(repeat (first|simp only[↓QA,QB,seval,bP,wzw]|refine rd0 rfl ?_)))
           cases c1:decide (v.full<=z)<;>cases c2:decide (z+W<=v.ripe)<;>rcases q3 with rfl|rfl|rfl
           all_goals first
            |(exfalso;simp only[decide_eq_true_eq,decide_eq_false_iff_not] at c1 c2;have:=hr1 rfl;omega)
            |(exfalso;simp only[decide_eq_true_eq,decide_eq_false_iff_not] at c1 c2;have:=hr2 rfl;omega)
            |skip
           all_goals
            have c3:decide (z>=v.full)=decide (v.full<=z):=rfl
            (repeat (first|simp only[↓QA,QB,seval,bP,c3,c1,c2,z1,z2,z3,z4,z5,z6,wzw]|refine rd0 rfl ?_))
            refine aD awake_ok rfl a9 ?_
            (repeat (first|simp only[↓QA,QB,seval,bP]|refine rd0 rfl ?_))
            refine aD Tr.awake_ok rfl a9 ?_
            (repeat (first|simp only[↓QA,QB,seval,bP]|refine rd0 rfl ?_))
  ·have g2:((Tr.check n).2.2==0)=false:=by simpa using hd
   (repeat (first|simp only[↓QA,QB,seval,bP,g1,g2]|refine rd0 rfl ?_))
   refine aD awake_ok rfl a9 ?_
   (repeat (first|simp only[↓QA,QB,seval,bP]|refine rd0 rfl ?_))
   refine aD Tr.awake_ok rfl a9 ?_
   (repeat (first|simp only[↓QA,QB,seval,bP]|refine rd0 rfl ?_))
 ·have g1:((check v).2.2==0)=false:=by simpa using hc
  (repeat (first|simp only[↓QA,QB,seval,bP,g1]|refine rd0 rfl ?_))
  refine aD awake_ok rfl a9 ?_
  (repeat (first|simp only[↓QA,QB,seval,bP]|refine rd0 rfl ?_))
  refine aD Tr.awake_ok rfl a9 ?_
  (repeat (first|simp only[↓QA,QB,seval,bP]|refine rd0 rfl ?_))
end Go.Am.Room.Fa
