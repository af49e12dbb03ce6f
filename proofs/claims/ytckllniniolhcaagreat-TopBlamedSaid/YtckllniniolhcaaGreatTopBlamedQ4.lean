/- A part of the proof of TopBlamed: an abstract machine, or what functions come to on it. -/
import Derived.Test.YtckllniniolhcaaGreatTopBlamedQ3
open Nat (reduceLT reduceEqDiff reduceAdd reduceLeDiff reduceMul)
set_option linter.unusedVariables false
set_option linter.unusedSimpArgs false
set_option linter.defProp false
namespace Go.Am.Room.Do
structure Kp where
 name:ByteArray
 frm:Int
structure Door where
 hour:Int
 sure:Bool
structure Look where
 lot:Int
 hour:Int
 turned:Bool
structure Voy where
 hours:Int
 delay:Span
 keepers:List Kp
 doors:List Door
 lots:Int
 looks:List Look
def encKp(k:Kp):AV:=.agg [.str k.name,.int .i64 k.frm]
theorem gI(k:Kp):encKp k = .agg [.str k.name,.int .i64 k.frm]:=by simp only[encKp]
theorem data_kp(k:Kp):jU (encKp k):=gE (aD (xG _) (aD (aR _ _) cL))
instance (k:Kp):Dat (encKp k):=⟨data_kp k⟩
def encDoor(d:Door):AV:=.agg [.int .i64 d.hour,.bool d.sure]
theorem cZ(d:Door):encDoor d = .agg [.int .i64 d.hour,.bool d.sure]:=by simp only[encDoor]
theorem data_door(d:Door):jU (encDoor d):=gE (aD (aR _ _) (aD (uL _) cL))
instance (d:Door):Dat (encDoor d):=⟨data_door d⟩
def encLook(x:Look):AV:=.agg [.int .i64 x.lot,.int .i64 x.hour,.bool x.turned]
theorem cX(x:Look):encLook x = .agg [.int .i64 x.lot,.int .i64 x.hour,.bool x.turned]:=by simp only[encLook]
theorem data_look(x:Look):jU (encLook x):=gE (aD (aR _ _) (aD (aR _ _) (aD (uL _) cL)))
instance (x:Look):Dat (encLook x):=⟨data_look x⟩
instance (l:List Kp):Dats (l.map encKp):=⟨cV data_kp l⟩
instance (l:List Door):Dats (l.map encDoor):=⟨cV data_door l⟩
instance (l:List Look):Dats (l.map encLook):=⟨cV data_look l⟩
def voyCells(v:Voy):List AV:=[.int .i64 v.hours,.int .i64 v.delay.lo,.int .i64 v.delay.hi,.lit (v.keepers.map encKp) false none,.lit (v.doors.map encDoor) false none,.int .i64 v.lots,.lit (v.looks.map encLook) false none]
theorem cW(v:Voy):voyCells v=[.int .i64 v.hours,.int .i64 v.delay.lo,.int .i64 v.delay.hi,.lit (v.keepers.map encKp) false none,.lit (v.doors.map encDoor) false none,.int .i64 v.lots,.lit (v.looks.map encLook) false none]:=by simp only[voyCells]
def gY(v:Voy):AV:=.agg (voyCells v)
theorem encVoy_eq(v:Voy):gY v = .agg (voyCells v):=by simp only[gY]
theorem aAA(v:Voy):jU (gY v):=gE (aD (aR _ _) (aD (aR _ _) (aD (aR _ _) (aD (dP data_kp _) (aD (dP data_door _) (aD (aR _ _) (aD (dP data_look _) cL)))))))
instance (v:Voy):Dat (gY v):=⟨aAA v⟩
theorem gU(σ:St)(m d:Nat)(l:List Kp):cB σ m d (l.map encKp)=some (l.map encKp):=iG (cV data_kp l) σ m d
theorem dL(σ:St)(m d:Nat)(l:List Door):cB σ m d (l.map encDoor)=some (l.map encDoor):=iG (cV data_door l) σ m d
theorem S_mapLook(σ:St)(m d:Nat)(l:List Look):cB σ m d (l.map encLook)=some (l.map encLook):=iG (cV data_look l) σ m d
structure Fits (v:Voy):Prop where
 keepers:v.keepers.length<9223372036854775808
 doors:v.doors.length<9223372036854775808
 looks:v.looks.length<9223372036854775808
 names:∀ k∈v.keepers,k.name.size<9223372036854775808
def frmAt(v:Voy)(i:Nat):Int:=match v.keepers[i]? with|some k=>k.frm|none=>0
def kpErr2(v:Voy)(i:Nat):Int:=if inR (frmAt v i) 0 v.hours=false then 7 else if (i=0/\frmAt v i≠0)\/(0<i/\frmAt v i<=frmAt v (i-1)) then 2 else 0
def u3(v:Voy)(i:Nat)(k:Kp):Int:=if fresh k.name ((v.keepers.take i).map Kp.name)=0 then kpErr2 v i else fresh k.name ((v.keepers.take i).map Kp.name)
def wJ(v:Voy)(_:Nat)(d:Door):Int:=if inR d.hour 0 v.hours then 0 else 7
def u6(v:Voy)(_:Nat)(x:Look):Int:=if inR x.lot 0 (v.lots-1)=false then 4 else if inR x.hour 0 v.hours then 0 else 7
def fU(v:Voy):Int×Int×Int:=if 5<v.looks.length then (4,0,3) else match aK (u6 v) v.looks 0 with|some (i,e)=>(4,i,e)|none=>(0,0,0)
def fQ(v:Voy):Int×Int×Int:=if 4<v.doors.length then (3,0,3) else match aK (wJ v) v.doors 0 with|some (i,e)=>(3,i,e)|none=>fU v
def fV(v:Voy):Int×Int×Int:=if inR v.keepers.length 1 5=false then (2,0,3) else match aK (u3 v) v.keepers 0 with|some (i,e)=>(2,i,e)|none=>fQ v
def check(v:Voy):Int×Int×Int:=if inR v.hours 1 24=false\/oT v.delay 0 8=7\/inR v.lots 1 3=false then (1,0,7) else if oT v.delay 0 8=0 then fV v else (1,0,oT v.delay 0 8)
def grow(d:Door)(n:Nat)(l:List Int):List (List Int):=(if d.sure then [] else [l])++[l++[(n:Int)]]
def setsUp(v:Voy):Nat->List (List Int)
 |0=>[[]]
 |n+1=>match v.doors[n]? with|some d=>(setsUp v n).flatMap (grow d n)|none=>setsUp v n
def setsOf(v:Voy):List (List Int):=setsUp v v.doors.length
structure Tn where
 hour:Int
 door:Int
 deriving DecidableEq
def doorHour(v:Voy)(d:Int):Int:=match v.doors[d.toNat]? with|some x=>x.hour|none=>0
def dS(v:Voy)(d:Int):List Tn:=(aM v.delay.lo (v.delay.hi+1-v.delay.lo).toNat).filterMap fun n=>if inR (doorHour v d+n) 0 v.hours then some ⟨doorHour v d+n,d⟩ else none
def n7(v:Voy)(op:List Int):List Tn:=⟨-1,-1⟩::op.flatMap (dS v)
def soAt(x:Look)(at_:Int):Bool:=x.turned==(decide (at_≠-1)&&decide (at_<=x.hour))
def lookOk(lot:Int)(but:List Int)(t:Tn)(k:Nat)(x:Look):Bool:=!decide (x.lot=lot)||but.contains (k:Int)||soAt x t.hour
def turnOk(v:Voy)(lot:Int)(but:List Int)(t:Tn):Bool:=(List.range v.looks.length).all fun k=>match v.looks[k]? with|some x=>lookOk lot but t k x|none=>true
def turnsOf(v:Voy)(lot:Int)(op but:List Int):List Tn:=(n7 v op).filter (turnOk v lot but)
structure Truth where
 op:List Int
 turns:List (List Tn)
def AX(v:Voy)(but op:List Int):Option Truth :=
 let l:=(List.range v.lots.toNat).map fun (n:Nat)=>turnsOf v (n:Int) op but
 if l.all (fun x=>!x.isEmpty) then some ⟨op,l⟩ else none
def truths(v:Voy)(but:List Int):List Truth:=(setsOf v).filterMap (AX v but)
def someB(v:Voy)(but:List Int):Bool:=!(truths v but).isEmpty
def errAsk(v:Voy)(n:Int):Int:=if (check v).2.2=0 then (if inR n 0 (v.lots-1) then 0 else 4) else (check v).2.2
def errKnown(v:Voy)(e:Int):Int:=if e=0 then (if (truths v []).isEmpty then 8 else 0) else e
def jA(v:Voy):Int:=errKnown v (check v).2.2
def lotErr(v:Voy)(n:Int):Int:=errKnown v (errAsk v n)
def turnsIn(l:List Truth)(n:Nat):List Tn:=l.flatMap fun t=>(t.turns[n]?).getD []
def hoursIn(l:List Truth)(n:Nat):List Int:=((turnsIn l n).map Tn.hour).filter fun h=>decide (h≠-1)
def turnedOf(v:Voy)(n:Int):Span×Int×Int :=
 if lotErr v n=0 then (eE (hoursIn (truths v []) n.toNat),fG (hoursIn (truths v []) n.toNat).length (turnsIn (truths v []) n.toNat).length,0) else (⟨0,0⟩,0,lotErr v n)
def F2(l:List Truth)(n:Nat)(d:Int):Bool:=(turnsIn l n).any fun t=>decide (t.door=d)
def causesIn(v:Voy)(l:List Truth)(n:Nat):List Int:=(aM 0 v.doors.length).filter (F2 l n)
def oJ(v:Voy)(n:Int):List Int×Int:=if lotErr v n=0 then (causesIn v (truths v []) n.toNat,0) else ([],lotErr v n)
def keeperFrom(v:Voy)(at_:Int):Nat->Int
 |0=>0
 |k+1=>if frmAt v k<=at_ then k else keeperFrom v at_ k
def keeperAt(v:Voy)(at_:Int):Int:=keeperFrom v at_ v.keepers.length
def whoseIn(v:Voy)(ds:List Int):List Int:=(aM 0 v.keepers.length).filter fun k=>ds.any fun d=>decide (keeperAt v (doorHour v d)=k)
def whoseOf(v:Voy)(n:Int):List Int×Int:=if lotErr v n=0 then (whoseIn v (causesIn v (truths v []) n.toNat),0) else ([],lotErr v n)
def MS(l:List Truth)(d:Int):Bool:=l.all fun t=>t.op.contains d
def VT(l:List Truth)(d:Int):Bool:=l.any fun t=>t.op.contains d
def n5(v:Voy):List Int×List Int×Int :=
 if jA v=0 then ((aM 0 v.doors.length).filter (MS (truths v [])),(aM 0 v.doors.length).filter (VT (truths v [])),0) else ([],[],jA v)
def pX(v:Voy)(d:Int):Bool:=match v.doors[d.toNat]? with|some x=>x.sure|none=>false
def yU(v:Voy)(ds:List Int):List Int:=ds.filter fun d=>!pX v d
def aG6(a b:List Int):List Int:=if dY b a then b else a
def A6(v:Voy):List Truth->List Int
 |[]=>[]
 |t::l=>(l.map fun u=>yU v u.op).foldl aG6 (yU v t.op)
def qN(v:Voy):List Int×Int:=if jA v=0 then (A6 v (truths v []),0) else ([],jA v)
def VK(l:List Truth)(n:Nat)(at_:Int):Bool:=(turnsIn l n).any fun t=>decide (t.hour=at_)
def vA(v:Voy)(l:List Truth)(n:Nat):List Int:=(aM (-1) (v.hours+2).toNat).filter (VK l n)
def fW(hs:List Int)(at_:Int):Int:=max ((hs.filter fun h=>decide (h≠-1)&&decide (h<=at_)).length:Int) ((hs.length:Int)-((hs.filter fun h=>decide (h≠-1)&&decide (h<=at_)).length:Int))
def dF(hs:List Int):Nat->Int
 |0=>0
 |k+1=>if fW hs ((k:Int)+1)<fW hs (dF hs k) then (k:Int)+1 else dF hs k
def tW(v:Voy)(hs:List Int):Int×Int×Int:=if hs.length=1 then (0,0,9) else (dF hs v.hours.toNat,fW hs (dF hs v.hours.toNat),0)
def rQ(v:Voy)(n:Int):Int×Int×Int:=if lotErr v n=0 then tW v (vA v (truths v []) n.toNat) else (0,0,lotErr v n)
def wrongL(v:Voy):List Int:=(eF (someB v) v.looks.length v.looks.length 0).getD (((dB v.looks.length v.looks.length)[0]?).getD [])
def wrongOf(v:Voy):List Int×Int:=if (check v).2.2=0 then (wrongL v,0) else ([],(check v).2.2)
def WE:ByteArray:=⟨#[116,114,97,109]⟩
def ZO:ByteArray:=⟨#[115,104,105,112]⟩
def O8:ByteArray:=⟨#[116,114,97,105,110]⟩
def exV(l:List Look):Voy:=⟨12,⟨2,4⟩,[⟨WE,0⟩,⟨ZO,4⟩,⟨O8,9⟩],[⟨2,true⟩,⟨5,false⟩,⟨9,true⟩],1,l⟩
def exL:Voy:=exV [⟨0,6,false⟩,⟨0,10,true⟩]
def exW:Voy:=exV [⟨0,6,false⟩,⟨0,10,true⟩,⟨0,3,true⟩]
def exN:Voy:=exV [⟨0,12,false⟩]
theorem x1:turnedOf (exV []) 0=(⟨4,12⟩,0,0):=by decide +kernel
theorem x2:turnedOf exL 0=(⟨7,9⟩,1,0):=by decide +kernel
theorem x3:oJ exL 0=([1],0):=by decide +kernel
theorem x4:whoseOf exL 0=([1],0):=by decide +kernel
theorem x5:n5 (exV [])=([0,2],[0,1,2],0):=by decide +kernel
theorem x6:qN exL=([1],0):=by decide +kernel
theorem x7:rQ (exV []) 0=(7,5,0):=by decide +kernel
theorem x8:wrongOf exW=([2],0):=by decide +kernel
theorem x9:oJ exW 0=([],8):=by decide +kernel
theorem x10:rQ exN 0=(0,0,9):=by decide +kernel
theorem x11:turnedOf exN 0=(⟨0,0⟩,2,0):=by decide +kernel
theorem y3:n5 exL=([0,1,2],[0,1,2],0):=by decide +kernel
structure Vd (v:Voy):Prop where
 hours:1<=v.hours/\v.hours<=24
 delay:0<=v.delay.lo/\v.delay.lo<=v.delay.hi/\v.delay.hi<=8
 lots:1<=v.lots/\v.lots<=3
 nkp:1<=v.keepers.length/\v.keepers.length<=5
 kp:∀ i (h:i<v.keepers.length),u3 v i v.keepers[i]=0
 ndr:v.doors.length<=4
 dr:∀ d∈v.doors,0<=d.hour/\d.hour<=v.hours
 nlk:v.looks.length<=5
 lk:∀ x∈v.looks,(0<=x.lot/\x.lot<v.lots)/\0<=x.hour/\x.hour<=v.hours
theorem vd_of_check{v:Voy}(h:(check v).2.2=0):Vd v:=by
 unfold check at h;split at h
 ·simp at h
 rename_i c1;split at h
 case isFalse hn=>exact absurd h hn
 rename_i c0;unfold fV at h;split at h
 ·simp at h
 rename_i c2;split at h
 ·rename_i i e he;exact absurd h (eG he)
 rename_i f1;unfold fQ at h;split at h
 ·simp at h
 rename_i c3;split at h
 ·rename_i i e he;exact absurd h (eG he)
 rename_i f2;unfold fU at h;split at h
 ·simp at h
 rename_i c4;split at h
 ·rename_i i e he;exact absurd h (eG he)
 rename_i f3;simp only[not_or,Bool.not_eq_false] at c1 c2;obtain⟨d1,d2,d3⟩:=c1;rw[aZ] at d1 d3 c2;refine⟨d1,y0 c0,d3,by omega,fun i hi=>by simpa using gD f1 i hi,by omega,?_,by omega,?_⟩
 ·intro x hx;obtain⟨k,hk,rfl⟩:=List.getElem_of_mem hx;have:=gD f2 k hk;unfold wJ at this;split at this
  ·rename_i hi;exact aZ.1 hi
  ·omega
 ·intro x hx;obtain⟨k,hk,rfl⟩:=List.getElem_of_mem hx;have:=gD f3 k hk;unfold u6 at this;split at this
  ·omega
  rename_i hi;split at this
  ·rename_i hj;rw[Bool.not_eq_false,aZ] at hi;rw[aZ] at hj;omega
  ·omega
theorem check_of_vd{v:Voy}(h:Vd v):check v=(0,0,0):=by
 have h1:=h.nkp;have h2:=h.ndr;have h3:=h.nlk;have h4:=h.lots;have g1:aK (u3 v) v.keepers 0=none:=wX fun k hk=>by simpa using h.kp k hk
 have g2:aK (wJ v) v.doors 0=none:=i9 fun d hd k=>by simp[wJ,aZ.2 (h.dr d hd)]
 have g3:aK (u6 v) v.looks 0=none:=i9 fun x hx k=>by
  have:=h.lk x hx;have a:inR x.lot 0 (v.lots-1)=true:=aZ.2 (by omega);simp[u6,a,aZ.2 this.2]
 have e4:fU v=(0,0,0):=by rw[fU,if_neg (by omega),g3]
 have e3:fQ v=(0,0,0):=by rw[fQ,if_neg (by omega),g2];exact e4
 have e2:fV v=(0,0,0):=by rw[fV,if_neg (by simp[aZ.2 (show (1:Int)<=v.keepers.length/\(v.keepers.length:Int)<=5 by omega)]),g1];exact e3
 have e0:oT v.delay 0 8=0:=Q8 h.delay;rw[check,if_neg (by simp[aZ.2 h.hours,aZ.2 h4,e0]),if_pos e0];exact e2
theorem zC{v:Voy}(h:Vd v){i:Nat}(hi:i<v.keepers.length):(0<=frmAt v i/\frmAt v i<=v.hours)/\(i=0->frmAt v i=0)/\(0<i->frmAt v (i-1)<frmAt v i):=by
 have:=h.kp i hi;unfold u3 at this;split at this
 ·unfold kpErr2 at this;split at this
  ·omega
  ·rename_i h1;split at this
   ·omega
   ·rename_i h2;rw[Bool.not_eq_false,aZ] at h1;refine⟨h1,fun e=>?_,fun e=>?_⟩
    ·by_cases h3:frmAt v i=0
     ·exact h3
     ·exact absurd (.inl ⟨e,h3⟩) h2
    ·by_cases h3:frmAt v i<=frmAt v (i-1)
     ·exact absurd (.inr ⟨e,h3⟩) h2
     ·omega
 ·rename_i h0;exact absurd this h0
end Go.Am.Room.Do
namespace Go.Am.Room
theorem BO:∀ (l:List Int) (s:Span),s.lo<=s.hi->(l.foldl mT s).lo<=s.lo/\s.hi<=(l.foldl mT s).hi/\(∀ x∈l,(l.foldl mT s).lo<=x/\x<=(l.foldl mT s).hi)/\((l.foldl mT s).lo=s.lo\/(l.foldl mT s).lo∈l)/\((l.foldl mT s).hi=s.hi\/(l.foldl mT s).hi∈l)
 |[],s,h=>⟨Int.le_refl _,Int.le_refl _,fun x hx=>by simp at hx,.inl rfl,.inl rfl⟩
 |y::l,s,h=>by
  have hj:(mT s y).lo<=(mT s y).hi:=by simp only[mT];omega
  obtain⟨a,b,c,d,e⟩:=BO l (mT s y) hj;simp only[List.foldl_cons];have h1:(mT s y).lo<=s.lo/\(mT s y).lo<=y/\((mT s y).lo=s.lo\/(mT s y).lo=y):=by simp only[mT];omega
  have h2:s.hi<=(mT s y).hi/\y<=(mT s y).hi/\((mT s y).hi=s.hi\/(mT s y).hi=y):=by simp only[mT];omega
  refine⟨by omega,by omega,fun x hx=>?_,?_,?_⟩
  ·rcases List.mem_cons.1 hx with rfl|hx
   ·omega
   ·exact c x hx
  ·rcases d with d|d
   ·rcases h1.2.2 with h|h
    ·left;omega
    ·right;rw[d,h];simp
   ·right;simp[d]
  ·rcases e with e|e
   ·rcases h2.2.2 with h|h
    ·left;omega
    ·right;rw[e,h];simp
   ·right;simp[e]
theorem vQ{l:List Int}(h:l≠[]):(eE l).lo∈l/\(eE l).hi∈l/\∀ x∈l,(eE l).lo<=x/\x<=(eE l).hi:=by
 cases l with
 |nil=>exact absurd rfl h
 |cons x l =>
  obtain⟨a,b,c,d,e⟩:=BO l ⟨x,x⟩ (Int.le_refl _);simp only[eE];refine⟨?_,?_,fun y hy=>?_⟩
  ·rcases d with d|d
   ·rw[d];simp
   ·simp[d]
  ·rcases e with e|e
   ·rw[e];simp
   ·simp[e]
  ·rcases List.mem_cons.1 hy with rfl|hy
   ·exact⟨a,b⟩
   ·exact c y hy
theorem BL{α:Type}{p:α->Bool}{l:List α}:(l.filter p).length=l.length↔∀ x∈l,p x=true:=by
 rw[List.length_filter_eq_length_iff]
theorem IQ{α:Type}{p:α->Bool}{l:List α}:fG (l.filter p).length l.length=1↔∀ x∈l,p x=true:=by
 rw[<-BL];unfold fG;split
 ·rename_i h;simp[h]
 ·rename_i h;split
  ·simp[h]
  ·simp[h]
theorem IF{α:Type}{p:α->Bool}{l:List α}:fG (l.filter p).length l.length=2↔l≠[]/\∀ x∈l,p x=false:=by
 unfold fG;split
 ·rename_i h;simp only[show ¬(1:Int)=2 by omega,false_iff];rintro⟨h1,h2⟩;rw[BL] at h;cases l with
  |nil=>exact h1 rfl
  |cons x l =>
   have a:=h x (by simp);have b:=h2 x (by simp);rw[a] at b;cases b
 ·rename_i h;split
  ·rename_i h0;simp only[true_iff];refine⟨fun e=>?_,fun x hx=>?_⟩
   ·subst e;simp at h
   ·have:=List.eq_nil_of_length_eq_zero h0;rw[List.filter_eq_nil_iff] at this;simpa using this x hx
  ·rename_i h0;simp only[show ¬(0:Int)=2 by omega,false_iff];rintro⟨h1,h2⟩;apply h0;rw[List.length_eq_zero_iff,List.filter_eq_nil_iff];intro x hx;simp[h2 x hx]
theorem vB(a b:Nat):fG a b=0\/fG a b=1\/fG a b=2:=by
 unfold fG;split
 ·simp
 ·split<;>simp
end Go.Am.Room
namespace Go.Am.Room.Do
theorem mem_truths{v:Voy}{but:List Int}{t:Truth}:t∈truths v but↔t.op∈setsOf v/\t.turns=(List.range v.lots.toNat).map (fun (n:Nat)=>turnsOf v (n:Int) t.op but)/\∀ n:Nat,n<v.lots.toNat->turnsOf v (n:Int) t.op but≠[]:=by
 simp only[truths,List.mem_filterMap,AX];constructor
 ·rintro⟨bl,hbl,h⟩;split at h
  ·rename_i ha;cases h;refine⟨hbl,rfl,fun n hn=>?_⟩;have:=List.all_eq_true.1 ha (turnsOf v (n:Int) bl but) (List.mem_map.2 ⟨n,List.mem_range.2 hn,rfl⟩);simpa using this
  ·cases h
 ·rintro⟨h1,h2,h3⟩;refine⟨t.op,h1,?_⟩;rw[if_pos]
  ·rw[<-h2]
  ·rw[List.all_eq_true];intro x hx;obtain⟨n,hn,rfl⟩:=List.mem_map.1 hx;have:=h3 n (List.mem_range.1 hn);simpa using this
theorem LF{v:Voy}{but:List Int}{t:Truth}(ht:t∈truths v but){n:Nat}(hn:n<v.lots.toNat):(t.turns[n]?).getD []=turnsOf v (n:Int) t.op but:=by
 rw[(mem_truths.1 ht).2.1];simp[hn]
theorem mem_turnsIn{v:Voy}{but:List Int}{n:Nat}(hn:n<v.lots.toNat){w:Tn}:w∈turnsIn (truths v but) n↔∃ t∈truths v but,w∈turnsOf v (n:Int) t.op but:=by
 simp only[turnsIn,List.mem_flatMap];exact⟨fun ⟨t,ht,h⟩=>⟨t,ht,by rwa [LF ht hn] at h⟩,fun ⟨t,ht,h⟩=>⟨t,ht,by rwa [LF ht hn]⟩⟩
theorem some_iffT{v:Voy}{but:List Int}:someB v but=true↔∃ t,t∈truths v but:=by
 simp only[someB,Bool.not_eq_true',List.isEmpty_eq_false_iff];exact⟨fun h=>List.exists_mem_of_ne_nil _ h,fun ⟨t,ht⟩=>List.ne_nil_of_mem ht⟩
theorem turns_ne{v:Voy}{but:List Int}(h:someB v but=true){n:Nat}(hn:n<v.lots.toNat):turnsIn (truths v but) n≠[]:=by
 obtain⟨t,ht⟩:=some_iffT.1 h;obtain⟨w,hw⟩:=List.exists_mem_of_ne_nil _ ((mem_truths.1 ht).2.2 n hn);exact List.ne_nil_of_mem ((mem_turnsIn hn).2 ⟨t,ht,hw⟩)
def P5(v:Voy)(n:Nat)(bl:List Int):Prop:=bl=(aM 0 n).filter (fun h=>bl.contains h)/\∀ h (hh:h<v.doors.length),h<n->v.doors[h].sure=true->(h:Int)∈bl
theorem IJ{v:Voy}{n:Nat}{bl:List Int}(h:P5 v n bl){x:Int}(hx:x∈bl):0<=x/\x<n:=by
 rw[h.1] at hx;have hx:=(List.mem_filter.1 hx).1;have:=(bC _ _ _).1 hx;omega
theorem vW{v:Voy}:∀ {n:Nat} {bl:List Int},n<=v.doors.length->(bl∈setsUp v n↔P5 v n bl)
 |0,bl,_=>by
  simp only[setsUp,List.mem_singleton,P5,aM,List.filter_nil];exact⟨fun h=>⟨h,fun h _ hh=>absurd hh (by omega)⟩,fun h=>h.1⟩
 |n+1,bl,hn=>by
  have hlt:n<v.doors.length:=by omega
  simp only[setsUp,List.getElem?_eq_getElem hlt,List.mem_flatMap];constructor
  ·rintro⟨l,hl,hg⟩;have ih:=(vW (by omega)).1 hl;have hnl:¬(n:Int)∈l:=fun hx=>by have:=IJ ih hx;omega
   simp only[grow,List.mem_append] at hg;rcases hg with hg|hg
   ·split at hg
    ·simp at hg
    ·rename_i hd;simp at hg;subst hg;refine⟨?_,fun h hh h1=>?_⟩
     ·rw[jR,List.filter_append];have:List.filter (fun h=>bl.contains h) [(0:Int)+n]=[]:=by simp;exact hnl
      rw[this,List.append_nil];exact ih.1
     ·by_cases he:h=n
      ·subst he;exact fun h2=>absurd h2 hd
      ·exact ih.2 h hh (by omega)
   ·simp at hg;subst hg;refine⟨?_,fun h hh h1=>?_⟩
    ·rw[jR,List.filter_append];have:List.filter (fun h=>(l++[(n:Int)]).contains h) [(0:Int)+n]=[(n:Int)]:=by simp
     rw[this,EC (l:=l) (fun x h1 h2=>by simp;omega),<-ih.1]
    ·by_cases he:h=n
     ·subst he;exact fun _=>by simp
     ·have:=ih.2 h hh (by omega);have hne:(h:Int)≠n:=by omega
      simpa[hne] using this
  ·intro h;have hd:=h.2 n hlt (by omega);refine⟨(aM 0 n).filter (fun x=>bl.contains x),(vW (by omega)).2 ⟨?_,fun k hk hkn h1=>?_⟩,?_⟩
   ·refine (EC fun x h1 h2=>?_).symm;simp only[List.mem_filter,bC,List.contains_iff_mem];exact⟨fun h=>h.2,fun h=>⟨by omega,h⟩⟩
   ·have:=h.2 k hk (by omega) h1;simp only[List.mem_filter,bC,List.contains_iff_mem];exact⟨by omega,this⟩
   ·have e:=h.1;rw[jR,List.filter_append] at e;simp only[grow,List.mem_append];by_cases hb:(n:Int)∈bl
    ·right;rw[List.mem_singleton];have:List.filter (fun h=>bl.contains h) [(0:Int)+n]=[(n:Int)]:=by simp[hb]
     rw[this] at e;exact e
    ·left;rw[if_neg (fun h0=>hb (hd h0)),List.mem_singleton];have:List.filter (fun h=>bl.contains h) [(0:Int)+n]=[]:=by simp[hb]
     rw[this,List.append_nil] at e;exact e
theorem I5{v:Voy}{bl:List Int}:bl∈setsOf v↔P5 v v.doors.length bl:=vW (Nat.le_refl _)
def BX(v:Voy):List Int:=(aM 0 v.doors.length).filter (pX v)
theorem EU{v:Voy}{h:Nat}(hh:h<v.doors.length):pX v (h:Int)=v.doors[h].sure:=by simp[pX,hh]
theorem OF(v:Voy):BX v∈setsOf v:=by
 refine I5.2 ⟨?_,fun h hh _ hs=>?_⟩
 ·unfold BX;refine List.filter_congr fun x hx=>?_
  rw[Bool.eq_iff_iff,List.contains_iff_mem,List.mem_filter];exact⟨fun h=>⟨hx,h⟩,fun h=>h.2⟩
 ·rw[BX,List.mem_filter,bC,EU hh];exact⟨by omega,hs⟩
theorem mem_ways{v:Voy}{d:Int}{w:Tn}:w∈dS v d↔w.door=d/\(v.delay.lo<=w.hour-doorHour v d/\w.hour-doorHour v d<=v.delay.hi)/\0<=w.hour/\w.hour<=v.hours:=by
 simp only[dS,List.mem_filterMap,bC];constructor
 ·rintro⟨n,hn,h⟩;split at h
  ·rename_i hr;rw[aZ] at hr;cases h;refine⟨rfl,?_,hr⟩;simp only;omega
  ·cases h
 ·rintro⟨h1,h2,h3⟩;refine⟨w.hour-doorHour v d,by omega,?_⟩;rw[show doorHour v d+(w.hour-doorHour v d)=w.hour by omega,if_pos (aZ.2 h3)];cases w;simp only at h1;rw[h1]
theorem mem_all{v:Voy}{op:List Int}{w:Tn}:w∈n7 v op↔w=⟨-1,-1⟩\/∃ d∈op,w∈dS v d:=by
 simp only[n7,List.mem_cons,List.mem_flatMap]
theorem turn_iff{v:Voy}{lot:Int}{but:List Int}{w:Tn}:turnOk v lot but w=true↔∀ k (hk:k<v.looks.length),lookOk lot but w k v.looks[k]=true:=by
 simp only[turnOk,List.all_eq_true,List.mem_range];constructor
 ·intro h1 i hi;have:=h1 i hi
  rwa [List.getElem?_eq_getElem hi] at this
 ·intro h1 i hi;rw[List.getElem?_eq_getElem hi];exact h1 i hi
theorem mem_turns{v:Voy}{lot:Int}{op but:List Int}{w:Tn}:w∈turnsOf v lot op but↔w∈n7 v op/\turnOk v lot but w=true:=List.mem_filter
theorem RX{v:Voy}{n:Nat}{but op:List Int}(hs:op∈setsOf v){w:Tn}(h:w∈turnsOf v (n:Int) op but):w=⟨-1,-1⟩\/(0<=w.hour/\w.hour<=v.hours/\0<=w.door/\w.door<v.doors.length/\w.door∈op):=by
 rcases mem_all.1 (mem_turns.1 h).1 with e|⟨d,hd,hw⟩
 ·exact .inl e
 ·have a:=mem_ways.1 hw;have b:=IJ (I5.1 hs) hd;refine .inr ⟨a.2.2.1,a.2.2.2,by omega,by omega,by rw[a.1];exact hd⟩
theorem never_turns{v:Voy}{lot:Int}{op but:List Int}(h:turnOk v lot but ⟨-1,-1⟩=true):(⟨-1,-1⟩:Tn)∈turnsOf v lot op but:=mem_turns.2 ⟨by simp[n7],h⟩
theorem S6{v:Voy}{but:List Int}(hl:∀ (lot:Int),turnOk v lot but ⟨-1,-1⟩=true):someB v but=true:=by
 refine some_iffT.2 ⟨⟨BX v,(List.range v.lots.toNat).map fun (n:Nat)=>turnsOf v (n:Int) (BX v) but⟩,mem_truths.2 ⟨OF v,rfl,fun n hn=>?_⟩⟩;exact List.ne_nil_of_mem (never_turns (hl n))
theorem TN{v:Voy}(hv:Vd v):∀ c∈dB v.looks.length v.looks.length,someB v c=true:=fun c hc=>by
 have hl:=hv.nlk;refine S6 fun lot=>turn_iff.2 fun i hi=>?_
 have:=F7 ⟨v.looks.length,by omega⟩ c hc ⟨i,by omega⟩ hi;simp only[lookOk];rw[this];simp
theorem sR(f:List Int->Bool)(n:Nat):∀ k m,eF f n (k+1) m=(eF f n k m).or ((dB n (m+k)).find? f)
 |0,m=>by simp only[eF,Nat.add_zero];cases (dB n m).find? f<;>rfl
 |k+1,m=>by
  rw[eF,sR f n k (m+1)];rw[show eF f n (k+1) m=(match (dB n m).find? f with|some l=>some l|none=>eF f n k (m+1)) from rfl];rw[show m+1+k=m+(k+1) by omega];cases (dB n m).find? f<;>rfl
theorem zT{v:Voy}(hv:Vd v):eF (someB v) v.looks.length (v.looks.length+1) 0=some (wrongL v):=by
 have hl:=hv.nlk;have h1:=K3 ⟨v.looks.length,by omega⟩;simp only at h1;obtain⟨w,hw⟩:=List.length_eq_one_iff.1 h1;have hs:=TN hv w (by rw[hw];simp);rw[sR,wrongL,Nat.zero_add,hw];cases eF (someB v) v.looks.length v.looks.length 0 with
 |some l=>rfl
 |none=>simp[hs]
theorem R4{v:Voy}(hv:Vd v):wrongL v∈dB v.looks.length (wrongL v).length/\someB v (wrongL v)=true/\∀ m,∀ c∈dB v.looks.length m,someB v c=true->dY c (wrongL v)=false:=by
 have hl:=hv.nlk;exact (n9 (someB v) v.looks.length (by omega) _ 0 (fun m' h=>by omega)).1 _ (zT hv)
theorem LQ(n:Nat):[]∈dB n 0:=by simp[dB]
theorem wrong_nil{v:Voy}(hv:Vd v)(hs:someB v []=true):wrongL v=[]:=by
 obtain⟨a,b,c⟩:=R4 hv;have:=c 0 [] (LQ _) hs;cases h:wrongL v with
 |nil=>rfl
 |cons x l=>rw[h] at this;simp[dY] at this
def mor(v:Voy)(x:Look):Voy:={ v with looks:=v.looks++[x] }
theorem XW(v:Voy)(x:Look):∀ n,setsUp (mor v x) n=setsUp v n
 |0=>rfl
 |n+1=>by simp only[setsUp,XW v x n]<;>rfl
theorem JF(v:Voy)(x:Look):setsOf (mor v x)=setsOf v:=XW v x _
theorem aFO(v:Voy)(x:Look)(op:List Int):n7 (mor v x) op=n7 v op:=rfl
theorem aMB{v:Voy}{x:Look}{lot:Int}{w:Tn}:turnOk (mor v x) lot [] w=true↔turnOk v lot [] w=true/\(x.lot=lot->soAt x w.hour=true):=by
 rw[turn_iff,turn_iff];constructor
 ·intro h;refine⟨fun k hk=>?_,fun e=>?_⟩
  ·have h1:=h k (by simp[mor];omega);have e1:(mor v x).looks[k]'(by simp[mor];omega)=v.looks[k]:=by simp only[mor];exact List.getElem_append_left hk
   rw[e1] at h1;exact h1
  ·have h1:=h v.looks.length (by simp[mor]);have e1:(mor v x).looks[v.looks.length]'(by simp[mor])=x:=by simp[mor]
   rw[e1] at h1;simpa[lookOk,e] using h1
 ·rintro⟨h1,h2⟩ k hk;by_cases h:k<v.looks.length
  ·have e1:(mor v x).looks[k]=v.looks[k]:=by simp only[mor];exact List.getElem_append_left h
   rw[e1];exact h1 k h
  ·have e0:k=v.looks.length:=by simp[mor] at hk;omega
   subst e0;have e1:(mor v x).looks[v.looks.length]=x:=by simp[mor]
   rw[e1];simp only[lookOk];by_cases e:x.lot=lot
   ·simp[h2 e]
   ·simp[e]
theorem qI{v:Voy}{x:Look}{lot:Int}{op:List Int}{w:Tn}:w∈turnsOf (mor v x) lot op []↔w∈turnsOf v lot op []/\(x.lot=lot->soAt x w.hour=true):=by
 rw[mem_turns,mem_turns,aMB,aFO,and_assoc]
theorem SC{v:Voy}{x:Look}{t:Truth}(h:t∈truths (mor v x) []):∃ u∈truths v [],u.op=t.op:=by
 obtain⟨h1,_,h3⟩:=mem_truths.1 h;rw[JF] at h1;refine⟨⟨t.op,(List.range v.lots.toNat).map fun (n:Nat)=>turnsOf v (n:Int) t.op []⟩,mem_truths.2 ⟨h1,rfl,fun n hn=>?_⟩,rfl⟩;obtain⟨w,hw⟩:=List.exists_mem_of_ne_nil _ (h3 n hn);exact List.ne_nil_of_mem (qI.1 hw).1
theorem ZY{v:Voy}{x:Look}{n:Nat}(hn:n<v.lots.toNat)(hx:x.lot=(n:Int)){w:Tn}:w∈turnsIn (truths (mor v x) []) n↔w∈turnsIn (truths v []) n/\soAt x w.hour=true:=by
 rw[mem_turnsIn (v:=mor v x) hn,mem_turnsIn hn];constructor
 ·rintro⟨t,ht,hw⟩;obtain⟨u,hu,e⟩:=SC ht;have:=qI.1 hw;exact⟨⟨u,hu,by rw[e];exact this.1⟩,this.2 hx⟩
 ·rintro⟨⟨t,ht,hw⟩,hs⟩;obtain⟨h1,_,h3⟩:=mem_truths.1 ht;have key:∀ m:Nat,m<v.lots.toNat->turnsOf (mor v x) (m:Int) t.op []≠[]:=fun m hm=>by
   by_cases e:m=n
   ·subst e;exact List.ne_nil_of_mem (qI.2 ⟨hw,fun _=>hs⟩)
   ·obtain⟨z,hz⟩:=List.exists_mem_of_ne_nil _ (h3 m hm);exact List.ne_nil_of_mem (qI.2 ⟨hz,fun e2=>absurd (hx.symm.trans e2) (by omega)⟩)
  exact⟨⟨t.op,(List.range v.lots.toNat).map fun (m:Nat)=>turnsOf (mor v x) (m:Int) t.op []⟩,mem_truths.2 ⟨by rw[JF];exact h1,rfl,key⟩,qI.2 ⟨hw,fun _=>hs⟩⟩
theorem ZF{v:Voy}{x:Look}{n:Nat}(hn:n<v.lots.toNat)(hx:x.lot=(n:Int)):someB (mor v x) []=true↔∃ w∈turnsIn (truths v []) n,soAt x w.hour=true:=by
 constructor
 ·intro h;obtain⟨w,hw⟩:=List.exists_mem_of_ne_nil _ (turns_ne (v:=mor v x) h (n:=n) hn);exact⟨w,(ZY hn hx).1 hw⟩
 ·rintro⟨w,hw,hs⟩;obtain⟨t,ht,_⟩:=(mem_turnsIn (v:=mor v x) hn).1 ((ZY hn hx).2 ⟨hw,hs⟩);exact some_iffT.2 ⟨t,ht⟩
theorem yH{v:Voy}{but:List Int}{n:Nat}(hn:n<v.lots.toNat){w:Tn}(h:w∈turnsIn (truths v but) n):w=⟨-1,-1⟩\/(0<=w.hour/\w.hour<=v.hours/\0<=w.door/\w.door<v.doors.length):=by
 obtain⟨t,ht,hw⟩:=(mem_turnsIn hn).1 h;rcases RX (mem_truths.1 ht).1 hw with e|e
 ·exact .inl e
 ·exact .inr ⟨e.1,e.2.1,e.2.2.1,e.2.2.2.1⟩
theorem mem_hours{l:List Truth}{n:Nat}{h:Int}:h∈hoursIn l n↔h≠-1/\∃ w∈turnsIn l n,w.hour=h:=by
 simp only[hoursIn,List.mem_filter,List.mem_map,decide_eq_true_eq];exact⟨fun ⟨h1,h2⟩=>⟨h2,h1⟩,fun ⟨h1,h2⟩=>⟨h2,h1⟩⟩
def howIn(l:List Truth)(n:Nat):Int:=fG (hoursIn l n).length (turnsIn l n).length
theorem aC1(l:List Truth)(n:Nat):howIn l n=fG (((turnsIn l n).map Tn.hour).filter fun h=>decide (h≠-1)).length ((turnsIn l n).map Tn.hour).length:=by simp only[howIn,hoursIn,List.length_map]
theorem P4{l:List Truth}{n:Nat}:howIn l n=1↔∀ w∈turnsIn l n,w.hour≠-1:=by
 rw[aC1,IQ];simp
theorem how_two{l:List Truth}{n:Nat}:howIn l n=2↔turnsIn l n≠[]/\∀ w∈turnsIn l n,w.hour = -1:=by
 rw[aC1,IF];simp
theorem T3(l:List Truth)(n:Nat):howIn l n=0\/howIn l n=1\/howIn l n=2:=vB _ _
theorem mem_causes{v:Voy}{l:List Truth}{n:Nat}{d:Int}:d∈causesIn v l n↔(0<=d/\d<v.doors.length)/\∃ w∈turnsIn l n,w.door=d:=by
 simp only[causesIn,List.mem_filter,bC,F2,List.any_eq_true,decide_eq_true_eq];exact⟨fun ⟨h1,h2⟩=>⟨by omega,h2⟩,fun ⟨h1,h2⟩=>⟨by omega,h2⟩⟩
theorem EW{v:Voy}{ds:List Int}{k:Int}:k∈whoseIn v ds↔(0<=k/\k<v.keepers.length)/\∃ d∈ds,keeperAt v (doorHour v d)=k:=by
 simp only[whoseIn,List.mem_filter,bC,List.any_eq_true,decide_eq_true_eq];exact⟨fun ⟨h1,h2⟩=>⟨by omega,h2⟩,fun ⟨h1,h2⟩=>⟨by omega,h2⟩⟩
theorem lW(v:Voy)(a:Int):∀ k,0<=keeperFrom v a k/\(0<k->keeperFrom v a k<k)
 |0=>⟨Int.le_refl _,fun h=>absurd h (by omega)⟩
 |k+1=>by
  have ih:=lW v a k;simp only[keeperFrom];split
  ·omega
  ·refine⟨ih.1,fun _=>?_⟩;by_cases h:0<k
   ·have:=ih.2 h;omega
   ·have:k=0:=by omega
    subst this;simp[keeperFrom]
theorem t7{v:Voy}(hv:Vd v)(a:Int):0<=keeperAt v a/\keeperAt v a<v.keepers.length:=by
 have:=lW v a v.keepers.length;have:=hv.nkp;exact⟨(lW v a _).1,(lW v a _).2 (by omega)⟩
theorem whose_nil{v:Voy}(hv:Vd v)(hs:someB v []=true){n:Nat}(hn:n<v.lots.toNat):whoseIn v (causesIn v (truths v []) n)=[]↔howIn (truths v []) n=2:=by
 rw[how_two,List.eq_nil_iff_forall_not_mem];constructor
 ·intro h;refine⟨turns_ne hs hn,fun w hw=>?_⟩;rcases yH hn hw with e|e
  ·rw[e]
  ·have hc:w.door∈causesIn v (truths v []) n:=mem_causes.2 ⟨⟨e.2.2.1,e.2.2.2⟩,w,hw,rfl⟩;exact absurd (EW.2 ⟨t7 hv _,w.door,hc,rfl⟩) (h _)
 ·rintro⟨_,h⟩ k hk;obtain⟨_,d,hd,_⟩:=EW.1 hk;obtain⟨hd0,w,hw,e⟩:=mem_causes.1 hd;have h1:=h w hw;rcases yH hn hw with e2|e2
  ·rw[e2] at e;simp only at e;omega
  ·omega
theorem R6{n h a:Int}:soAt ⟨n,h,true⟩ a=true↔a≠-1/\a<=h:=by simp[soAt]
def yF(l:List Truth)(n:Nat):Span:=eE (hoursIn l n)
theorem KQ{v:Voy}{n:Nat}(hn:n<v.lots.toNat)(h:howIn (truths v []) n=2)(a:Int):someB (mor v ⟨n,a,true⟩) []=false/\yF (truths v []) n=⟨0,0⟩:=by
 obtain⟨h1,h2⟩:=how_two.1 h;constructor
 ·rw[Bool.eq_false_iff];intro hs;obtain⟨w,hw,h3⟩:=(ZF hn rfl).1 hs;exact (R6.1 h3).1 (h2 w hw)
 ·have:hoursIn (truths v []) n=[]:=by
   rw[List.eq_nil_iff_forall_not_mem];intro x hx;obtain⟨h3,w,hw,e⟩:=mem_hours.1 hx;exact h3 (by rw[<-e];exact h2 w hw)
  rw[yF,this];rfl
theorem some_ne{v:Voy}{but:List Int}(h:someB v but=true):truths v but≠[]:=by
 simpa[someB] using h
end Go.Am.Room.Do
namespace Go.Am.Room
def y5:ByteArray:=⟨#[102,105,114,115,116]⟩
def DS:ByteArray:=⟨#[115,101,99,111,110,100]⟩
def oX(c:Tu.Car)(i:Nat):Int:=fG (Tu.hoursOf c i).length (Tu.hoursAll c i).length
def j7(c:Tu.Car)(i:Nat):List Do.Look:=(c.seen.filter fun s=>decide (s.lot=(i:Int))).map fun s=>⟨0,s.hour,s.turned⟩
def fJ(c:Tu.Car):Int:=max 1 (c.heat.length:Int)
def tT(c:Tu.Car)(i:Nat):List Do.Door:=if oX c i=2 then [] else [⟨0,true⟩]
def bV(c:Tu.Car)(i:Nat)(f:Int):Do.Voy:=⟨fJ c,eE (Tu.hoursOf c i),[⟨y5,0⟩,⟨DS,f⟩],tT c i,1,j7 c i⟩
section
variable {c:Tu.Car} {i:Nat}
theorem aB4(hv:Tu.Vd c)(hi:i<c.lots.length)(hs:Tu.someB c=true):Tu.hoursAll c i≠[]:=by
 have hl:=Tu.lot_hold hv hi;unfold Tu.hoursAll;simp only[Tu.someB,List.all_eq_true,List.mem_range] at hs;have:=hs (Tu.lotHold c i).toNat (by omega);intro h;rw[List.map_eq_nil_iff] at h;rw[h] at this;simp at this
theorem Q2(hv:Tu.Vd c)(hi:i<c.lots.length){t:Int}(ht:t∈Tu.hoursAll c i):0<=t/\t<=Tu.never c/\∀ x∈c.seen,x.lot=(i:Int)->decide (t<=x.hour)=x.turned:=by
 have hl:=Tu.lot_hold hv hi;obtain⟨w,hw,rfl⟩:=List.mem_map.1 ht;refine⟨Tu.time_nn _ _ _ _ _ _,Tu.time_le _ _ _ _ _ _,fun x hx hxi=>?_⟩;have h1:=(List.mem_filter.1 hw).2;rw[show (((Tu.lotHold c i).toNat:Nat):Int)=Tu.lotHold c i by omega] at h1;have h2:=List.all_eq_true.1 h1 x hx;unfold Tu.lookOk at h2;rw[hxi,Int.toNat_natCast] at h2;have h3:Tu.inHold c (Tu.lotHold c i) i=true:=by simp[Tu.inHold,Tu.lotHold,hi]
 rw[h3] at h2;simpa using h2
theorem I6{t:Int}:t∈Tu.hoursOf c i↔t∈Tu.hoursAll c i/\t≠Tu.never c:=by simp[Tu.hoursOf]
theorem aK7(hv:Tu.Vd c)(hi:i<c.lots.length)(hs:Tu.someB c=true):oX c i=2↔Tu.hoursOf c i=[]:=by
 have hne:=aB4 hv hi hs;have h1:0<(Tu.hoursAll c i).length:=List.length_pos_iff.2 hne;unfold oX fG;rw[<-List.length_eq_zero_iff];split
 ·omega
 ·split<;>omega
theorem P3(hv:Tu.Vd c)(hi:i<c.lots.length)(hh:Tu.hoursOf c i≠[]):(eE (Tu.hoursOf c i)).lo∈Tu.hoursOf c i/\(eE (Tu.hoursOf c i)).hi∈Tu.hoursOf c i/\0<=(eE (Tu.hoursOf c i)).lo/\(eE (Tu.hoursOf c i)).lo<=(eE (Tu.hoursOf c i)).hi/\(eE (Tu.hoursOf c i)).hi<=c.heat.length:=by
 obtain⟨h1,h2,h3⟩:=vQ hh;have a:=Q2 hv hi (I6.1 h1).1;have b:=Q2 hv hi (I6.1 h2).1;have d:=(I6.1 h2).2;have e:=h3 _ h1;unfold Tu.never at b d;exact⟨h1,h2,a.1,e.2,by omega⟩
theorem YR(hv:Tu.Vd c)(hi:i<c.lots.length):0<=(eE (Tu.hoursOf c i)).lo/\(eE (Tu.hoursOf c i)).lo<=(eE (Tu.hoursOf c i)).hi/\(eE (Tu.hoursOf c i)).hi<=c.heat.length:=by
 by_cases hh:Tu.hoursOf c i=[]
 ·rw[hh];simp[eE]
 ·exact (P3 hv hi hh).2.2
theorem aHV(hv:Tu.Vd c)(hi:i<c.lots.length){f:Int}(hf:1<=f/\f<=fJ c):Do.Vd (bV c i f) where
 hours:=by have:=hv.nht;simp only[bV,fJ];omega
 delay:=by have:=YR hv hi;have:=hv.nht;simp only[bV];omega
 lots:=by simp[bV]
 nkp:=by simp[bV]
 kp:=by
  intro k hk;have hk2:k=0\/k=1:=by simp[bV] at hk;omega
  have n1:fresh y5 []=0:=by decide +kernel
  have n2:fresh DS [y5]=0:=by decide +kernel
  have hn:=hv.nht;unfold fJ at hf;rcases hk2 with rfl|rfl
  ·have e:Do.kpErr2 (bV c i f) 0=0:=by simp[Do.kpErr2,Do.frmAt,bV,inR,fJ];omega
   show (if fresh y5 []=0 then Do.kpErr2 (bV c i f) 0 else fresh y5 [])=0
   rw[if_pos n1,e]
  ·have e:Do.kpErr2 (bV c i f) 1=0:=by simp[Do.kpErr2,Do.frmAt,bV,inR,fJ];omega
   show (if fresh DS [y5]=0 then Do.kpErr2 (bV c i f) 1 else fresh DS [y5])=0
   rw[if_pos n2,e]
 ndr:=by simp only[bV,tT];split<;>simp
 dr:=by
  intro d hd;simp only[bV,tT] at hd ⊢;split at hd
  ·cases hd
  ·simp at hd;subst hd;simp only[fJ];omega
 nlk:=by
  have:=hv.nsn;have h:=List.length_filter_le (fun s:Tu.Seen=>decide (s.lot=(i:Int))) c.seen;simp only[bV,j7,List.length_map];omega
 lk:=by
  intro x hx;simp only[bV,j7,List.mem_map,List.mem_filter] at hx;obtain⟨s,⟨hs,_⟩,rfl⟩:=hx;have h1:=hv.sn s hs;have h2:=Tu.lot_frm hv s.lot.toNat
  simp only[bV,fJ];omega
theorem aC7(hv:Tu.Vd c)(hi:i<c.lots.length){t:Int}(ht:t∈Tu.hoursOf c i)(f d:Int):Do.turnOk (bV c i f) 0 [] ⟨t,d⟩=true:=by
 obtain⟨h0,h1,h2⟩:=Q2 hv hi (I6.1 ht).1;refine Do.turn_iff.2 fun k hk=>?_
 have hm:=List.getElem_mem hk;simp only[bV,j7,List.mem_map,List.mem_filter] at hm;obtain⟨s,⟨hs,hsi⟩,he⟩:=hm;simp only[decide_eq_true_eq] at hsi;have h3:=h2 s hs hsi;show Do.lookOk 0 [] ⟨t,d⟩ k ((bV c i f).looks[k])=true
 simp only[bV,j7];rw[<-he];have h4:decide (t≠-1)=true:=by simp;omega
 simp only[Do.lookOk,Do.soAt,h4,h3,Bool.true_and,beq_self_eq_true,Bool.or_true]
theorem W6(hv:Tu.Vd c)(hi:i<c.lots.length)(hs:Tu.someB c=true)(hh:Tu.hoursOf c i=[])(f:Int)(d:Int):Do.turnOk (bV c i f) 0 [] ⟨-1,d⟩=true:=by
 obtain⟨t,ht⟩:=List.exists_mem_of_ne_nil _ (aB4 hv hi hs);have hn:t=Tu.never c:=by
  by_cases e:t=Tu.never c
  ·exact e
  ·have:=I6.2 ⟨ht,e⟩;rw[hh] at this;cases this
 obtain⟨h0,h1,h2⟩:=Q2 hv hi ht;refine Do.turn_iff.2 fun k hk=>?_
 have hm:=List.getElem_mem hk;simp only[bV,j7,List.mem_map,List.mem_filter] at hm;obtain⟨s,⟨hs,hsi⟩,he⟩:=hm;simp only[decide_eq_true_eq] at hsi;have h3:=h2 s hs hsi;have h5:=(hv.sn s hs).2.2;have h6:decide (t<=s.hour)=false:=by
  rw[decide_eq_false_iff_not,hn];unfold Tu.never;omega
 rw[h6] at h3;show Do.lookOk 0 [] ⟨-1,d⟩ k ((bV c i f).looks[k])=true
 simp only[bV,j7];rw[<-he];simp[Do.lookOk,Do.soAt,<-h3]
theorem OY(c:Tu.Car)(i:Nat)(f:Int):(0:Nat)<(bV c i f).lots.toNat:=by simp[bV]
theorem BS{f:Int}{op:List Int}(hop:Do.setsOf (bV c i f)=[op]){w:Do.Tn}(hw:w∈Do.turnsOf (bV c i f) 0 op []):Do.someB (bV c i f) []=true/\∀ u,u∈Do.turnsIn (Do.truths (bV c i f) []) 0↔u∈Do.turnsOf (bV c i f) 0 op []:=by
 have ht:(⟨op,(List.range (bV c i f).lots.toNat).map fun (n:Nat)=>Do.turnsOf (bV c i f) (n:Int) op []⟩:Do.Truth)∈Do.truths (bV c i f) []:=by
  refine Do.mem_truths.2 ⟨by rw[hop];simp,rfl,fun n hn=>?_⟩;have:n=0:=by simp[bV] at hn;omega
  subst this;exact List.ne_nil_of_mem hw
 refine⟨Do.some_iffT.2 ⟨_,ht⟩,fun u=>?_⟩;rw[Do.mem_turnsIn (OY c i f)];constructor
 ·rintro⟨t,h1,h2⟩;have:=(Do.mem_truths.1 h1).1;rw[hop] at this;have e:t.op=op:=by simpa using this
  rw[e] at h2;exact h2
 ·intro h;exact⟨_,ht,h⟩
theorem N0{f:Int}(h:oX c i≠2):Do.setsOf (bV c i f)=[[0]]:=by
 have e:tT c i=[⟨0,true⟩]:=if_neg h;simp[Do.setsOf,bV,e,Do.setsUp,Do.grow]
theorem MR{f:Int}(h:oX c i=2):Do.setsOf (bV c i f)=[[]]:=by
 have e:tT c i=[]:=if_pos h;simp[Do.setsOf,bV,e,Do.setsUp]
theorem aE9{f a:Int}(hf:1<=f):Do.keeperAt (bV c i f) 0=0:=by
 have h1:Do.frmAt (bV c i f) 1=f:=rfl;have h0:Do.frmAt (bV c i f) 0=0:=rfl;show Do.keeperFrom (bV c i f) 0 2=0
 simp only[Do.keeperFrom,h1,h0];rw[if_neg (by omega),if_pos (Int.le_refl _)];rfl
theorem NB(hv:Tu.Vd c)(hi:i<c.lots.length)(hs:Tu.someB c=true){f:Int}(hf:1<=f/\f<=fJ c):
  Do.lotErr (bV c i f) 0=0/\Do.wrongOf (bV c i f)=([],0)/\(∃ W,Do.turnedOf (bV c i f) 0=(eE (Tu.hoursOf c i),W,0)/\(W=2↔oX c i=2))/\Do.whoseOf (bV c i f) 0=(if oX c i=2 then [] else [0],0):=by
 have hvd:=aHV hv hi hf;have hck:=Do.check_of_vd hvd;have hn:=OY c i f;have h2:=aK7 hv hi hs;have key:∀ (w:Do.Tn) (op:List Int),Do.setsOf (bV c i f)=[op]->w∈Do.turnsOf (bV c i f) 0 op []->Do.lotErr (bV c i f) 0=0/\Do.wrongOf (bV c i f)=([],0):=by
  intro w op hop hw;obtain⟨hsb,_⟩:=BS hop hw;have hea:Do.errAsk (bV c i f) 0=0:=by
   have:inR (0:Int) 0 ((bV c i f).lots-1)=true:=aZ.2 (by simp[bV]);simp[Do.errAsk,hck,this]
  have he:Do.lotErr (bV c i f) 0=0:=by
   have hne:=Do.some_ne hsb;simp[Do.lotErr,hea,Do.errKnown,hne]
  refine⟨he,?_⟩;have:Do.wrongOf (bV c i f)=(Do.wrongL (bV c i f),0):=if_pos (by rw[hck]);rw[this,Do.wrong_nil hvd hsb]
 have htu:Do.lotErr (bV c i f) 0=0->Do.turnedOf (bV c i f) 0=(eE (Do.hoursIn (Do.truths (bV c i f) []) 0),Do.howIn (Do.truths (bV c i f) []) 0,0):=fun h=>by
  rw[Do.turnedOf,if_pos h];rfl
 have hwh:Do.lotErr (bV c i f) 0=0->Do.whoseOf (bV c i f) 0=(Do.whoseIn (bV c i f) (Do.causesIn (bV c i f) (Do.truths (bV c i f) []) 0),0):=fun h=>by
  rw[Do.whoseOf,if_pos h];rfl
 by_cases hh:Tu.hoursOf c i=[]
 ·have hb:oX c i=2:=h2.2 hh;have hop:=MR (c:=c) (i:=i) (f:=f) hb;have hw:(⟨-1,-1⟩:Do.Tn)∈Do.turnsOf (bV c i f) 0 [] []:=Do.never_turns (W6 hv hi hs hh f (-1));obtain⟨hsb,hin⟩:=BS hop hw;obtain⟨he,hwr⟩:=key _ _ hop hw;have hall:∀ u∈Do.turnsIn (Do.truths (bV c i f) []) 0,u.hour = -1:=fun u hu=>by
   have:=(Do.mem_turns.1 ((hin u).1 hu)).1;rcases Do.mem_all.1 this with e|⟨d,hd,_⟩
   ·rw[e]
   ·cases hd
  have hhow:Do.howIn (Do.truths (bV c i f) []) 0=2:=Do.how_two.2 ⟨Do.turns_ne hsb hn,hall⟩;have hho:Do.hoursIn (Do.truths (bV c i f) []) 0=[]:=by
   rw[List.eq_nil_iff_forall_not_mem];intro x hx;obtain⟨h1,u,hu,rfl⟩:=Do.mem_hours.1 hx;exact h1 (hall u hu)
  refine⟨he,hwr,⟨2,?_,by simp[hb]⟩,?_⟩
  ·rw[htu he,hho,hhow,hh]
  ·rw[hwh he,(Do.whose_nil hvd hsb hn).2 hhow,if_pos hb]
 ·have hb:oX c i≠2:=fun e=>hh (h2.1 e)
  have hop:=N0 (c:=c) (i:=i) (f:=f) hb;obtain⟨b1,b2,b3,b4,b5⟩:=P3 hv hi hh;have hed:(bV c i f).doors=[⟨0,true⟩]:=if_neg hb;have hdh:Do.doorHour (bV c i f) 0=0:=by simp[Do.doorHour,hed]
  obtain⟨s,hsp⟩:∃ s,eE (Tu.hoursOf c i)=s:=⟨_,rfl⟩;have hdl:(bV c i f).delay=s:=hsp;rw[hsp] at b1 b2 b3 b4 b5;have hbh:s.hi<=(bV c i f).hours:=by simp only[bV,fJ];omega
  have hmem:∀ {t:Int},t∈Tu.hoursOf c i->s.lo<=t->t<=s.hi->(⟨t,0⟩:Do.Tn)∈Do.turnsOf (bV c i f) 0 [0] []:=fun {t} ht h1 h3 =>
   Do.mem_turns.2 ⟨Do.mem_all.2 (.inr ⟨0,by simp,Do.mem_ways.2 ⟨rfl,by rw[hdh,hdl];simp only;omega,by simp only;omega,by simp only;omega⟩⟩),aC7 hv hi ht f 0⟩
  have hlo:=hmem b1 (Int.le_refl _) b4;have hhi:=hmem b2 b4 (Int.le_refl _);obtain⟨hsb,hin⟩:=BS hop hlo;obtain⟨he,hwr⟩:=key _ _ hop hlo;have hcase:∀ u∈Do.turnsIn (Do.truths (bV c i f) []) 0,u=⟨-1,-1⟩\/(u.door=0/\s.lo<=u.hour/\u.hour<=s.hi):=fun u hu=>by
   have:=(Do.mem_turns.1 ((hin u).1 hu)).1;rcases Do.mem_all.1 this with e|⟨d,hd,hw⟩
   ·exact .inl e
   ·have:d=0:=by simpa using hd
    subst this;obtain⟨q1,q2,q3⟩:=Do.mem_ways.1 hw;rw[hdh,hdl] at q2;exact .inr ⟨q1,by omega,by omega⟩
  have hl1:s.lo∈Do.hoursIn (Do.truths (bV c i f) []) 0:=Do.mem_hours.2 ⟨by omega,_,(hin _).2 hlo,rfl⟩;have hl2:s.hi∈Do.hoursIn (Do.truths (bV c i f) []) 0:=Do.mem_hours.2 ⟨by omega,_,(hin _).2 hhi,rfl⟩;have hl3:∀ x∈Do.hoursIn (Do.truths (bV c i f) []) 0,s.lo<=x/\x<=s.hi:=fun x hx=>by
   obtain⟨h1,u,hu,rfl⟩:=Do.mem_hours.1 hx;rcases hcase u hu with e|e
   ·rw[e] at h1;simp at h1
   ·exact e.2
  have hspn:eE (Do.hoursIn (Do.truths (bV c i f) []) 0)=s:=by
   obtain⟨g1,g2,g3⟩:=vQ (List.ne_nil_of_mem hl1);have e1:=hl3 _ g1;have e2:=hl3 _ g2;have e3:=g3 _ hl1;have e4:=g3 _ hl2;generalize eE (Do.hoursIn (Do.truths (bV c i f) []) 0)=y at *;obtain⟨y1,y2⟩:=y;obtain⟨s1,s2⟩:=s;simp only at e1 e2 e3 e4;rw[show y1=s1 by omega,show y2=s2 by omega]
  have hhow:Do.howIn (Do.truths (bV c i f) []) 0≠2:=fun e=>by
   have:=(Do.how_two.1 e).2 _ ((hin _).2 hlo);simp only at this;omega
  have hca:Do.causesIn (bV c i f) (Do.truths (bV c i f) []) 0=[0]:=by
   have h1:(0:Int)∈Do.causesIn (bV c i f) (Do.truths (bV c i f) []) 0:=Do.mem_causes.2 ⟨by rw[hed];simp,_,(hin _).2 hlo,rfl⟩;have h3:=(List.mem_filter.1 h1).2;have h4:aM 0 (bV c i f).doors.length=[0]:=by rw[hed];rfl
   unfold Do.causesIn;rw[h4,List.filter_cons,if_pos h3];rfl
  refine⟨he,hwr,⟨_,by rw[htu he,hspn,hsp],by simp[hhow,hb]⟩,?_⟩;rw[hwh he,hca,if_neg hb];have hk:=aE9 (c:=c) (i:=i) (a:=0) hf.1;show ((aM 0 2).filter _,(0:Int))=_
  simp[aM,hdh,hk]
end
end Go.Am.Room
set_option maxRecDepth 4000
namespace Go.Am.Room.Tu
def aF:=zz @encCar_eq (zz @fB (zz @eD (zz @encSeen_eq (zz @aN (zz @eM (zz @dM (@dK)))))))
theorem K7(σ:St)(f:AV)(l:List Int)(dJ most:Int)(of:Nat->Int->Int)(hl:l.length<9223372036854775808)(hk:n4 σ f)(h:∀ i (hi:i<l.length),fZ T f [.int .i64 l[i]] σ (.int .i64 (of i l[i]))):fZ T (.func 396 [] []) [ints l,.int .i64 dJ,.int .i64 most,f] σ (fT (aQ dJ most of l)):=by
 refine dH (af:=aBE) rfl (by simp[aBE]) ?_;have hk0:=hk.nil;have hk2:∀ τ,bW (σ++τ) σ.length 20 f=some f:=hk;try simp only[↓QA,QB,seval,aF,aBE]
 (refine bH (jE dJ most [(l.length:Int)] (by simp)) (by simp[clr,clrs,ints]) (by simp[okV,okVs]) ?_;try simp only[↓QA,QB,seval,aF,AL])
 cases h1:inR l.length dJ most
 ·try simp only[↓QA,QB,seval,aF]
  refine cS [] (by first|rfl|simp) ?_;try simp only[QS,QC,seval,aF,fT,aQ,h1]
 ·try simp only[↓QA,QB,seval,aF]
  refine cI (S:=Nat) 0 (fun k=>k<=l.length/\aK of (l.drop k) k=aK of l 0) (fun k=>l.length-k) (fun k=>[(3,f),(19,ints l),(20,.int .i64 l.length),(21,.int .i64 k)]) (fun _=>σ) ⟨Nat.zero_le _,by simp⟩ rfl ?_ fun k hk1=>?_
  ·try simp only[aB,QE,seval,aF]
   try simp
  ·obtain⟨hkl,hi⟩:=hk1;try simp only[↓QA,QB,seval,aF,VG]
   refine aE (fun hd=>?_) fun hd=>?_
   ·have hlt:k<l.length:=by simpa using hd
    have hs:=h k hlt;rw[dU hlt] at hi;have hw:=bR hlt hl;try simp only[↓QA,QB,seval,aF,hlt] at hs
    try simp only[↓QA,QB,seval,aF,hlt]
    refine bI hs ?_;try simp only[↓QA,QB,seval,aF]
    cases hp:(of k l[k]==0)
    ·have hp':of k l[k]≠0:=by simpa using hp
     rw[if_neg hp'] at hi;try simp only[↓QA,QB,seval,aF,hp]
     refine cS [] (by first|rfl|simp) ?_;try simp only[QS,QC,seval,aF,fT,aQ,h1,<-hi,reduceCtorEq]
    ·have hp':of k l[k]=0:=by simpa using hp
     rw[if_pos hp'] at hi;try simp only[↓QA,QB,seval,aF,hp,hw]
     refine⟨k+1,⟨by omega,hi⟩,by omega,?_⟩;try simp only[aB,QE,seval,aF,hw,hk0,hk2,Nat.le_refl,CE]
   ·have hlt:k=l.length:=by simp at hd;omega
    rw[eO hlt] at hi;try simp only[↓QA,QB,seval,aF]
    refine cS [] (by first|rfl|simp) ?_;try simp only[QS,QC,seval,aF,fT,aQ,h1,<-hi,reduceCtorEq]
theorem HY(σ:St)(f:AV)(l:List Span)(dJ most:Int)(of:Nat->Span->Int)(hl:l.length<9223372036854775808)(hk:n4 σ f)(h:∀ i (hi:i<l.length),fZ T f [eR l[i]] (σ++[.cells (eR l[i]).cells]) (.int .i64 (of i l[i]))):fZ T (.func 398 [] []) [.lit (l.map eR) false none,.int .i64 dJ,.int .i64 most,f] σ (fT (aQ dJ most of l)):=by
 refine dH (af:=aBX) rfl (by simp[aBX]) ?_;have hk0:=hk.nil;have hk2:∀ τ,bW (σ++τ) σ.length 20 f=some f:=hk;try simp only[↓QA,QB,seval,aF,aBX]
 (refine bH (jE dJ most [(l.length:Int)] (by simp)) (by simp[clr,clrs,ints]) (by simp[okV,okVs]) ?_;try simp only[↓QA,QB,seval,aF,AL])
 cases h1:inR l.length dJ most
 ·try simp only[↓QA,QB,seval,aF]
  refine cS [] (by first|rfl|simp) ?_;try simp only[QS,QC,seval,aF,fT,aQ,h1]
 ·try simp only[↓QA,QB,seval,aF]
  refine cI (S:=Nat) 0 (fun k=>k<=l.length/\aK of (l.drop k) k=aK of l 0) (fun k=>l.length-k) (fun k=>[(3,f),(19,.lit (l.map eR) false none),(20,.int .i64 l.length),(21,.int .i64 k)]) (fun _=>σ) ⟨Nat.zero_le _,by simp⟩ rfl ?_ fun k hk1=>?_
  ·try simp only[aB,QE,seval,aF]
   try simp
  ·obtain⟨hkl,hi⟩:=hk1;try simp only[↓QA,QB,seval,aF,Y6]
   refine aE (fun hd=>?_) fun hd=>?_
   ·have hlt:k<l.length:=by simpa using hd
    have hs:=h k hlt;rw[dU hlt] at hi;have hw:=bR hlt hl;try simp only[↓QA,QB,seval,aF,hlt] at hs
    try simp only[↓QA,QB,seval,aF,hlt]
    refine bI hs ?_;try simp only[↓QA,QB,seval,aF]
    cases hp:(of k l[k]==0)
    ·have hp':of k l[k]≠0:=by simpa using hp
     rw[if_neg hp'] at hi;try simp only[↓QA,QB,seval,aF,hp]
     refine cS _ rfl ?_;try simp only[QS,QC,seval,aF,fT,aQ,h1,<-hi,reduceCtorEq]
    ·have hp':of k l[k]=0:=by simpa using hp
     rw[if_pos hp'] at hi;try simp only[↓QA,QB,seval,aF,hp,hw]
     refine⟨k+1,⟨by omega,hi⟩,by omega,?_⟩;try simp only[aB,QE,seval,aF,hw,hk0,hk2,Nat.le_refl,dK]
   ·have hlt:k=l.length:=by simp at hd;omega
    rw[eO hlt] at hi;try simp only[↓QA,QB,seval,aF]
    refine cS [] (by first|rfl|simp) ?_;try simp only[QS,QC,seval,aF,fT,aQ,h1,<-hi,reduceCtorEq]
theorem KS(σ:St)(f:AV)(l:List Lot)(dJ most:Int)(of:Nat->Lot->Int)(hl:l.length<9223372036854775808)(hk:n4 σ f)(h:∀ i (hi:i<l.length),fZ T f [encLot l[i]] (σ++[.cells (encLot l[i]).cells]) (.int .i64 (of i l[i]))):fZ T (.func 400 [] []) [.lit (l.map encLot) false none,.int .i64 dJ,.int .i64 most,f] σ (fT (aQ dJ most of l)):=by
 refine dH (af:=X5) rfl (by simp[X5]) ?_;have hk0:=hk.nil;have hk2:∀ τ,bW (σ++τ) σ.length 20 f=some f:=hk;try simp only[↓QA,QB,seval,aF,X5]
 (refine bH (jE dJ most [(l.length:Int)] (by simp)) (by simp[clr,clrs,ints]) (by simp[okV,okVs]) ?_;try simp only[↓QA,QB,seval,aF,AL])
 cases h1:inR l.length dJ most
 ·try simp only[↓QA,QB,seval,aF]
  refine cS [] (by first|rfl|simp) ?_;try simp only[QS,QC,seval,aF,fT,aQ,h1]
 ·try simp only[↓QA,QB,seval,aF]
  refine cI (S:=Nat) 0 (fun k=>k<=l.length/\aK of (l.drop k) k=aK of l 0) (fun k=>l.length-k) (fun k=>[(3,f),(19,.lit (l.map encLot) false none),(20,.int .i64 l.length),(21,.int .i64 k)]) (fun _=>σ) ⟨Nat.zero_le _,by simp⟩ rfl ?_ fun k hk1=>?_
  ·try simp only[aB,QE,seval,aF]
   try simp
  ·obtain⟨hkl,hi⟩:=hk1;try simp only[↓QA,QB,seval,aF,aBJ]
   refine aE (fun hd=>?_) fun hd=>?_
   ·have hlt:k<l.length:=by simpa using hd
    have hs:=h k hlt;rw[dU hlt] at hi;have hw:=bR hlt hl;try simp only[↓QA,QB,seval,aF,hlt] at hs
    try simp only[↓QA,QB,seval,aF,hlt]
    refine bI hs ?_;try simp only[↓QA,QB,seval,aF]
    cases hp:(of k l[k]==0)
    ·have hp':of k l[k]≠0:=by simpa using hp
     rw[if_neg hp'] at hi;try simp only[↓QA,QB,seval,aF,hp]
     refine cS _ rfl ?_;try simp only[QS,QC,seval,aF,fT,aQ,h1,<-hi,reduceCtorEq]
    ·have hp':of k l[k]=0:=by simpa using hp
     rw[if_pos hp'] at hi;try simp only[↓QA,QB,seval,aF,hp,hw]
     refine⟨k+1,⟨by omega,hi⟩,by omega,?_⟩;try simp only[aB,QE,seval,aF,hw,hk0,hk2,Nat.le_refl,eM]
   ·have hlt:k=l.length:=by simp at hd;omega
    rw[eO hlt] at hi;try simp only[↓QA,QB,seval,aF]
    refine cS [] (by first|rfl|simp) ?_;try simp only[QS,QC,seval,aF,fT,aQ,h1,<-hi,reduceCtorEq]
theorem GH(σ:St)(f:AV)(l:List Seen)(dJ most:Int)(of:Nat->Seen->Int)(hl:l.length<9223372036854775808)(hk:n4 σ f)(h:∀ i (hi:i<l.length),fZ T f [encSeen l[i]] (σ++[.cells (encSeen l[i]).cells]) (.int .i64 (of i l[i]))):fZ T (.func 402 [] []) [.lit (l.map encSeen) false none,.int .i64 dJ,.int .i64 most,f] σ (fT (aQ dJ most of l)):=by
 refine dH (af:=aBT) rfl (by simp[aBT]) ?_;have hk0:=hk.nil;have hk2:∀ τ,bW (σ++τ) σ.length 20 f=some f:=hk;try simp only[↓QA,QB,seval,aF,aBT]
 (refine bH (jE dJ most [(l.length:Int)] (by simp)) (by simp[clr,clrs,ints]) (by simp[okV,okVs]) ?_;try simp only[↓QA,QB,seval,aF,AL])
 cases h1:inR l.length dJ most
 ·try simp only[↓QA,QB,seval,aF]
  refine cS [] (by first|rfl|simp) ?_;try simp only[QS,QC,seval,aF,fT,aQ,h1]
 ·try simp only[↓QA,QB,seval,aF]
  refine cI (S:=Nat) 0 (fun k=>k<=l.length/\aK of (l.drop k) k=aK of l 0) (fun k=>l.length-k) (fun k=>[(3,f),(19,.lit (l.map encSeen) false none),(20,.int .i64 l.length),(21,.int .i64 k)]) (fun _=>σ) ⟨Nat.zero_le _,by simp⟩ rfl ?_ fun k hk1=>?_
  ·try simp only[aB,QE,seval,aF]
   try simp
  ·obtain⟨hkl,hi⟩:=hk1;try simp only[↓QA,QB,seval,aF,ZP]
   refine aE (fun hd=>?_) fun hd=>?_
   ·have hlt:k<l.length:=by simpa using hd
    have hs:=h k hlt;rw[dU hlt] at hi;have hw:=bR hlt hl;try simp only[↓QA,QB,seval,aF,hlt] at hs
    try simp only[↓QA,QB,seval,aF,hlt]
    refine bI hs ?_;try simp only[↓QA,QB,seval,aF]
    cases hp:(of k l[k]==0)
    ·have hp':of k l[k]≠0:=by simpa using hp
     rw[if_neg hp'] at hi;try simp only[↓QA,QB,seval,aF,hp]
     refine cS _ rfl ?_;try simp only[QS,QC,seval,aF,fT,aQ,h1,<-hi,reduceCtorEq]
    ·have hp':of k l[k]=0:=by simpa using hp
     rw[if_pos hp'] at hi;try simp only[↓QA,QB,seval,aF,hp,hw]
     refine⟨k+1,⟨by omega,hi⟩,by omega,?_⟩;try simp only[aB,QE,seval,aF,hw,hk0,hk2,Nat.le_refl,dM]
   ·have hlt:k=l.length:=by simp at hd;omega
    rw[eO hlt] at hi;try simp only[↓QA,QB,seval,aF]
    refine cS [] (by first|rfl|simp) ?_;try simp only[QS,QC,seval,aF,fT,aQ,h1,<-hi,reduceCtorEq]
theorem aE0(s:Span)(m:Int):wide s m=if (!inR s.lo 0 m||!inR s.hi 0 m)=true then 7 else if inR (s.hi-s.lo) 0 3=false then 2 else 0:=by
 have e:oT s 0 m=if (!inR s.lo 0 m||!inR s.hi 0 m)=true then 7 else if s.hi<s.lo then 2 else 0:=rfl
 unfold wide;rw[e];split
 ·simp
 ·by_cases h:s.hi<s.lo
  ·have:inR (s.hi-s.lo) 0 3=false:=by simp[inR];omega
   simp[h,this]
  ·by_cases h2:3<s.hi-s.lo
   ·have:inR (s.hi-s.lo) 0 3=false:=by simp[inR];omega
    simp[h,h2,this]
   ·have:inR (s.hi-s.lo) 0 3=true:=by simp[inR];omega
    simp[h,h2,this]
theorem F5q(s:Span)(m:Int)(hm:0<=m/\m<=1000):cY T 274 [eR s,.int .i64 m] (.int .i64 (wide s m)):=by
 refine aV (af:=XS) rfl (by simp[XS]) dd ?_;have he:=aE0 s m;obtain⟨E,hE⟩:∃ E,wide s m=E:=⟨_,rfl⟩;rw[hE] at he ⊢;try simp only[↓QA,QB,seval,aF,XS]
 (refine bH (jE 0 m [s.lo,s.hi] (by simp)) (by simp[clr,clrs,ints]) (by simp[okV,okVs]) ?_;try simp only[↓QA,QB,seval,aF,aUP])
 cases h1:(!inR s.lo 0 m||!inR s.hi 0 m)
 ·rw[h1] at he;simp only[Bool.or_eq_false_iff,Bool.not_eq_false',aZ] at h1;have hw:IntKind.i64.wrap (s.hi-s.lo)=s.hi-s.lo:=bZ ⟨by omega,by omega⟩;try simp only[↓QA,QB,seval,aF,hw]
  (refine bH (jE 0 3 [s.hi-s.lo] (by simp)) (by simp[clr,clrs,ints]) (by simp[okV,okVs]) ?_;try simp only[↓QA,QB,seval,aF,AL])
  cases h2:inR (s.hi-s.lo) 0 3
  ·rw[h2] at he;try simp only[↓QA,QB,seval,aF]
   rw[he];rfl
  ·rw[h2] at he;try simp only[↓QA,QB,seval,aF]
   rw[he];rfl
 ·rw[h1] at he;try simp only[↓QA,QB,seval,aF]
  rw[he];rfl
theorem GJ(n:Int)(σ:St):fZ T (.func 397 [] []) [.int .i64 n] σ (.int .i64 (nR 0 n)):=by
 refine dH (af:=VX) rfl (by simp[VX]) ?_;try simp only[↓QA,QB,seval,aF,VX]
 (refine bH (jE 0 3 [n] (by simp)) (by simp[clr,clrs,ints]) (by simp[okV,okVs]) ?_;try simp only[↓QA,QB,seval,aF,AL])
 cases h1:inR n 0 3;all_goals
  try simp only[↓QA,QB,seval,aF]
  refine cS [] (by first|rfl|simp) ?_;try simp only[QS,QC,seval,aF,nR,h1,reduceCtorEq]
  try rfl
theorem HC(s:Span)(σ:St):fZ T (.func 399 [] []) [eR s] σ (.int .i64 (qG 0 s)):=by
 refine dH (af:=XU) rfl (by simp[XU]) ?_;have hw:=F5q s 6 (by omega);simp only[aN] at hw;try simp only[↓QA,QB,seval,aF,XU,List.length_append]
 (refine aC (hw) rfl dd ?_;try simp only[↓QA,QB,seval,aF])
 refine cS _ rfl ?_;try simp only[QS,QC,seval,aF,qG]
theorem GQ(c:Car)(hf:Fits c)(x:Lot):fZ T (.func 401 [] [.ptr 0 0]) [encLot x] [.cells (carCells c),.cells (encLot x).cells] (.int .i64 (jH c 0 x)):=by
 refine dH (af:=Z7) rfl (by simp[Z7]) ?_;have hfo:=hf.holds;have hws:IntKind.i64.wrap ((c.holds.length:Int)-1)=(c.holds.length:Int)-1:=bZ ⟨by omega,by omega⟩;have hwd:=F5q x.green 40 (by omega);simp only[aN] at hwd;have he:jH c 0 x=if inR x.hold 0 ((c.holds.length:Int)-1)=false then 4 else if inR x.frm 0 c.heat.length=false then 7 else wide x.green 40:=rfl
 obtain⟨E,hE⟩:∃ E,jH c 0 x=E:=⟨_,rfl⟩;rw[hE] at he ⊢;try simp only[↓QA,QB,seval,aF,Z7,hws]
 (refine bH (jE 0 ((c.holds.length:Int)-1) [x.hold] (by simp)) (by simp[clr,clrs,ints]) (by simp[okV,okVs]) ?_;try simp only[↓QA,QB,seval,aF,AL])
 cases h1:inR x.hold 0 ((c.holds.length:Int)-1)
 ·rw[h1] at he;try simp only[↓QA,QB,seval,aF]
  refine cS _ rfl ?_;rw[he];try simp only[QS,QC,seval,aF,reduceCtorEq]
  try rfl
 ·rw[h1] at he;try simp only[↓QA,QB,seval,aF]
  (refine bH (jE 0 (c.heat.length:Int) [x.frm] (by simp)) (by simp[clr,clrs,ints]) (by simp[okV,okVs]) ?_;try simp only[↓QA,QB,seval,aF,AL])
  cases h2:inR x.frm 0 c.heat.length
  ·rw[h2] at he;try simp only[↓QA,QB,seval,aF]
   refine cS _ rfl ?_;rw[he];try simp only[QS,QC,seval,aF,reduceCtorEq]
   try rfl
  ·rw[h2] at he;try simp only[↓QA,QB,seval,aF]
   (refine aC (hwd) rfl dd ?_;try simp only[↓QA,QB,seval,aF])
   refine cS _ rfl ?_;rw[he];try simp only[QS,QC,seval,aF,reduceCtorEq]
   try rfl
theorem aEU(c:Car)(hf:Fits c)(x:Seen):fZ T (.func 403 [] [.ptr 0 0]) [encSeen x] [.cells (carCells c),.cells (encSeen x).cells] (.int .i64 (m5 c 0 x)):=by
 refine dH (af:=aBB) rfl (by simp[aBB]) ?_;have hfo:=hf.lots;have hws:IntKind.i64.wrap ((c.lots.length:Int)-1)=(c.lots.length:Int)-1:=bZ ⟨by omega,by omega⟩;have he:m5 c 0 x=if inR x.lot 0 ((c.lots.length:Int)-1)=false then 4 else if inR x.hour (gZ c x.lot.toNat) c.heat.length then 0 else 7:=rfl
 obtain⟨E,hE⟩:∃ E,m5 c 0 x=E:=⟨_,rfl⟩;rw[hE] at he ⊢
 (repeat (first|simp only[↓QA,QB,seval,aF,aBB,hws]|refine rd0 rfl ?_))
 ((first|refine bH (jE 0 ((c.lots.length:Int)-1) [x.lot] (by simp)) (by simp[clr,clrs,ints]) (by simp[okV,okVs]) ?_|refine fX (jE 0 ((c.lots.length:Int)-1) [x.lot] (by simp)) (by simp[clr,clrs,ints]) (by simp[okV,okVs]) ?_);(repeat (first|simp only[↓QA,QB,seval,aF,AL]|refine rd0 rfl ?_)))
 cases h1:inR x.lot 0 ((c.lots.length:Int)-1)
 ·rw[h1] at he
  (repeat (first|simp only[↓QA,QB,seval,aF]|refine rd0 rfl ?_))
  refine cS _ rfl ?_;rw[he];try simp only[QS,QC,seval,aF,reduceCtorEq]
  try rfl
 ·rw[h1] at he;rw[aZ] at h1;obtain⟨l,hl⟩:∃ l:Nat,x.lot=l:=⟨x.lot.toNat,by omega⟩;have hlc:l<c.lots.length:=by omega
  rw[hl,Int.toNat_natCast,rW hlc] at he;obtain⟨y,hy⟩:∃ y,c.lots[l]=y:=⟨_,rfl⟩;rw[hy] at he
  (repeat (first|simp only[↓QA,QB,seval,aF,hl,hlc,hy]|refine rd0 rfl ?_))
  ((first|refine bH (jE y.frm (c.heat.length:Int) [x.hour] (by simp)) (by simp[clr,clrs,ints]) (by simp[okV,okVs]) ?_|refine fX (jE y.frm (c.heat.length:Int) [x.hour] (by simp)) (by simp[clr,clrs,ints]) (by simp[okV,okVs]) ?_);(repeat (first|simp only[↓QA,QB,seval,aF,AL,hl,hlc,hy]|refine rd0 rfl ?_)))
  cases h2:inR x.hour y.frm c.heat.length;all_goals
   rw[h2] at he
   (repeat (first|simp only[↓QA,QB,seval,aF]|refine rd0 rfl ?_))
   refine cS [.cells [.int .i64 l,.int .i64 x.hour,.bool x.turned]] (by rw[hl];rfl) ?_;rw[he];try simp only[QS,QC,seval,aF,reduceCtorEq,hl]
   try rfl
end Go.Am.Room.Tu
namespace Go.Am.Room.Tu
def dV:=zz @encCar_eq (zz @fB (zz @eD (zz @encSeen_eq (zz @aN (zz @eM (zz @dM (@dK)))))))
theorem check_ok(c:Car)(hf:Fits c):cY T 282 [encCar c] (enc3 (check c)):=by
 refine aV (af:=XY) rfl (by simp[XY]) dd ?_;have g1:=hf.heat
 have g2:=hf.holds;have g3:=hf.lots;have g4:=hf.seen;try simp only[↓QA,QB,seval,dV,XY]
 have f1:=K7 [.cells (carCells c)] (.func 397 [] []) c.heat 0 8 nR g1 (fun τ=>by try simp only[QS,QC,seval,dV,List.length_append]) fun i hi=>GJ c.heat[i] _
 have f2:=HY [.cells (carCells c)] (.func 399 [] []) c.holds 1 3 qG g2 (fun τ=>by try simp only[QS,QC,seval,dV,List.length_append]) fun i hi=>HC c.holds[i] _
 have f3:=KS [.cells (carCells c)] (.func 401 [] [.ptr 0 0]) c.lots 0 4 (jH c) g3 (fun τ=>by try simp only[QS,QC,seval,dV,List.length_append]) fun i hi=>GQ c hf c.lots[i]
 have f4:=GH [.cells (carCells c)] (.func 403 [] [.ptr 0 0]) c.seen 0 4 (m5 c) g4 (fun τ=>by try simp only[QS,QC,seval,dV,List.length_append]) fun i hi=>aEU c hf c.seen[i]
 try simp only[↓QA,QB,seval,dV] at f1 f2 f3 f4
 refine bI f1 ?_;try simp only[↓QA,QB,seval,dV,fT]
 have n0:∀ {e:Int},e≠0->(e==0)=false:=fun h=>by simpa using h
 by_cases h1:8<c.heat.length
 ·have hi:inR c.heat.length 0 8=false:=by simp[inR];omega
  have e1:aQ 0 8 nR c.heat=(0,3):=by simp only[aQ,hi,if_true]
  have e2:check c=(1,0,3):=by simp only[check,h1,if_true]
  rw[e1,e2];try simp only[↓QA,QB,seval,dV,show ((3:Int)==0)=false from rfl,enc3]
 have i1:inR c.heat.length 0 8=true:=by simp[inR];omega
 cases h2:aK nR c.heat 0 with
 |some p =>
  obtain⟨i,e⟩:=p;have hne:=n0 (eG h2);have e1:aQ 0 8 nR c.heat=((i:Int),e):=by simp only[aQ,i1,h2];rfl
  have e2:check c=(1,(i:Int),e):=by simp only[check,h1,h2];rfl
  rw[e1,e2];try simp only[↓QA,QB,seval,dV,hne,enc3]
 |none =>
 have e1:aQ 0 8 nR c.heat=(0,0):=by simp only[aQ,i1,h2];rfl
 have e2:check c=fV c:=by simp only[check,h1,h2];rfl
 rw[e1,e2];try simp only[↓QA,QB,seval,dV,show ((0:Int)==0)=true from rfl]
 (refine bH (jE 0 3 [c.gas] (by simp)) (by simp[clr,clrs,ints]) (by simp[okV,okVs]) ?_;try simp only[↓QA,QB,seval,dV,AL])
 cases h3:inR c.gas 0 3
 ·have e2:fV c=(2,0,7):=by simp only[fV,h3,if_true]
  rw[e2];try simp only[↓QA,QB,seval,dV,enc3]
 have e2:fV c=fQ c:=by simp only[fV,h3];rfl
 rw[e2];try simp only[↓QA,QB,seval,dV]
 refine bI f2 ?_;try simp only[↓QA,QB,seval,dV,fT]
 cases i2:inR c.holds.length 1 3
 ·have e1:aQ 1 3 qG c.holds=(0,3):=by simp only[aQ,i2,if_true]
  have e2:fQ c=(3,0,3):=by simp only[fQ,i2,if_true]
  rw[e1,e2];try simp only[↓QA,QB,seval,dV,show ((3:Int)==0)=false from rfl,enc3]
 cases h4:aK qG c.holds 0 with
 |some p =>
  obtain⟨i,e⟩:=p;have hne:=n0 (eG h4);have e1:aQ 1 3 qG c.holds=((i:Int),e):=by simp only[aQ,i2,h4];rfl
  have e2:fQ c=(3,(i:Int),e):=by simp only[fQ,i2,h4];rfl
  rw[e1,e2];try simp only[↓QA,QB,seval,dV,hne,enc3]
 |none =>
 have e1:aQ 1 3 qG c.holds=(0,0):=by simp only[aQ,i2,h4];rfl
 have e2:fQ c=fU c:=by simp only[fQ,i2,h4];rfl
 rw[e1,e2];try simp only[↓QA,QB,seval,dV,show ((0:Int)==0)=true from rfl]
 refine bI f3 ?_;try simp only[↓QA,QB,seval,dV,fT]
 by_cases h5:4<c.lots.length
 ·have hi:inR c.lots.length 0 4=false:=by simp[inR];omega
  have e1:aQ 0 4 (jH c) c.lots=(0,3):=by simp only[aQ,hi,if_true]
  have e2:fU c=(4,0,3):=by simp only[fU,h5,if_true]
  rw[e1,e2];try simp only[↓QA,QB,seval,dV,show ((3:Int)==0)=false from rfl,enc3]
 have i3:inR c.lots.length 0 4=true:=by simp[inR];omega
 cases h6:aK (jH c) c.lots 0 with
 |some p =>
  obtain⟨i,e⟩:=p;have hne:=n0 (eG h6);have e1:aQ 0 4 (jH c) c.lots=((i:Int),e):=by simp only[aQ,i3,h6];rfl
  have e2:fU c=(4,(i:Int),e):=by simp only[fU,h5,h6];rfl
  rw[e1,e2];try simp only[↓QA,QB,seval,dV,hne,enc3]
 |none =>
 have e1:aQ 0 4 (jH c) c.lots=(0,0):=by simp only[aQ,i3,h6];rfl
 have e2:fU c=j8 c:=by simp only[fU,h5,h6];rfl
 rw[e1,e2];try simp only[↓QA,QB,seval,dV,show ((0:Int)==0)=true from rfl]
 refine bI f4 ?_;try simp only[↓QA,QB,seval,dV,fT]
 by_cases h7:4<c.seen.length
 ·have hi:inR c.seen.length 0 4=false:=by simp[inR];omega
  have e1:aQ 0 4 (m5 c) c.seen=(0,3):=by simp only[aQ,hi,if_true]
  have e2:j8 c=(5,0,3):=by simp only[j8,h7,if_true]
  rw[e1,e2];try simp only[↓QA,QB,seval,dV,show ((3:Int)==0)=false from rfl,enc3]
 have i4:inR c.seen.length 0 4=true:=by simp[inR];omega
 cases h8:aK (m5 c) c.seen 0 with
 |some p =>
  obtain⟨i,e⟩:=p;have hne:=n0 (eG h8);have e1:aQ 0 4 (m5 c) c.seen=((i:Int),e):=by simp only[aQ,i4,h8];rfl
  have e2:j8 c=(5,(i:Int),e):=by simp only[j8,h7,h8];rfl
  rw[e1,e2];try simp only[↓QA,QB,seval,dV,hne,enc3]
 |none =>
 have e1:aQ 0 4 (m5 c) c.seen=(0,0):=by simp only[aQ,i4,h8];rfl
 have e2:j8 c=(0,0,0):=by simp only[j8,h7,h8];rfl
 rw[e1,e2];try simp only[↓QA,QB,seval,dV,show ((0:Int)==0)=true from rfl,enc3]
end Go.Am.Room.Tu
namespace Go.Am.Room
theorem nN{a:Nat}(h:a<9223372036854775808):(BitVec.ofInt 64 (a:Int)).toNat=a:=by
 rw[BitVec.toNat_ofInt];omega
theorem ZN(a b:Nat)(ha:a<9223372036854775808)(hb:b<9223372036854775808):cQ .and (.int .i64 (a:Int)) (.int .i64 (b:Int))=some (.int .i64 ((a &&& b:Nat):Int)):=by
 have h1:(BitVec.ofInt 64 (a:Int) &&& BitVec.ofInt 64 (b:Int)).toNat=a &&& b:=by rw[BitVec.toNat_and,nN ha,nN hb]
 have h2:a &&& b<=a:=Nat.and_le_left;have h3:Go.Am.bits .and .i64 (a:Int) (b:Int)=((a &&& b:Nat):Int):=by
  show IntKind.i64.wrap (((BitVec.ofInt 64 (a:Int) &&& BitVec.ofInt 64 (b:Int)).toNat:Nat):Int)=_
  rw[h1];exact bZ ⟨by omega,by omega⟩
 simp[cQ,fH,h3]
theorem JS(a b:Nat)(ha:a<4611686018427387904)(hb:b<4611686018427387904):cQ .or (.int .i64 (a:Int)) (.int .i64 (b:Int))=some (.int .i64 ((a|||b:Nat):Int)):=by
 have h1:(BitVec.ofInt 64 (a:Int)|||BitVec.ofInt 64 (b:Int)).toNat=a|||b:=by rw[BitVec.toNat_or,nN (by omega),nN (by omega)]
 have h2:a|||b<2^62:=Nat.or_lt_two_pow (by omega) (by omega);have h3:Go.Am.bits .or .i64 (a:Int) (b:Int)=((a|||b:Nat):Int):=by
  show IntKind.i64.wrap (((BitVec.ofInt 64 (a:Int)|||BitVec.ofInt 64 (b:Int)).toNat:Nat):Int)=_
  rw[h1];exact bZ ⟨by omega,by omega⟩
 simp[cQ,fH,h3]
def mS(a b:Nat):Nat:=a &&& (2^64-(b+1))
theorem VE{b:Nat}(hb:b<9223372036854775808)(a i:Nat)(ha:a<9223372036854775808):(mS a b).testBit i=(a.testBit i&&!b.testBit i):=by
 rw[mS,Nat.testBit_and,Nat.testBit_two_pow_sub_succ (by omega)];by_cases hi:i<64
 ·simp[hi]
 ·have:a.testBit i=false:=Nat.testBit_lt_two_pow (Nat.lt_of_lt_of_le (show a<2^63 by omega) (Nat.pow_le_pow_right (by omega) (by omega)));simp[this]
theorem P2(a b:Nat):mS a b<=a:=Nat.and_le_left
theorem aB2(a b:Nat)(ha:a<9223372036854775808)(hb:b<9223372036854775808):cQ .andNot (.int .i64 (a:Int)) (.int .i64 (b:Int))=some (.int .i64 ((mS a b:Nat):Int)):=by
 have h1:(BitVec.ofInt 64 (a:Int) &&& ~~~BitVec.ofInt 64 (b:Int)).toNat=mS a b:=by
  rw[BitVec.toNat_and,BitVec.toNat_not,nN ha,nN hb,mS]
  congr 1
  omega
 have h2:=P2 a b;have h3:Go.Am.bits .andNot .i64 (a:Int) (b:Int)=((mS a b:Nat):Int):=by
  show IntKind.i64.wrap (((BitVec.ofInt 64 (a:Int) &&& ~~~BitVec.ofInt 64 (b:Int)).toNat:Nat):Int)=_
  rw[h1];exact bZ ⟨by omega,by omega⟩
 simp[cQ,fH,h3]
theorem FX{i:Nat}(h:i<=60):2^i<=1152921504606846976:=by
 calc 2^i<=2^60:=Nat.pow_le_pow_right (by omega) h
  _=1152921504606846976:=by decide
theorem vN(i:Nat)(h:i<=60):cQ .shl (.int .i64 1) (.int .i64 (i:Int))=some (.int .i64 ((2^i:Nat):Int)):=by
 have hm:Nat.min i 64=i:=Nat.min_eq_left (by omega);have h0:¬(i:Int)<0:=by omega
 have hp:=FX h;have hc:(1:Int)*2^i=((2^i:Nat):Int):=by rw[Int.one_mul];exact (Int.natCast_pow 2 i).symm
 simp only[cQ,h0,if_false,IntKind.bits,Int.toNat_natCast,hm,hc];generalize 2^i=q at hp;rw[bZ ⟨by omega,by omega⟩]
theorem jK(a i:Nat):a.testBit i=decide (a/2^i%2=1):=Nat.testBit_eq_decide_div_mod_eq
end Go.Am.Room
namespace Go.Am.Room.Tu
def tb(c:Car)(m:Nat):List AV:=carCells c++[.int .i64 0,.map m]
theorem LP(c:Car)(m:Nat):(tb c m)[0]? = some (.lit (c.heat.map (.int .i64)) false none):=by simp[tb,carCells]
theorem K6(c:Car)(m:Nat):(tb c m)[1]? = some (.int .i64 c.gas):=by simp[tb,carCells]
theorem IW(c:Car)(m:Nat):(tb c m)[2]? = some (.lit (c.holds.map eR) false none):=by simp[tb,carCells]
theorem JD(c:Car)(m:Nat):(tb c m)[3]? = some (.lit (c.lots.map encLot) false none):=by simp[tb,carCells]
theorem I8(c:Car)(m:Nat):(tb c m)[4]? = some (.lit (c.seen.map encSeen) false none):=by simp[tb,carCells]
theorem IP(c:Car)(m:Nat):(tb c m)[5]? = some (.int .i64 0):=by simp[tb,carCells]
theorem LH(c:Car)(m:Nat):(tb c m)[6]? = some (.map m):=by simp[tb,carCells]
def hrs(f:Nat->Int):List AV:=eU 5 f
theorem aHI(f:Nat->Int):hrs f=[.int .i64 (f 0),.int .i64 (f 1),.int .i64 (f 2),.int .i64 (f 3),.int .i64 (f 4)]:=by simp[hrs,eU,List.range_succ]
theorem z5:hrs (fun _=>0)=[.int .i64 0,.int .i64 0,.int .i64 0,.int .i64 0,.int .i64 0]:=aHI _
theorem pM(f:Nat->Int):(hrs f).length=5:=jD _ _
theorem xE(f:Nat->Int){i:Nat}(h:i<5):(hrs f)[i]? = some (.int .i64 (f i)):=i8 5 _ h
theorem yT{f g:Nat->Int}(h:∀ i,i<5->f i=g i):hrs f=hrs g:=lM h
theorem GY(f:Nat->Int)(v:Int){i:Nat}(h:i<5):(hrs f).take i++[AV.int .i64 v]++(hrs f).drop (i+1)=hrs (kM f i v):=qL 5 _ _ h
theorem mO(f:Nat->Int):aY (hrs f)=true:=E8 _ _
theorem mK(f:Nat->Int):(hrs f).take 5=hrs f:=FI 5 _
theorem mJ(f:Nat->Int):(hrs f).drop 5=[]:=yP 5 _
theorem nX(f:Nat->Int)(m:Nat):okVs m (hrs f):=iH _ _ _
theorem u5(f:Nat->Int)(σ:St)(m d:Nat):cB σ m d (hrs f)=some (hrs f):=HB _ _ _ _ _
instance (f:Nat->Int):Dats (hrs f):=⟨j3 _ _⟩
abbrev Gr:=Int×Int×Int×Int×Int
instance gr_eq:DecidableEq Gr:=inferInstanceAs (DecidableEq (Int×Int×Int×Int×Int))
abbrev Ky:=Int×Int×Gr×Nat
instance ky_eq:DecidableEq Ky:=inferInstanceAs (DecidableEq (Int×Int×Gr×Nat))
def kG(w:Ky):Nat->Int:=gF [w.2.2.1.1,w.2.2.1.2.1,w.2.2.1.2.2.1,w.2.2.1.2.2.2.1,w.2.2.1.2.2.2.2]
def rX(hd wm:Int)(g:Nat->Int)(th:Nat):Ky:=(hd,wm,(g 0,g 1,g 2,g 3,g 4),th)
theorem aRO(hd wm:Int)(g:Nat->Int)(th:Nat){i:Nat}(h:i<5):kG (rX hd wm g th) i=g i:=by
 have:i=0\/i=1\/i=2\/i=3\/i=4:=by omega
 rcases this with rfl|rfl|rfl|rfl|rfl<;>rfl
def bM(w:Ky):List AV:=[.int .i64 w.1,.int .i64 w.2.1,.int .i64 w.2.2.1.1,.int .i64 w.2.2.1.2.1,.int .i64 w.2.2.1.2.2.1,.int .i64 w.2.2.1.2.2.2.1,.int .i64 w.2.2.1.2.2.2.2,.int .i64 (w.2.2.2:Int)]
def mD(w:Ky):AV:=.agg (bM w)
theorem qH(w:Ky):mD w = .agg (bM w):=by simp only[mD]
theorem PP(w:Ky):jU (mD w):=gE (aD (aR _ _) (aD (aR _ _) (aD (aR _ _) (aD (aR _ _) (aD (aR _ _) (aD (aR _ _) (aD (aR _ _) (aD (aR _ _) cL))))))))
instance (w:Ky):Dat (mD w):=⟨PP w⟩
def kyT(c:Car)(w:Ky):Nat->Int:=V8 c (fun i=>w.2.2.2.testBit i) w.2.1 (kG w)
def G9(c:Car)(w:Ky):AV:=.agg (hrs (kyT c w))
theorem wQ(c:Car)(w:Ky):G9 c w = .agg (hrs (kyT c w)):=by simp only[G9]
theorem PB(c:Car)(w:Ky):jU (G9 c w):=gE (j3 _ _)
instance (c:Car) (w:Ky):Dat (G9 c w):=⟨PB c w⟩
theorem F6(c:Car):KeyIs (.agg [.i,.i,.i,.i,.i,.i,.i,.i]) mD (G9 c) where
 eq:=fun ⟨a1,a2,⟨a3,a4,a5,a6,a7⟩,a8⟩ ⟨b1,b2,⟨b3,b4,b5,b6,b7⟩,b8⟩=>by
  simp only[iS,mD,bM,HD,OI,PI,HM]
  congr 1
  rw[Bool.eq_iff_iff];simp[Prod.mk.injEq];omega
 dk:=PP
 dv:=PB c
abbrev kEs(c:Car):List Ky->List (AV×AV):=qW mD (G9 c)
def nZ(c:Car)(hd:Int):Nat->Nat
 |0=>0
 |n+1=>if inHold c hd n=true then nZ c hd n|||2^n else nZ c hd n
def k8(c:Car)(hd:Int):Nat:=nZ c hd c.lots.length
theorem B9(c:Car)(hd:Int):∀ n,nZ c hd n<2^n
 |0=>by simp[nZ]
 |n+1=>by
  have h:=B9 c hd n;have h1:2^n<2^(n+1):=Nat.pow_lt_pow_right (by omega) (by omega);simp only[nZ];split
  ·exact Nat.or_lt_two_pow (by omega) h1
  ·omega
theorem ET(c:Car)(hd:Int)(i:Nat):∀ n,(nZ c hd n).testBit i=(decide (i<n)&&inHold c hd i)
 |0=>by simp[nZ]
 |n+1=>by
  have h:=ET c hd i n;simp only[nZ];by_cases e:i=n
  ·subst e;cases hi:inHold c hd i
   ·rw[if_neg (by simp),h,hi];simp
   ·rw[if_pos rfl,Nat.testBit_or,h,hi,Nat.testBit_two_pow_self];simp
  ·have h1:decide (i<n+1)=decide (i<n):=by
    rw[Bool.eq_iff_iff];simp;omega
   rw[h1];split
   ·rw[Nat.testBit_or,h,Nat.testBit_two_pow_of_ne (fun q=>e q.symm)];simp
   ·exact h
theorem E1(c:Car)(hd:Int)(i:Nat):(k8 c hd).testBit i=inHold c hd i:=by
 rw[k8,ET];by_cases h:i<c.lots.length
 ·simp[h]
 ·simp[h,inHold,List.getElem?_eq_none (show c.lots.length<=i by omega)]
theorem KW{c:Car}(hv:Vd c)(hd:Int):k8 c hd<16:=by
 have h1:=B9 c hd c.lots.length;have h2:2^c.lots.length<=2^4:=Nat.pow_le_pow_right (by omega) hv.nlt;simp only[k8];omega
def ptT(c:Car)(ls:Nat->Bool)(w:Int)(g:Nat->Int)(h k:Nat)(i:Nat):Int:=if i<k then bE c ls w g i (h+1) else bE c ls w g i h
def lfA(c:Car)(ls:Nat->Bool)(w:Int)(g:Nat->Int)(h:Nat)(i:Nat):Int:=if i<c.lots.length then cC c ls w g h i else g i
def lfT(c:Car)(ls:Nat->Bool)(w:Int)(g:Nat->Int)(h k:Nat)(i:Nat):Int:=if i<k then lfA c ls w g (h+1) i else lfA c ls w g h i
def gsT(c:Car)(ls:Nat->Bool)(w:Int)(g:Nat->Int)(h k:Nat):Int:=if (List.range k).any (gA c ls w g h)=true then c.gas else 0
section
variable {c:Car} {ls:Nat->Bool} {w:Int} {g:Nat->Int} {h k:Nat}
theorem aTA:ptT c ls w g h 0=fun i=>bE c ls w g i h:=by funext i;simp[ptT]
theorem aK4:hrs (ptT c ls w g h c.lots.length)=hrs (fun i=>bE c ls w g i (h+1)):=yT fun i _=>by
 simp only[ptT];split
 ·rfl
 ·rename_i hi;have:gA c ls w g h i=false:=by simp[gA,kP,hi]
  simp[bE,this]
theorem aOG(hk:gA c ls w g h k=false):ptT c ls w g h (k+1)=ptT c ls w g h k:=by
 funext i;simp only[ptT];by_cases e:i=k
 ·subst e;simp[bE,hk]
 ·by_cases e2:i<k
  ·simp[e2,show i<k+1 by omega]
  ·simp[e2,show ¬i<k+1 by omega]
theorem aO4:ptT c ls w g h k k=bE c ls w g k h:=by simp[ptT]
theorem aJP(hk:gA c ls w g h k=true):kM (ptT c ls w g h k) k (min (bE c ls w g k h) h)=ptT c ls w g h (k+1):=by
 funext i;simp only[ptT,kM];by_cases e:i=k
 ·subst e;simp[bE,hk]
 ·by_cases e2:i<k
  ·simp[e,e2,show i<k+1 by omega]
  ·simp[e,e2,show ¬i<k+1 by omega]
theorem aWF:gsT c ls w g h 0=0:=by simp[gsT]
theorem aSR(hk:gA c ls w g h k=false):gsT c ls w g h (k+1)=gsT c ls w g h k:=by simp[gsT,List.range_succ,List.any_append,hk]
theorem aLZ(hk:gA c ls w g h k=true):gsT c ls w g h (k+1)=c.gas:=by simp[gsT,List.range_succ,List.any_append,hk]
theorem aKZ:gsT c ls w g h c.lots.length=w5 c ls h (cC c ls w g h):=rfl
theorem aT7:hrs (lfA c ls w g 0)=hrs g:=yT fun i _=>by simp only[lfA,cC];split<;>rfl
theorem aWW:lfT c ls w g h 0=lfA c ls w g h:=by funext i;simp[lfT]
theorem aMP:lfT c ls w g h c.lots.length=lfA c ls w g (h+1):=by
 funext i;simp only[lfT,lfA];by_cases e:i<c.lots.length<;>simp[e]
theorem aSQ:lfT c ls w g h k k=lfA c ls w g h k:=by simp[lfT]
theorem aAX(hk:k<c.lots.length):lfA c ls w g h k=cC c ls w g h k:=by simp[lfA,hk]
theorem aST(hk:k<c.lots.length)(hn:¬(gZ c k<=h/\0<cC c ls w g h k)):lfT c ls w g h (k+1)=lfT c ls w g h k:=by
 funext i;simp only[lfT];by_cases e:i=k
 ·subst e;simp[lfA,hk,cC,hn]
 ·by_cases e2:i<k
  ·simp[e2,show i<k+1 by omega]
  ·simp[e2,show ¬i<k+1 by omega]
theorem aMM(hk:k<c.lots.length)(hn:gZ c k<=h/\0<cC c ls w g h k):kM (lfT c ls w g h k) k (cC c ls w g h k-(tE c h+w+w5 c ls h (cC c ls w g h)))=lfT c ls w g h (k+1):=by
 funext i;simp only[lfT,kM];by_cases e:i=k
 ·subst e;simp[lfA,hk,cC,hn]
 ·by_cases e2:i<k
  ·simp[e,e2,show i<k+1 by omega]
  ·simp[e,e2,show ¬i<k+1 by omega]
end
structure KyOk (w:Ky):Prop where
 warm:0<=w.2.1/\w.2.1<=6
 green:∀ i,0<=kG w i/\kG w i<=40
 there:w.2.2.2<32
end Go.Am.Room.Tu
namespace Go.Am.Room.Tu
def kT:=zz @eD (zz @encSeen_eq (zz @aN (zz @eM (zz @dM (zz @dK (zz @List.length_append.{0} (zz @LP (zz @K6 (zz @IW (zz @JD (zz @I8 (zz @IP (zz @LH (zz @dR (zz @Nat.add_lt_add_iff_left (zz @Nat.lt_add_right_iff_pos (zz @Nat.mul_one (zz @Int.toNat_natCast (zz @pM (zz @mK (zz @mJ (zz @mO (@u5)))))))))))))))))))))))
theorem FE{S:List Ky->St}{c:Car}{p m N:Nat}(hR:MemAt S (tb c m) (kEs c) p m N)(hv:Vd c)(M:List Ky):fZ T (.func 147 [] []) [.ptr p 0] (S M) (.int .i64 (never c)):=by
 refine dH (af:=X7) rfl (by simp[X7]) ?_;have h:=hv.nht;have hw:IntKind.i64.wrap ((c.heat.length:Int)+1)=(c.heat.length:Int)+1:=bZ ⟨by omega,by omega⟩;try simp only[↓QA,QB,seval,kT,hR.len,hR.base,hR.base0,hR.bset,hR.bset0,hR.at1,hR.at0,X7,hw]
 refine cS [] (by first|rfl|simp) ?_;try simp only[QS,QC,seval,kT,hR.len,hR.base,hR.base0,hR.bset,hR.bset0,hR.at1,hR.at0,never]
theorem aKH{S:List Ky->St}{c:Car}{p m N:Nat}(hR:MemAt S (tb c m) (kEs c) p m N)(hv:Vd c)(M:List Ky)(hd:Int):fZ T (.func 277 [] []) [.ptr p 0,.int .i64 hd] (S M) (.int .i64 (k8 c hd)):=by
 refine dH (af:=WJ) rfl (by simp[WJ]) ?_;have hnl:=hv.nlt;try simp only[↓QA,QB,seval,kT,hR.len,hR.base,hR.base0,hR.bset,hR.bset0,hR.at1,hR.at0,WJ]
 refine cI (S:=Nat) 0 (fun k=>k<=c.lots.length) (fun k=>c.lots.length-k)
  (fun k=>[(1,.int .i64 hd),(4,.int .i64 (nZ c hd k)),(11,.lit (c.lots.map encLot) false none),(12,.int .i64 c.lots.length),(13,.int .i64 k)]) (fun _=>S M) (Nat.zero_le _) rfl ?_ fun k hk=>?_
 ·try simp only[aB,QE,seval,kT,hR.len,hR.base,hR.base0,hR.bset,hR.bset0,hR.at1,hR.at0]
  try simp[nZ]
 try simp only[↓QA,QB,seval,kT,hR.len,hR.base,hR.base0,hR.bset,hR.bset0,hR.at1,hR.at0,Y7]
 refine aE (fun h=>?_) fun h=>?_
 ·have hk1:k<c.lots.length:=by simpa using h
  have hw:=bR hk1 (by omega);have hat:=wW hk1 hd;have hsu:nZ c hd (k+1)=if inHold c hd k=true then nZ c hd k|||2^k else nZ c hd k:=rfl
  have hlt:=B9 c hd k;have hp:2^k<=2^3:=Nat.pow_le_pow_right (by omega) (by omega);have hsh:=vN k (by omega);have hor:=JS (nZ c hd k) (2^k) (by omega) (by omega);obtain⟨x,hx⟩:∃ x,c.lots[k]=x:=⟨_,rfl⟩;rw[hx] at hat
  rw[hat] at hsu;cases h1:(x.hold==hd)
  ·have h1':¬x.hold=hd:=by simpa using h1
   simp only[h1',decide_false,Bool.false_eq_true,if_false] at hsu;try simp only[↓QA,QB,seval,kT,hR.len,hR.base,hR.base0,hR.bset,hR.bset0,hR.at1,hR.at0,hk1,hx,h1]
   refine⟨k+1,by omega,by omega,?_⟩;try simp only[aB,QE,seval,kT,hR.len,hR.base,hR.base0,hR.bset,hR.bset0,hR.at1,hR.at0,hw,hsu]
   try simp[aL,okVs,okV]
   try omega
  ·have h1':x.hold=hd:=by simpa using h1
   simp only[h1',decide_true,if_true] at hsu;try simp only[↓QA,QB,seval,kT,hR.len,hR.base,hR.base0,hR.bset,hR.bset0,hR.at1,hR.at0,hk1,hx,h1,hsh,hor]
   refine⟨k+1,by omega,by omega,?_⟩;try simp only[aB,QE,seval,kT,hR.len,hR.base,hR.base0,hR.bset,hR.bset0,hR.at1,hR.at0,hw,hsu]
   try simp[aL,okVs,okV]
   try omega
 ·have hk1:k=c.lots.length:=by simp at h;omega
  try simp only[↓QA,QB,seval,kT,hR.len,hR.base,hR.base0,hR.bset,hR.bset0,hR.at1,hR.at0]
  refine cS [] (by first|rfl|simp) ?_;rw[hk1];try simp only[QS,QC,seval,kT,hR.len,hR.base,hR.base0,hR.bset,hR.bset0,hR.at1,hR.at0,k8]
end Go.Am.Room.Tu
namespace Go.Am.Room.Tu
def bY:=zz @eD (zz @encSeen_eq (zz @aN (zz @eM (zz @dM (zz @dK (zz @List.length_append.{0} (zz @LP (zz @K6 (zz @IW (zz @JD (zz @I8 (zz @IP (zz @LH (zz @dR (zz @Nat.add_lt_add_iff_left (zz @Nat.lt_add_right_iff_pos (zz @Nat.mul_one (zz @Int.toNat_natCast (zz @pM (zz @mK (zz @mJ (zz @mO (@u5)))))))))))))))))))))))
theorem gT(w:Ky):(bM w)[1]? = some (.int .i64 w.2.1):=rfl
theorem gR(w:Ky):(bM w)[7]? = some (.int .i64 (w.2.2.2:Int)):=rfl
theorem cH(w:Ky):(bM w).length=8:=rfl
theorem bK(w:Ky):aY (bM w)=true:=by simp[bM,aY,AV.cell]
theorem dZ(w:Ky):(bM w).take 8=bM w:=rfl
theorem dX(w:Ky):(bM w).drop 8=[]:=rfl
theorem gS(w:Ky):((bM w).drop 2).take 5=hrs (kG w):=by rw[aHI];rfl
theorem gQ(w:Ky)(σ:St)(m d:Nat):cB σ m d (bM w)=some (bM w):=iG (aD (aR _ _) (aD (aR _ _) (aD (aR _ _) (aD (aR _ _) (aD (aR _ _) (aD (aR _ _) (aD (aR _ _) (aD (aR _ _) cL)))))))) σ m d
theorem xJ(w:Ky)(k:Nat):okVs k (bM w):=by simp[bM,okVs,okV]
def F3(n:Int)(k i:Nat):Int:=if i<k then n else 0
theorem aQW(n:Int):F3 n 0=fun _=>0:=by funext i;simp[F3]
theorem aDM(n:Int)(k:Nat):kM (F3 n k) k n=F3 n (k+1):=by
 funext i;simp only[kM,F3];by_cases e:i=k
 ·subst e;simp
 ·by_cases e2:i<k
  ·simp[e,e2,show i<k+1 by omega]
  ·simp[e,e2,show ¬i<k+1 by omega]
theorem aGC(c:Car)(ls:Nat->Bool)(w:Int)(g:Nat->Int):hrs (F3 (never c) 5)=hrs (fun i=>bE c ls w g i 0):=yT fun i hi=>by simp[F3,hi,bE]
set_option maxHeartbeats 4000000 in
theorem DE{S:List Ky->St}{c:Car}{p m N:Nat}(hR:MemAt S (tb c m) (kEs c) p m N)(hv:Vd c)(M:List Ky)(w:Ky)(hw:KyOk w):
  sJ T (.func 273 [] []) [.ptr p 0,mD w] (S M) (G9 c w) (S (bN M w)):=by
 have hnh:=hv.nht;have hnl:=hv.nlt;have hpl:=hR.pl;have hgas:=hv.gas;obtain⟨hwm,hgr,hth⟩:=hw;have hl1:=fun τ=>QY (F6 c) hR M τ w
 have hnev:=fun τ=>FE (hR.app τ) hv M
 refine nJ hR (af:=aAV) rfl (by simp[aAV]) ?_;simp only[qH,wQ] at hl1 ⊢
 (repeat (first|simp only[↓QA,QB,reduceLT,reduceIte,reduceEqDiff,reduceAdd,reduceLeDiff,reduceMul,Nat.reduceBEq,bY,hR.len,hR.base,hR.base0,hR.bset,hR.bset0,hR.at1,hR.at0,gT,gR,cH,bK,dZ,dX,gS,gQ,aAV]|refine rd0 rfl ?_))
 refine xC [.cells (hrs fun _=>0)] rfl ?_;by_cases hm:w∈M
 ·have hst:bN M w=M:=by simp[bN,hm]
  rw[hst];simp only[hm,if_true] at hl1
  (repeat (first|simp only[↓QA,QB,reduceLT,reduceIte,reduceEqDiff,reduceAdd,reduceLeDiff,reduceMul,Nat.reduceBEq,bY,hR.len,hR.base,hR.base0,hR.bset,hR.bset0,hR.at1,hR.at0,gT,gR,cH,bK,dZ,dX,gS,gQ,hl1,BC,A4,<-z5]|refine rd0 rfl ?_))
  refine⟨_,_,rfl,rfl,?_⟩;try simp only[QS,QC,reduceLT,reduceIte,reduceEqDiff,reduceAdd,reduceLeDiff,reduceMul,Nat.reduceBEq,bY,hR.len,hR.base,hR.base0,hR.bset,hR.bset0,hR.at1,hR.at0,gT,gR,cH,bK,dZ,dX,gS,gQ,u5]
 have hst:bN M w=M++[w]:=by simp[bN,hm]
 have hput:=fun τ=>XC (F6 c) hR M τ w hm
 simp only[qH,wQ] at hput;rw[hst];simp only[hm,if_false] at hl1
 (repeat (first|simp only[↓QA,QB,reduceLT,reduceIte,reduceEqDiff,reduceAdd,reduceLeDiff,reduceMul,Nat.reduceBEq,bY,hR.len,hR.base,hR.base0,hR.bset,hR.bset0,hR.at1,hR.at0,gT,gR,cH,bK,dZ,dX,gS,gQ,hl1,BC,A4,<-z5]|refine rd0 rfl ?_))
 refine cI (S:=Nat) 0 (fun k=>k<=5) (fun k=>5-k)
  (fun k=>[(0,.ptr p 0),(3,.ptr N 0),(4,.ptr (N+1) 0),(7,.ptr (N+3) 0),(27,.int .i64 k)])
  (fun k=>S M++[.cells (bM w),.cells (hrs fun _=>0),.cells (hrs fun _=>0),.cells (hrs (F3 (never c) k))]) (Nat.zero_le _) (by rw[aQW]) ?_ fun k hk=>?_
 ·try simp only[aB,QE,reduceLT,reduceIte,reduceEqDiff,reduceAdd,reduceLeDiff,reduceMul,Nat.reduceBEq,bY,hR.len,hR.base,hR.base0,hR.bset,hR.bset0,hR.at1,hR.at0,gT,gR,cH,bK,dZ,dX,gS,gQ]
  try simp
 (repeat (first|simp only[↓QA,QB,reduceLT,reduceIte,reduceEqDiff,reduceAdd,reduceLeDiff,reduceMul,Nat.reduceBEq,bY,hR.len,hR.base,hR.base0,hR.bset,hR.bset0,hR.at1,hR.at0,gT,gR,cH,bK,dZ,dX,gS,gQ,X3]|refine rd0 rfl ?_))
 refine aE (fun hd=>?_) fun hd=>?_
 ·have hk1:k<5:=by simp at hd;omega
  have hwk:=bR hk1 (by omega);have ik:(0:Int)<=(k:Int)/\(k:Int)<((5:Nat):Int):=⟨by omega,by omega⟩;have c4:k<=4:=by omega
  have hs:=GY (F3 (never c) k) (never c) hk1;rw[aDM] at hs
  (repeat (first|simp only[↓QA,QB,reduceLT,reduceIte,reduceEqDiff,reduceAdd,reduceLeDiff,reduceMul,Nat.reduceBEq,bY,hR.len,hR.base,hR.base0,hR.bset,hR.bset0,hR.at1,hR.at0,gT,gR,cH,bK,dZ,dX,gS,gQ]|refine rd0 rfl ?_))
  refine bI (hnev _) ?_
  (repeat (first|simp only[↓QA,QB,reduceLT,reduceIte,reduceEqDiff,reduceAdd,reduceLeDiff,reduceMul,Nat.reduceBEq,bY,hR.len,hR.base,hR.base0,hR.bset,hR.bset0,hR.at1,hR.at0,gT,gR,cH,bK,dZ,dX,gS,gQ,ik,c4,hs]|refine rd0 rfl ?_))
  refine⟨k+1,by omega,by omega,?_⟩;try simp only[aB,QE,reduceLT,reduceIte,reduceEqDiff,reduceAdd,reduceLeDiff,reduceMul,Nat.reduceBEq,bY,hR.len,hR.base,hR.base0,hR.bset,hR.bset0,hR.at1,hR.at0,gT,gR,cH,bK,dZ,dX,gS,gQ,hwk]
  try simp[aL,okVs,okV,nX,xJ]
  try omega
 have hk1:k=5:=by simp at hd;omega
 subst hk1;have hwh1:IntKind.i64.wrap ((c.heat.length:Int)+1)=((c.heat.length+1:Nat):Int):=by rw[Int.natCast_add];exact bZ ⟨by omega,by omega⟩
 rw[aGC c (fun i=>w.2.2.2.testBit i) w.2.1 (kG w)];have hlb:=fun i n=>GU hv (fun i=>w.2.2.2.testBit i) hwm hgr i n
 have hbt:∀ i,i<5->((w.2.2.2/2^i%2:Nat):Int)=if w.2.2.2.testBit i=true then 1 else 0:=fun i _=>by
  rw[jK];simp only[decide_eq_true_eq];split<;>omega
 have hval:kyT c w=fun i=>bE c (fun i=>w.2.2.2.testBit i) w.2.1 (kG w) i (c.heat.length+1):=rfl
 rw[hval] at hput ⊢;obtain⟨G,hG⟩:∃ G,kG w=G:=⟨_,rfl⟩;obtain⟨ls,hls⟩:∃ ls:Nat->Bool,(fun i=>w.2.2.2.testBit i)=ls:=⟨_,rfl⟩;have hls':∀ i,w.2.2.2.testBit i=ls i:=fun i=>by rw[<-hls]
 obtain⟨W,hW⟩:∃ W,w.2.1=W:=⟨_,rfl⟩;simp only[hls'] at hbt;simp only[hls,hG,hW] at hput hlb ⊢;rw[hW] at hwm
 (repeat (first|simp only[↓QA,QB,reduceLT,reduceIte,reduceEqDiff,reduceAdd,reduceLeDiff,reduceMul,Nat.reduceBEq,bY,hR.len,hR.base,hR.base0,hR.bset,hR.bset0,hR.at1,hR.at0,gT,gR,cH,bK,dZ,dX,gS,gQ,hwh1,hG]|refine rd0 rfl ?_))
 refine cI (S:=Nat) 0 (fun h=>h<=c.heat.length) (fun h=>c.heat.length+1-h)
  (fun h=>[(0,.ptr p 0),(3,.ptr N 0),(4,.ptr (N+1) 0),(7,.ptr (N+3) 0),(9,.ptr (N+4) 0),(43,.int .i64 (c.heat.length+1:Nat)),(44,.int .i64 h)])
  (fun h=>S M++[.cells (bM w),.cells (hrs fun _=>0),.cells (hrs fun _=>0),.cells (hrs (fun i=>bE c ls W G i h)),.cells (hrs (lfA c ls W G h))]) (Nat.zero_le _) (by rw[aT7]) ?_ fun h hh=>?_
 ·try simp only[aB,QE,reduceLT,reduceIte,reduceEqDiff,reduceAdd,reduceLeDiff,reduceMul,Nat.reduceBEq,bY,hR.len,hR.base,hR.base0,hR.bset,hR.bset0,hR.at1,hR.at0,gT,gR,cH,bK,dZ,dX,gS,gQ]
  try simp
 have hwh2:=bR (k:=h) (n:=c.heat.length+1) (by omega) (by omega);have gb:∀ k,0<=gsT c ls W G h k/\gsT c ls W G h k<=3:=fun k=>by
  unfold gsT;split<;>omega
 (repeat (first|simp only[↓QA,QB,reduceLT,reduceIte,reduceEqDiff,reduceAdd,reduceLeDiff,reduceMul,Nat.reduceBEq,bY,hR.len,hR.base,hR.base0,hR.bset,hR.bset0,hR.at1,hR.at0,gT,gR,cH,bK,dZ,dX,gS,gQ,YX]|refine rd0 rfl ?_))
 refine aE (fun hd=>?_) fun hd=>?_
 rotate_left
 ·exfalso;simp at hd;omega
 (repeat (first|simp only[↓QA,QB,reduceLT,reduceIte,reduceEqDiff,reduceAdd,reduceLeDiff,reduceMul,Nat.reduceBEq,bY,hR.len,hR.base,hR.base0,hR.bset,hR.bset0,hR.at1,hR.at0,gT,gR,cH,bK,dZ,dX,gS,gQ]|refine rd0 rfl ?_))
 refine cI (S:=Nat) 0 (fun k=>k<=c.lots.length) (fun k=>c.lots.length-k)
  (fun k=>[(0,.ptr p 0),(3,.ptr N 0),(4,.ptr (N+1) 0),(7,.ptr (N+3) 0),(9,.ptr (N+4) 0),(10,.int .i64 h),(11,.int .i64 (gsT c ls W G h k)),(43,.int .i64 (c.heat.length+1:Nat)),(44,.int .i64 h),(51,.lit (c.lots.map encLot) false none),(52,.int .i64 c.lots.length),(53,.int .i64 k)])
  (fun k=>S M++[.cells (bM w),.cells (hrs fun _=>0),.cells (hrs fun _=>0),.cells (hrs (ptT c ls W G h k)),.cells (hrs (lfA c ls W G h))]) (Nat.zero_le _) (by rw[aTA]) ?_ fun k hk=>?_
 ·try simp only[aB,QE,reduceLT,reduceIte,reduceEqDiff,reduceAdd,reduceLeDiff,reduceMul,Nat.reduceBEq,bY,hR.len,hR.base,hR.base0,hR.bset,hR.bset0,hR.at1,hR.at0,gT,gR,cH,bK,dZ,dX,gS,gQ,aWF]
  try simp
 ·(repeat (first|simp only[↓QA,QB,reduceLT,reduceIte,reduceEqDiff,reduceAdd,reduceLeDiff,reduceMul,Nat.reduceBEq,bY,hR.len,hR.base,hR.base0,hR.bset,hR.bset0,hR.at1,hR.at0,gT,gR,cH,bK,dZ,dX,gS,gQ,aBI]|refine rd0 rfl ?_))
  refine aE (fun hd2=>?_) fun hd2=>?_
  ·have hk1:k<c.lots.length:=by simpa using hd2
   have hwk:=bR hk1 (by omega);have ik:(0:Int)<=(k:Int)/\(k:Int)<((5:Nat):Int):=⟨by omega,by omega⟩;have c4:k<=4:=by omega
   have hfa:=rW hk1;have hin:=aAX (c:=c) (ls:=ls) (w:=W) (g:=G) (h:=h) hk1;have hgl:=xE (lfA c ls W G h) (i:=k) (by omega);have hgp:=xE (ptT c ls W G h k) (i:=k) (by omega);rw[hin] at hgl;rw[aO4] at hgp;have hta:gA c ls W G h k=(ls k&&decide (gZ c k<=h)&&decide (cC c ls W G h k<=0)):=by simp[gA,kP,hk1]
   obtain⟨x,hx⟩:∃ x,c.lots[k]=x:=⟨_,rfl⟩;rw[hx] at hfa;rw[hfa] at hta;obtain⟨V,hV⟩:∃ V,cC c ls W G h k=V:=⟨_,rfl⟩;obtain⟨U,hU⟩:∃ U,bE c ls W G k h=U:=⟨_,rfl⟩;rw[hV] at hgl hta;rw[hU] at hgp;have hno:=fun q=>aOG (c:=c) (ls:=ls) (w:=W) (g:=G) (h:=h) (k:=k) q
   have hyes:=fun q=>aJP (c:=c) (ls:=ls) (w:=W) (g:=G) (h:=h) (k:=k) q
   have gno:=fun q=>aSR (c:=c) (ls:=ls) (w:=W) (g:=G) (h:=h) (k:=k) q
   have gyes:=fun q=>aLZ (c:=c) (ls:=ls) (w:=W) (g:=G) (h:=h) (k:=k) q
   rw[hU] at hyes;have vs:=IR w.2.2.2 k (by omega);have va:=BE (w.2.2.2/2^k) (Nat.lt_of_le_of_lt (Nat.div_le_self _ _) (by omega));have hbk:=hbt k (by omega);cases h1:ls k
   ·rw[h1] at hta hbk;have hf:gA c ls W G h k=false:=by rw[hta];simp
    have hb0:(((w.2.2.2/2^k%2:Nat):Int)==0)=true:=by rw[hbk];rfl
    (repeat (first|simp only[↓QA,QB,reduceLT,reduceIte,reduceEqDiff,reduceAdd,reduceLeDiff,reduceMul,Nat.reduceBEq,bY,hR.len,hR.base,hR.base0,hR.bset,hR.bset0,hR.at1,hR.at0,gT,gR,cH,bK,dZ,dX,gS,gQ,hk1,hx,vs,va,hb0]|refine rd0 rfl ?_))
    refine⟨k+1,by omega,by omega,?_⟩;rw[hno hf,gno hf];try simp only[aB,QE,reduceLT,reduceIte,reduceEqDiff,reduceAdd,reduceLeDiff,reduceMul,Nat.reduceBEq,bY,hR.len,hR.base,hR.base0,hR.bset,hR.bset0,hR.at1,hR.at0,gT,gR,cH,bK,dZ,dX,gS,gQ,hwk]
    try simp[aL,okVs,okV,nX,xJ]
    try omega
   rw[h1] at hta hbk;have hb0:(((w.2.2.2/2^k%2:Nat):Int)==0)=false:=by rw[hbk];rfl
   cases h2:decide ((h:Int)<x.frm)
   case' true =>
    have h2':(h:Int)<x.frm:=by simpa using h2
    have hf:gA c ls W G h k=false:=by rw[hta];simp;omega
    (repeat (first|simp only[↓QA,QB,reduceLT,reduceIte,reduceEqDiff,reduceAdd,reduceLeDiff,reduceMul,Nat.reduceBEq,bY,hR.len,hR.base,hR.base0,hR.bset,hR.bset0,hR.at1,hR.at0,gT,gR,cH,bK,dZ,dX,gS,gQ,hk1,hx,vs,va,hb0,h2]|refine rd0 rfl ?_))
    refine⟨k+1,by omega,by omega,?_⟩;rw[hno hf,gno hf];try simp only[aB,QE,reduceLT,reduceIte,reduceEqDiff,reduceAdd,reduceLeDiff,reduceMul,Nat.reduceBEq,bY,hR.len,hR.base,hR.base0,hR.bset,hR.bset0,hR.at1,hR.at0,gT,gR,cH,bK,dZ,dX,gS,gQ,hwk]
    try simp[aL,okVs,okV,nX,xJ]
    try omega
   have h2':¬(h:Int)<x.frm:=by simpa using h2
   cases h3:decide (0<V)
   case' true =>
    have h3':0<V:=by simpa using h3
    have hf:gA c ls W G h k=false:=by rw[hta];simp;omega
    (repeat (first|simp only[↓QA,QB,reduceLT,reduceIte,reduceEqDiff,reduceAdd,reduceLeDiff,reduceMul,Nat.reduceBEq,bY,hR.len,hR.base,hR.base0,hR.bset,hR.bset0,hR.at1,hR.at0,gT,gR,cH,bK,dZ,dX,gS,gQ,hk1,hx,vs,va,hb0,h2,ik,c4,hgl,h3]|refine rd0 rfl ?_))
    refine⟨k+1,by omega,by omega,?_⟩;rw[hno hf,gno hf];try simp only[aB,QE,reduceLT,reduceIte,reduceEqDiff,reduceAdd,reduceLeDiff,reduceMul,Nat.reduceBEq,bY,hR.len,hR.base,hR.base0,hR.bset,hR.bset0,hR.at1,hR.at0,gT,gR,cH,bK,dZ,dX,gS,gQ,hwk]
    try simp[aL,okVs,okV,nX,xJ]
    try omega
   have h3':¬0<V:=by simpa using h3
   have ht:gA c ls W G h k=true:=by rw[hta];simp;omega
   have hs:=GY (ptT c ls W G h k) (min U h) (i:=k) (by omega);rw[hyes ht] at hs
   (repeat (first|simp only[↓QA,QB,reduceLT,reduceIte,reduceEqDiff,reduceAdd,reduceLeDiff,reduceMul,Nat.reduceBEq,bY,hR.len,hR.base,hR.base0,hR.bset,hR.bset0,hR.at1,hR.at0,gT,gR,cH,bK,dZ,dX,gS,gQ,hk1,hx,vs,va,hb0,h2,ik,c4,hgl,h3,hgp,hs]|refine rd0 rfl ?_))
   refine⟨k+1,by omega,by omega,?_⟩;rw[gyes ht];try simp only[aB,QE,reduceLT,reduceIte,reduceEqDiff,reduceAdd,reduceLeDiff,reduceMul,Nat.reduceBEq,bY,hR.len,hR.base,hR.base0,hR.bset,hR.bset0,hR.at1,hR.at0,gT,gR,cH,bK,dZ,dX,gS,gQ,hwk]
   try simp[aL,okVs,okV,nX,xJ]
   try omega
  ·have hk1:k=c.lots.length:=by simp at hd2;omega
   subst hk1;have hg3:=gb c.lots.length;have hgA:gsT c ls W G h c.lots.length=w5 c ls h (cC c ls W G h):=aKZ;rw[aK4];obtain⟨g0,hg0⟩:∃ g0,gsT c ls W G h c.lots.length=g0:=⟨_,rfl⟩;rw[hg0] at hg3 hgA ⊢;cases h4:((h:Int)==(c.heat.length:Int))
   case' true =>
    have h4':h=c.heat.length:=by simp at h4;omega
    subst h4'
    (repeat (first|simp only[↓QA,QB,reduceLT,reduceIte,reduceEqDiff,reduceAdd,reduceLeDiff,reduceMul,Nat.reduceBEq,bY,hR.len,hR.base,hR.base0,hR.bset,hR.bset0,hR.at1,hR.at0,gT,gR,cH,bK,dZ,dX,gS,gQ,h4,hput]|refine rd0 rfl ?_))
    refine⟨_,_,rfl,rfl,?_⟩;try simp only[QS,QC,reduceLT,reduceIte,reduceEqDiff,reduceAdd,reduceLeDiff,reduceMul,Nat.reduceBEq,bY,hR.len,hR.base,hR.base0,hR.bset,hR.bset0,hR.at1,hR.at0,gT,gR,cH,bK,dZ,dX,gS,gQ,u5]
    simp only[hls',hG,hW]
   have h4':h<c.heat.length:=by simp at h4;omega
   have hhb:=GL hv h;have hha:=PG h4';obtain⟨y,hy⟩:∃ y,c.heat[h]=y:=⟨_,rfl⟩;rw[hy] at hha;rw[hha] at hhb
   (repeat (first|simp only[↓QA,QB,reduceLT,reduceIte,reduceEqDiff,reduceAdd,reduceLeDiff,reduceMul,Nat.reduceBEq,bY,hR.len,hR.base,hR.base0,hR.bset,hR.bset0,hR.at1,hR.at0,gT,gR,cH,bK,dZ,dX,gS,gQ,h4]|refine rd0 rfl ?_))
   refine cI (S:=Nat) 0 (fun k=>k<=c.lots.length) (fun k=>c.lots.length-k)
    (fun k=>[(0,.ptr p 0),(3,.ptr N 0),(4,.ptr (N+1) 0),(7,.ptr (N+3) 0),(9,.ptr (N+4) 0),(10,.int .i64 h),(11,.int .i64 g0),(43,.int .i64 (c.heat.length+1:Nat)),(44,.int .i64 h),(101,.lit (c.lots.map encLot) false none),(102,.int .i64 c.lots.length),(103,.int .i64 k)])
    (fun k=>S M++[.cells (bM w),.cells (hrs fun _=>0),.cells (hrs fun _=>0),.cells (hrs (fun i=>bE c ls W G i (h+1))),.cells (hrs (lfT c ls W G h k))]) (Nat.zero_le _) (by rw[aWW]) ?_ fun k hk=>?_
   ·try simp only[aB,QE,reduceLT,reduceIte,reduceEqDiff,reduceAdd,reduceLeDiff,reduceMul,Nat.reduceBEq,bY,hR.len,hR.base,hR.base0,hR.bset,hR.bset0,hR.at1,hR.at0,gT,gR,cH,bK,dZ,dX,gS,gQ]
    try simp
   (repeat (first|simp only[↓QA,QB,reduceLT,reduceIte,reduceEqDiff,reduceAdd,reduceLeDiff,reduceMul,Nat.reduceBEq,bY,hR.len,hR.base,hR.base0,hR.bset,hR.bset0,hR.at1,hR.at0,gT,gR,cH,bK,dZ,dX,gS,gQ,WU]|refine rd0 rfl ?_))
   refine aE (fun hd3=>?_) fun hd3=>?_
   ·have hk1:k<c.lots.length:=by simpa using hd3
    have hwk:=bR hk1 (by omega);have ik:(0:Int)<=(k:Int)/\(k:Int)<((5:Nat):Int):=⟨by omega,by omega⟩;have ih:(0:Int)<=(h:Int)/\(h:Int)<((c.heat.length:Nat):Int):=⟨by omega,by omega⟩;have c4:k<=4:=by omega
    have hfa:=rW hk1;have hin:=aAX (c:=c) (ls:=ls) (w:=W) (g:=G) (h:=h) hk1;have hgl:=xE (lfT c ls W G h k) (i:=k) (by omega);rw[aSQ,hin] at hgl;have hno:=aST (c:=c) (ls:=ls) (w:=W) (g:=G) (h:=h) hk1;have hyes:=aMM (c:=c) (ls:=ls) (w:=W) (g:=G) (h:=h) hk1;have hVb:=hlb k h;obtain⟨x,hx⟩:∃ x,c.lots[k]=x:=⟨_,rfl⟩;rw[hx] at hfa;rw[hfa] at hno hyes;rw[<-hgA,hha] at hyes;obtain⟨V,hV⟩:∃ V,cC c ls W G h k=V:=⟨_,rfl⟩;rw[hV] at hgl hno hyes hVb;cases h5:decide (x.frm<=(h:Int))
    ·have h5':¬x.frm<=(h:Int):=by simpa using h5
     (repeat (first|simp only[↓QA,QB,reduceLT,reduceIte,reduceEqDiff,reduceAdd,reduceLeDiff,reduceMul,Nat.reduceBEq,bY,hR.len,hR.base,hR.base0,hR.bset,hR.bset0,hR.at1,hR.at0,gT,gR,cH,bK,dZ,dX,gS,gQ,hk1,hx,h5]|refine rd0 rfl ?_))
     refine⟨k+1,by omega,by omega,?_⟩;rw[hno (by omega)];try simp only[aB,QE,reduceLT,reduceIte,reduceEqDiff,reduceAdd,reduceLeDiff,reduceMul,Nat.reduceBEq,bY,hR.len,hR.base,hR.base0,hR.bset,hR.bset0,hR.at1,hR.at0,gT,gR,cH,bK,dZ,dX,gS,gQ,hwk]
     try simp[aL,okVs,okV,nX,xJ]
     try omega
    have h5':x.frm<=(h:Int):=by simpa using h5
    cases h6:decide (0<V)
    ·have h6':¬0<V:=by simpa using h6
     (repeat (first|simp only[↓QA,QB,reduceLT,reduceIte,reduceEqDiff,reduceAdd,reduceLeDiff,reduceMul,Nat.reduceBEq,bY,hR.len,hR.base,hR.base0,hR.bset,hR.bset0,hR.at1,hR.at0,gT,gR,cH,bK,dZ,dX,gS,gQ,hk1,hx,h5,ik,c4,hgl,h6]|refine rd0 rfl ?_))
     refine⟨k+1,by omega,by omega,?_⟩;rw[hno (by omega)];try simp only[aB,QE,reduceLT,reduceIte,reduceEqDiff,reduceAdd,reduceLeDiff,reduceMul,Nat.reduceBEq,bY,hR.len,hR.base,hR.base0,hR.bset,hR.bset0,hR.at1,hR.at0,gT,gR,cH,bK,dZ,dX,gS,gQ,hwk]
     try simp[aL,okVs,okV,nX,xJ]
     try omega
    have h6':0<V:=by simpa using h6
    have w1:IntKind.i64.wrap (y+W)=y+W:=bZ ⟨by omega,by omega⟩;have w2:IntKind.i64.wrap (y+W+g0)=y+W+g0:=bZ ⟨by omega,by omega⟩;have w3:IntKind.i64.wrap (V-(y+W+g0))=V-(y+W+g0):=bZ ⟨by omega,by omega⟩;have hs:=GY (lfT c ls W G h k) (V-(y+W+g0)) (i:=k) (by omega);rw[hyes ⟨h5',h6'⟩] at hs
    (repeat (first|simp only[↓QA,QB,reduceLT,reduceIte,reduceEqDiff,reduceAdd,reduceLeDiff,reduceMul,Nat.reduceBEq,bY,hR.len,hR.base,hR.base0,hR.bset,hR.bset0,hR.at1,hR.at0,gT,gR,cH,bK,dZ,dX,gS,gQ,hk1,hx,h5,ik,c4,hgl,h6,h4',hy,w1,w2,w3,hs,hW]|refine rd0 rfl ?_))
    refine⟨k+1,by omega,by omega,?_⟩;try simp only[aB,QE,reduceLT,reduceIte,reduceEqDiff,reduceAdd,reduceLeDiff,reduceMul,Nat.reduceBEq,bY,hR.len,hR.base,hR.base0,hR.bset,hR.bset0,hR.at1,hR.at0,gT,gR,cH,bK,dZ,dX,gS,gQ,hwk]
    try simp[aL,okVs,okV,nX,xJ]
    try omega
   ·have hk1:k=c.lots.length:=by simp at hd3;omega
    rw[hk1,aMP]
    (repeat (first|simp only[↓QA,QB,reduceLT,reduceIte,reduceEqDiff,reduceAdd,reduceLeDiff,reduceMul,Nat.reduceBEq,bY,hR.len,hR.base,hR.base0,hR.bset,hR.bset0,hR.at1,hR.at0,gT,gR,cH,bK,dZ,dX,gS,gQ]|refine rd0 rfl ?_))
    refine⟨h+1,by omega,by omega,?_⟩;try simp only[aB,QE,reduceLT,reduceIte,reduceEqDiff,reduceAdd,reduceLeDiff,reduceMul,Nat.reduceBEq,bY,hR.len,hR.base,hR.base0,hR.bset,hR.bset0,hR.at1,hR.at0,gT,gR,cH,bK,dZ,dX,gS,gQ,hwh2]
    try simp[aL,okVs,okV,nX,xJ]
    try omega
def lv:List (List Int)->List Int->List (List Int)
 |[],l=>[l]
 |xs::rs,l=>xs.flatMap fun n=>lv rs (l++[n])
def gis(c:Car)(hd:Int):List (List Int):=(List.range c.lots.length).map (jN c hd)
theorem AW(c:Car)(hd:Int):(gis c hd).length=c.lots.length:=by simp[gis]
theorem JR{c:Car}{n:Nat}(hn:n<c.lots.length)(hd:Int):(gis c hd).drop n=jN c hd n::(gis c hd).drop (n+1):=by
 rw[List.drop_eq_getElem_cons (by rw[AW];exact hn)];simp[gis]
theorem aHE(c:Car)(hd:Int):∀ k n,n+k=c.lots.length->(cP c hd n).flatMap (lv ((gis c hd).drop n))=jV c hd
 |0,n,h=>by
  have h1:(gis c hd).drop n=[]:=List.drop_eq_nil_of_le (by rw[AW];omega);rw[h1,show n=c.lots.length by omega];show (jV c hd).flatMap (fun l=>[l])=jV c hd
  simp
 |k+1,n,h=>by
  rw[JR (show n<c.lots.length by omega),<-aHE c hd k (n+1) (by omega)];simp only[cP,List.flatMap_assoc,List.flatMap_map];rfl
theorem aJ7(c:Car)(hd:Int):lv (gis c hd) []=jV c hd:=by
 have:=aHE c hd c.lots.length 0 (by omega);simpa[cP] using this
theorem gL:∀ (k:Nat) (n:Int),(aM n k).Nodup
 |0,n=>by simp[aM]
 |k+1,n=>by
  simp only[aM,List.nodup_cons];refine⟨fun h=>?_,gL k (n+1)⟩;rw[bC] at h;omega
theorem B3{α β:Type}(f:α->β){l:List α}(h:l.Nodup)(hi:∀ a∈l,∀ b∈l,f a=f b->a=b):(l.map f).Nodup:=by
 unfold List.Nodup at h ⊢;rw[List.pairwise_map];exact h.imp_of_mem fun ha hb hne e=>hne (hi _ ha _ hb e)
theorem DV(c:Car)(hd:Int)(n:Nat):(jN c hd n).Nodup:=by
 unfold jN;split
 ·exact gL _ _
 ·simp
theorem tK{c:Car}(hv:Vd c)(hd:Int):∀ n,(cP c hd n).Nodup
 |0=>by simp[cP]
 |n+1=>by
  have ih:=tK hv hd n;have hin:=mQ hv hd n;simp only[cP];unfold List.Nodup;rw[List.pairwise_flatMap];refine⟨fun p _=>B3 _ (DV c hd n) fun a _ b _ e=>?_,?_⟩
  ·simpa using e
  ·refine List.Pairwise.imp_of_mem ?_ ih;intro p q hp hq hne x hx y hy e;obtain⟨a,_,rfl⟩:=List.mem_map.1 hx;obtain⟨b,_,rfl⟩:=List.mem_map.1 hy;refine hne (List.append_inj_left e ?_);rw[(hin p hp).1,(hin q hq).1]
theorem UG{c:Car}(hv:Vd c)(hd:Nat):(fD c hd).Nodup:=by
 have h1:(pC c hd).Nodup:=by
  unfold pC;split
  ·exact gL _ _
  ·simp
 unfold fD List.Nodup;rw[List.pairwise_flatMap];refine⟨fun w _=>B3 _ (tK hv hd _) fun a _ b _ e=>?_,?_⟩
 ·injection e
 ·refine List.Pairwise.imp ?_ h1;intro a b hne x hx y hy e;obtain⟨p,_,rfl⟩:=List.mem_map.1 hx;obtain⟨q,_,rfl⟩:=List.mem_map.1 hy;injection e with e1 _
  exact hne e1
def kyW(c:Car)(hd:Int)(w:Way):Ky:=rX hd w.warm (gF w.greens) (k8 c hd)
theorem QW{hd wm:Int}{l:List Int}{th:Nat}(h:l.length<=5):kG (rX hd wm (gF l) th)=gF l:=by
 funext i;by_cases hi:i<5
 ·exact aRO _ _ _ _ hi
 ·have h1:l[i]? = none:=List.getElem?_eq_none (by omega);have h2:gF l i=0:=by simp[gF,h1]
  rw[h2];unfold kG gF;rw[List.getElem?_eq_none (by simp;omega)];rfl
theorem aF2{c:Car}{hd:Int}{a b:Way}(h1:a.greens.length<=5)(h2:b.greens.length=a.greens.length)(h:kyW c hd a=kyW c hd b):a=b:=by
 have e1:=congrArg kG h;have e2:a.warm=b.warm:=congrArg (fun x:Ky=>x.2.1) h;unfold kyW at e1;rw[QW h1,QW (by omega)] at e1;obtain⟨w,l⟩:=a;obtain⟨w',l'⟩:=b;simp only at e1 e2 h2 h1;have:l=l':=by
  refine List.ext_getElem h2.symm fun i hi hi2=>?_
  have:=congrFun e1 i;simpa[gF,hi,hi2] using this
 rw[e2,this]
theorem UC{c:Car}(hv:Vd c){hd:Nat}(hhd:hd<c.holds.length):((fD c hd).map (kyW c hd)).Nodup:=by
 have hnl:=hv.nlt;refine B3 _ (UG hv hd) fun a ha b hb e=>?_
 have h1:=(OT hv hhd ha).len;have h2:=(OT hv hhd hb).len;exact aF2 (by omega) (by omega) e
theorem O0{c:Car}{hd:Int}{w:Way}(h:w.greens.length<=5):kyT c (kyW c hd w)=eQ c hd w:=by
 funext i;have e:(fun i=>(kyW c hd w).2.2.2.testBit i)=inHold c hd:=by
  funext j;exact E1 c hd j
 unfold kyT eQ;rw[e];unfold kyW;rw[QW h];rfl
theorem V3{c:Car}(hv:Vd c){hd:Int}{w:Way}(h:WayOk c w):KyOk (kyW c hd w):=by
 have hnl:=hv.nlt;have hl:=h.len;refine⟨h.warm,fun i=>?_,?_⟩
 ·unfold kyW;rw[QW (by omega)];exact aHH h.green i
 ·have:=KW hv hd;show k8 c hd<32
  omega
def qQ(c:Car)(hd:Int)(w:Way):Bool:=tQ c hd (eQ c hd w)
section
variable {Y:Type} (c:Car) (hd:Int) (f:Way->Y×List Ky->(Y×List Ky)×Bool)
def stepG(w:Way)(z:Y×List Ky):(Y×List Ky)×Bool:=if qQ c hd w=true then f w (z.1,bN z.2 (kyW c hd w)) else ((z.1,bN z.2 (kyW c hd w)),true)
def stepF(w:Way)(x:Ky×(Y×List Ky)):(Ky×(Y×List Ky))×Bool :=
 if kyW c hd w=x.1 then (x,true) else if qQ c hd w=true then ((kyW c hd w,(f w (x.2.1,bN x.2.2 (kyW c hd w))).1),(f w (x.2.1,bN x.2.2 (kyW c hd w))).2) else ((x.1,(x.2.1,bN x.2.2 (kyW c hd w))),true)
theorem wA:∀ (az:List Way) (la:Ky) (z:Y×List Ky),(az.map (kyW c hd)).Nodup->la∉az.map (kyW c hd)->(bF (stepF c hd f) az (la,z)).1.2=(bF (stepG c hd f) az z).1/\(bF (stepF c hd f) az (la,z)).2=(bF (stepG c hd f) az z).2
 |[],la,z,_,_=>⟨rfl,rfl⟩
 |a::az,la,z,hn,hl=>by
  simp only[List.map_cons,List.nodup_cons,List.mem_cons,not_or] at hn hl;have hne:¬kyW c hd a=la:=fun e=>hl.1 e.symm
  simp only[bF,stepF,stepG,hne,if_false];by_cases hs:qQ c hd a=true
  ·simp only[hs,if_true];obtain⟨r,hr⟩:∃ r,f a (z.1,bN z.2 (kyW c hd a))=r:=⟨_,rfl⟩;rw[hr];cases h2:r.2
   ·simp
   ·simp only[if_true];exact wA az _ _ hn.2 hn.1
  ·simp only[hs,if_false,if_true];exact wA az la _ hn.2 hl.2
end
def ky0:Ky:=(-1,0,(0,0,0,0,0),0)
theorem aLV(c:Car)(hd:Nat)(az:List Way):ky0∉az.map (kyW c hd):=by
 intro h;obtain⟨w,_,e⟩:=List.mem_map.1 h;have:((hd:Int)) = -1:=congrArg (fun x:Ky=>x.1) e;omega
end Go.Am.Room.Tu
namespace Go.Am.Room
def rS{X:Type}(Z ZD:X->St)(r:X×Bool):St:=if r.2=true then Z r.1 else ZD r.1
def wF{A X:Type}(Z ZD:X->St)(id:Nat)(args:A->List AV)(P:A->Prop)(f:A->X->X×Bool):Prop :=
 ∀ t,P t->∀ x τ,Run T (.callv (.yield id) (args t) (Z x++τ)) fun o=>o.v = .bool (f t x).2/\∃ τ',o.σ=rS Z ZD (f t x)++(τ++τ')
end Go.Am.Room
namespace Go.Am.Room.Tu
def k7:=zz @eD (zz @encSeen_eq (zz @aN (zz @eM (zz @dM (zz @dK (zz @List.length_append.{0} (zz @LP (zz @K6 (zz @IW (zz @JD (zz @I8 (zz @IP (zz @LH (zz @dR (zz @Nat.add_lt_add_iff_left (zz @Nat.lt_add_right_iff_pos (zz @Nat.mul_one (zz @Int.toNat_natCast (zz @pM (zz @mK (zz @mJ (zz @mO (zz @u5 (zz @gT (zz @gR (zz @cH (zz @bK (zz @dZ (zz @dX (zz @gS (@gQ)))))))))))))))))))))))))))))))
theorem aUK(k:Nat)(hk:k<60):cQ .shr (.int .i64 0) (.int .i64 (k:Int))=some (.int .i64 0):=by
 have:=IR 0 k (by omega);simpa using this
theorem aCQ:cQ .and (.int .i64 0) (.int .i64 1)=some (.int .i64 0):=by
 have:=BE 0 (by omega);simpa using this
theorem aEO{c:Car}{hd:Int}{t:Nat->Int}{k:Nat}(h:rZ c hd t k=false):tQ c hd t=false:=by
 rw[<-CY];cases e:rZ c hd t c.seen.length
 ·rfl
 ·rw[<-h];symm;simp only[rZ,List.all_eq_true] at e ⊢;exact fun x hx=>e x (by rw[List.take_length];exact List.mem_of_mem_take hx)
theorem aAH{S:List Ky->St}{c:Car}{p m N:Nat}(hR:MemAt S (tb c m) (kEs c) p m N)(hv:Vd c)(M:List Ky)(hd:Int)(t:Nat->Int):fZ T (.func 407 [.ptr p 0] []) [.int .i64 hd,.agg (hrs t)] (S M) (.bool (tQ c hd t)):=by
 refine dH (af:=aAM) rfl (by simp[aAM]) ?_;have hns:=hv.nsn;have hnl:=hv.nlt;have hpl:=hR.pl;obtain⟨R,hRe⟩:∃ R,tQ c hd t=R:=⟨_,rfl⟩;rw[hRe]
 (repeat (first|simp only[↓QA,QB,reduceLT,reduceIte,reduceEqDiff,reduceAdd,reduceLeDiff,reduceMul,Nat.reduceBEq,k7,hR.len,hR.base,hR.base0,hR.bset,hR.bset0,hR.at1,hR.at0,aAM]|refine rd0 rfl ?_))
 refine cI (S:=Nat) 0 (fun k=>k<=c.seen.length/\rZ c hd t k=true) (fun k=>c.seen.length-k)
  (fun k=>[(0,.ptr p 0),(1,.int .i64 hd),(5,.ptr N 0),(13,.lit (c.seen.map encSeen) false none),(14,.int .i64 c.seen.length),(15,.int .i64 k)]) (fun _=>S M++[.cells (hrs t)]) ⟨Nat.zero_le _,by simp[rZ]⟩ rfl ?_ fun k hk=>?_
 ·try simp only[aB,QE,reduceLT,reduceIte,reduceEqDiff,reduceAdd,reduceLeDiff,reduceMul,Nat.reduceBEq,k7,hR.len,hR.base,hR.base0,hR.bset,hR.bset0,hR.at1,hR.at0]
  try simp
 obtain⟨hk,hso⟩:=hk
 (repeat (first|simp only[↓QA,QB,reduceLT,reduceIte,reduceEqDiff,reduceAdd,reduceLeDiff,reduceMul,Nat.reduceBEq,k7,hR.len,hR.base,hR.base0,hR.bset,hR.bset0,hR.at1,hR.at0,UT]|refine rd0 rfl ?_))
 refine aE (fun h=>?_) fun h=>?_
 ·have hk1:k<c.seen.length:=by simpa using h
  have hw:=bR hk1 (by omega);have hsu:=E4 hk1 hd t;rw[hso,Bool.true_and] at hsu;have hsx:=hv.sn _ (List.getElem_mem hk1);obtain⟨x,hx⟩:∃ x,c.seen[k]=x:=⟨_,rfl⟩;rw[hx] at hsu hsx;obtain⟨l,hl⟩:∃ l:Nat,x.lot=l:=⟨x.lot.toNat,by omega⟩;have hlc:l<c.lots.length:=by omega
  have il:(0:Int)<=(l:Int)/\(l:Int)<((5:Nat):Int):=⟨by omega,by omega⟩;have c4:l<=4:=by omega
  have hgl:=xE t (i:=l) (by omega);have hat:=wW hlc hd;obtain⟨y,hy⟩:∃ y,c.lots[l]=y:=⟨_,rfl⟩;rw[hy] at hat
  obtain⟨z,hz⟩:∃ z,t l=z:=⟨_,rfl⟩;rw[hz] at hgl;have hlo:lookOk c hd t x=(!decide (y.hold=hd)||(decide (z<=x.hour)==x.turned)):=by
   simp only[lookOk,hl,Int.toNat_natCast,hat,hz]
  rw[hlo] at hsu;have vs:=aUK k (by omega);cases h1:(y.hold==hd)
  ·have h1':¬y.hold=hd:=by simpa using h1
   have hs2:rZ c hd t (k+1)=true:=by rw[hsu];simp[h1']
   (repeat (first|simp only[↓QA,QB,reduceLT,reduceIte,reduceEqDiff,reduceAdd,reduceLeDiff,reduceMul,Nat.reduceBEq,k7,hR.len,hR.base,hR.base0,hR.bset,hR.bset0,hR.at1,hR.at0,hk1,hx,vs,aCQ,hl,hlc,hy,h1]|refine rd0 rfl ?_))
   refine⟨k+1,⟨by omega,hs2⟩,by omega,?_⟩;try simp only[aB,QE,reduceLT,reduceIte,reduceEqDiff,reduceAdd,reduceLeDiff,reduceMul,Nat.reduceBEq,k7,hR.len,hR.base,hR.base0,hR.bset,hR.bset0,hR.at1,hR.at0,hw]
   try simp[aL,okVs,okV,nX]
   try omega
  ·have h1':y.hold=hd:=by simpa using h1
   have hs2:rZ c hd t (k+1)=(decide (z<=x.hour)==x.turned):=by rw[hsu];simp[h1']
   obtain⟨b,hb⟩:∃ b,decide (z<=x.hour)=b:=⟨_,rfl⟩;obtain⟨u,hu⟩:∃ u,x.turned=u:=⟨_,rfl⟩;rw[hb,hu] at hs2;cases hbu:(b==u)
   ·rw[hbu] at hs2;have hfin:R=false:=by rw[<-hRe];exact aEO hs2
    subst hfin
    (repeat (first|simp only[↓QA,QB,reduceLT,reduceIte,reduceEqDiff,reduceAdd,reduceLeDiff,reduceMul,Nat.reduceBEq,k7,hR.len,hR.base,hR.base0,hR.bset,hR.bset0,hR.at1,hR.at0,hk1,hx,vs,aCQ,hl,hlc,hy,h1,il,c4,hgl,hb,hu,hbu]|refine rd0 rfl ?_))
    refine cS _ rfl ?_;try simp only[QS,QC,reduceLT,reduceIte,reduceEqDiff,reduceAdd,reduceLeDiff,reduceMul,Nat.reduceBEq,k7,hR.len,hR.base,hR.base0,hR.bset,hR.bset0,hR.at1,hR.at0]
   ·rw[hbu] at hs2
    (repeat (first|simp only[↓QA,QB,reduceLT,reduceIte,reduceEqDiff,reduceAdd,reduceLeDiff,reduceMul,Nat.reduceBEq,k7,hR.len,hR.base,hR.base0,hR.bset,hR.bset0,hR.at1,hR.at0,hk1,hx,vs,aCQ,hl,hlc,hy,h1,il,c4,hgl,hb,hu,hbu]|refine rd0 rfl ?_))
    refine⟨k+1,⟨by omega,hs2⟩,by omega,?_⟩;try simp only[aB,QE,reduceLT,reduceIte,reduceEqDiff,reduceAdd,reduceLeDiff,reduceMul,Nat.reduceBEq,k7,hR.len,hR.base,hR.base0,hR.bset,hR.bset0,hR.at1,hR.at0,hw]
    try simp[aL,okVs,okV,nX]
    try omega
 ·have hk1:k=c.seen.length:=by simp at h;omega
  have hfin:R=true:=by rw[<-hRe,<-CY,<-hk1,hso]
  subst hfin
  (repeat (first|simp only[↓QA,QB,reduceLT,reduceIte,reduceEqDiff,reduceAdd,reduceLeDiff,reduceMul,Nat.reduceBEq,k7,hR.len,hR.base,hR.base0,hR.bset,hR.bset0,hR.at1,hR.at0]|refine rd0 rfl ?_))
  refine cS _ rfl ?_;try simp only[QS,QC,reduceLT,reduceIte,reduceEqDiff,reduceAdd,reduceLeDiff,reduceMul,Nat.reduceBEq,k7,hR.len,hR.base,hR.base0,hR.bset,hR.bset0,hR.at1,hR.at0]
end Go.Am.Room.Tu
set_option maxRecDepth 8000
namespace Go.Am.Room.Tu
def uH:=zz @eD (zz @encSeen_eq (zz @aN (zz @eM (zz @dM (zz @dK (zz @List.length_append.{0} (zz @LP (zz @K6 (zz @IW (zz @JD (zz @I8 (zz @IP (zz @LH (zz @Nat.mul_one (zz @Int.toNat_natCast (zz @j5 (zz @kA (zz @l0 (zz @lX (zz @pM (zz @mK (zz @mJ (zz @mO (zz @u5 (zz @gT (zz @gR (zz @cH (zz @bK (zz @dZ (zz @dX (zz @gS (@gQ))))))))))))))))))))))))))))))))
theorem mF:[SK.i,.i,.i,.i,.i,.i,.i,.i]=List.replicate 8 .i:=rfl
theorem aI0(a b:Ky):bJ (List.replicate 8 .i) (bM a) (bM b)=some (decide (a=b)):=by
 have:=(F6 ⟨[],0,[],[],[]⟩).eq a b;simpa[iS,mD] using this
structure TFam {Y:Type} (Z:Y×List Ky->St) (c:Car) (m p q qh:Nat) (hd:Int) (N:Nat):Prop where
 mem:∀ y,MemAt (fun M=>Z (y,M)) (tb c m) (kEs c) p m N
 atq:∀ z τ,aO (Z z++τ) q=some [.ptr p 0]
 ath:∀ z τ,aO (Z z++τ) qh=some [.int .i64 hd]
namespace TFam
variable {Y:Type} {Z:Y×List Ky->St} {c:Car} {m p q qh N:Nat} {hd:Int}
theorem len(h:TFam Z c m p q qh hd N)(z:Y×List Ky):(Z z).length=N:=(h.mem z.1).len z.2
theorem atp(h:TFam Z c m p q qh hd N)(z:Y×List Ky)(τ:St):aO (Z z++τ) p=some (tb c m):=(h.mem z.1).at1 z.2 τ
theorem base(h:TFam Z c m p q qh hd N)(z:Y×List Ky)(τ:St)(k:Nat):aO (Z z++τ) (N+k)=aO τ k:=by rw[<-h.len z];exact n8 _ _ _
theorem base0(h:TFam Z c m p q qh hd N)(z:Y×List Ky)(τ:St):aO (Z z++τ) N=aO τ 0:=h.base z τ 0
theorem bset(h:TFam Z c m p q qh hd N)(z:Y×List Ky)(τ:St)(k:Nat)(y:ABlk):(Z z++τ).set (N+k) y=Z z++τ.set k y:=by rw[<-h.len z];exact mW _ _ _ _
theorem bset0(h:TFam Z c m p q qh hd N)(z:Y×List Ky)(τ:St)(y:ABlk):(Z z++τ).set N y=Z z++τ.set 0 y:=h.bset z τ 0 y
theorem times(h:TFam Z c m p q qh hd N)(hv:Vd c)(z:Y×List Ky)(τ:St)(w:Ky)(hw:KyOk w):
  sJ T (.func 273 [] []) [.ptr p 0,mD w] (Z z++τ) (G9 c w) (Z (z.1,bN z.2 w)++τ):=DE ((h.mem z.1).app τ) hv z.2 w hw
theorem seen(h:TFam Z c m p q qh hd N)(hv:Vd c)(z:Y×List Ky)(τ:St)(t:Nat->Int):
  fZ T (.func 407 [.ptr p 0] []) [.int .i64 hd,.agg (hrs t)] (Z z++τ) (.bool (tQ c hd t)):=aAH ((h.mem z.1).app τ) hv z.2 hd t
end TFam
def xV(q qh N:Nat):AV:=.func 408 [] [.ptr q 0,.ptr (N+2) 0,.ptr (N+3) 0,.ptr (N+1) 0,.ptr qh 0,.ptr N 0,.ptr (N+4) 0]
theorem qU(q qh N:Nat):xV q qh N = .func 408 [] [.ptr q 0,.ptr (N+2) 0,.ptr (N+3) 0,.ptr (N+1) 0,.ptr qh 0,.ptr N 0,.ptr (N+4) 0]:=by simp only[xV]
def sD(c:Car)(hd:Int)(id p q qh N:Nat)(wm:Int)(A:Nat->Int)(la:Ky):St:=[.cells [.yield id],.cells [.func 407 [.ptr p 0] []],.cells (bM (rX hd wm A (k8 c hd))),.cells (bM la),.cells [xV q qh N]]
theorem gH(c:Car)(hd:Int)(id p q qh N:Nat)(wm:Int)(A:Nat->Int)(la:Ky)(τ:St):sD c hd id p q qh N wm A la++τ = .cells [.yield id]::.cells [.func 407 [.ptr p 0] []]::.cells (bM (rX hd wm A (k8 c hd)))::.cells (bM la)::.cells [xV q qh N]::τ:=by simp[sD]
def Agr(c:Car)(l:List Int)(A:Nat->Int):Prop:=(∀ j,j<l.length->A j=gF l j)/\∀ j,c.lots.length<=j->A j=0
theorem XP{c:Car}{l:List Int}{A:Nat->Int}(h:Agr c l A)(hl:l.length<c.lots.length)(n:Int):Agr c (l++[n]) (kM A l.length n):=by
 refine⟨fun j hj=>?_,fun j hj=>?_⟩
 ·simp only[kM];by_cases e:j=l.length
  ·subst e;simp[gF]
  ·have:j<l.length:=by simp at hj;omega
   rw[if_neg e,h.1 j this];simp[gF,List.getElem?_append_left this]
 ·simp only[kM];rw[if_neg (by omega)];exact h.2 j hj
theorem VS{c:Car}{l:List Int}{n:Int}{A:Nat->Int}(h:Agr c (l++[n]) A):Agr c l A:=by
 refine⟨fun j hj=>?_,h.2⟩;rw[h.1 j (by simp;omega)];simp[gF,List.getElem?_append_left hj]
theorem aGK{c:Car}{l:List Int}{A:Nat->Int}(h:Agr c l A)(hl:l.length=c.lots.length)(hd wm:Int)(th:Nat):rX hd wm A th=rX hd wm (gF l) th:=by
 have:∀ j,A j=gF l j:=fun j=>by
  by_cases hj:j<l.length
  ·exact h.1 j hj
  ·rw[h.2 j (by omega)];simp[gF,List.getElem?_eq_none (show l.length<=j by omega)]
 simp only[rX,this]
theorem aJ5(hd wm:Int)(A:Nat->Int)(th:Nat)(n:Int){k:Nat}(hk:k<5):(bM (rX hd wm A th)).take (2+k)++[AV.int .i64 n]++(bM (rX hd wm A th)).drop (2+k+1)=bM (rX hd wm (kM A k n) th):=by
 have:k=0\/k=1\/k=2\/k=3\/k=4:=by omega
 rcases this with rfl|rfl|rfl|rfl|rfl<;>rfl
def KI{Y:Type}(Z ZD:Y×List Ky->St)(c:Car)(hd:Int)(id p q qh N:Nat)(wm:Int)(l:List Int)(τ:St)(r:(Ky×(Y×List Ky))×Bool)(o:Out):Prop :=
 o.v = .bool r.2/\∃ A τ',o.σ=rS Z ZD (r.1.2,r.2)++(sD c hd id p q qh N wm A r.1.1++(τ++τ'))/\(r.2=true->Agr c l A)
def aR4{Y:Type}(Z:Y×List Ky->St)(c:Car)(hd:Int)(f:Way->Y×List Ky->(Y×List Ky)×Bool)(id p q qh N:Nat)(wm:Int)(l:List Int)(x:Lot)(H:Int)(rs:List (List Int))(τ:St)(R:(Ky×(Y×List Ky))×Bool)(k:Nat)(e:Env)(σ:St):Prop :=
 Env.get e 0 = .int .i64 l.length/\Env.get e 2 = .ptr (N+2) 0/\Env.get e 7 = .ptr (N+4) 0/\∃ n la z A τ1,Env.get e 10 = .ptr (N+(τ.length+1+1+1+1+1)) 0/\Env.get e 11 = .int .i64 n/\x.green.lo<=n/\n<=H+1/\k=(H+1-n).toNat/\Agr c l A /\
   σ=Z z++(sD c hd id p q qh N wm A la++(τ++(.cells [.int .i64 x.green.lo,.int .i64 H]::τ1)))/\bF (stepF c hd f) (((aM n k).flatMap fun n=>lv rs (l++[n])).map (Way.mk wm)) (la,z)=R
theorem SW{Y:Type}{Z ZD:Y×List Ky->St}{c:Car}{m p q qh N id:Nat}{hd:Int}(hR:TFam Z c m p q qh hd N)(f:Way->Y×List Ky->(Y×List Ky)×Bool)(wm:Int)(hy:wF Z ZD id (fun t=>[mD (kyW c hd t)]) (WayOk c) f)(hv:Vd c)(hwm:0<=wm/\wm<=6)(l:List Int)(la:Ky)(z:Y×List Ky)(A:Nat->Int)(τ:St)(hl:l.length=c.lots.length)(hA:Agr c l A)(hbd:∀ x∈l,0<=x/\x<=40):
  Run T (.callv (xV q qh N) [.int .i64 l.length] (Z z++(sD c hd id p q qh N wm A la++τ))) (KI Z ZD c hd id p q qh N wm l τ (stepF c hd f ⟨wm,l⟩ (la,z))):=by
 have hnl:=hv.nlt;have hwo:WayOk c ⟨wm,l⟩:=⟨hwm,hl,hbd⟩;have hko:=V3 hv (hd:=hd) hwo;have hkt:=O0 (c:=c) (hd:=hd) (w:=⟨wm,l⟩) (by simp only;omega);have hke:rX hd wm A (k8 c hd)=kyW c hd ⟨wm,l⟩:=aGK hA hl _ _ _;have hseen:tQ c hd (kyT c (kyW c hd ⟨wm,l⟩))=qQ c hd ⟨wm,l⟩:=by rw[hkt];rfl
 have hti:=fun τ=>hR.times hv z τ _ hko
 have hse:=fun z τ=>hR.seen hv z τ (kyT c (kyW c hd ⟨wm,l⟩))
 have hcall:∀ x τ,Run T (.callv (.yield id) [mD (kyW c hd ⟨wm,l⟩)] (Z x++τ)) fun o=>o.v = .bool (f ⟨wm,l⟩ x).2/\∃ τ',o.σ=rS Z ZD (f ⟨wm,l⟩ x)++(τ++τ'):=hy ⟨wm,l⟩ hwo
 have hE:((l.length:Int)==(c.lots.length:Int))=true:=by rw[hl];simp
 have hfin:∀ (z:Y×List Ky) (la:Ky) (τ:St),Z z++(.cells [.yield id]::.cells [.func 407 [.ptr p 0] []]::.cells (bM (kyW c hd ⟨wm,l⟩))::.cells (bM la)::.cells [xV q qh N]::τ)=Z z++(sD c hd id p q qh N wm A la++τ):=fun z la τ=>by rw[gH,hke]
 have heq:=aI0 (kyW c hd ⟨wm,l⟩) la;have hon:stepF c hd f ⟨wm,l⟩ (la,z)=if kyW c hd ⟨wm,l⟩=la then ((la,z),true) else if qQ c hd ⟨wm,l⟩=true then ((kyW c hd ⟨wm,l⟩,(f ⟨wm,l⟩ (z.1,bN z.2 (kyW c hd ⟨wm,l⟩))).1),(f ⟨wm,l⟩ (z.1,bN z.2 (kyW c hd ⟨wm,l⟩))).2) else ((la,(z.1,bN z.2 (kyW c hd ⟨wm,l⟩))),true):=rfl
 obtain⟨R,hRR⟩:∃ R,stepF c hd f ⟨wm,l⟩ (la,z)=R:=⟨_,rfl⟩;rw[hRR] at hon ⊢;rw[hseen] at hse;rw[gH,hke];simp only[qU] at hfin ⊢;obtain⟨W,hW⟩:∃ W,kyW c hd ⟨wm,l⟩=W:=⟨_,rfl⟩;obtain⟨B,hB⟩:∃ B,qQ c hd ⟨wm,l⟩=B:=⟨_,rfl⟩;rw[hW] at hti hse heq hon hfin hcall ⊢;rw[hB] at hse hon;simp only[qH,wQ] at hti hcall;refine .callf (.call (af:=HH) rfl (by simp[HH]) (fA (K:=fun j e σ'=>(j=none\/j=some .ret)/\KI Z ZD c hd id p q qh N wm l τ R ⟨none,[],σ',Env.get e 9⟩) ?_ fun o ho=>ho) fun w hw=>⟨hw.1,_,rfl,.inl hw.2⟩);by_cases hu:W=la
 ·rw[if_pos hu] at hon;have hdt:decide (W=la)=true:=by simpa using hu
  rw[hdt] at heq
  (repeat (first|simp only[↓QA,QB,reduceLT,reduceIte,reduceEqDiff,reduceAdd,reduceLeDiff,reduceMul,Nat.reduceBEq,uH,hR.base,hR.base0,hR.bset,hR.bset0,hR.atp,hR.atq,hR.ath,mF,HH,hE,heq]|refine rd0 rfl ?_))
  rw[hon];refine⟨rfl,A,[],?_,fun _=>hA⟩;simp only[rS,if_true,List.append_nil];exact hfin _ _ _
 rw[if_neg hu] at hon;have hdt:decide (W=la)=false:=by simpa using hu
 rw[hdt] at heq
 (repeat (first|simp only[↓QA,QB,reduceLT,reduceIte,reduceEqDiff,reduceAdd,reduceLeDiff,reduceMul,Nat.reduceBEq,uH,hR.base,hR.base0,hR.bset,hR.bset0,hR.atp,hR.atq,hR.ath,mF,HH,hE,heq]|refine rd0 rfl ?_))
 refine kR (hti _) ?_
 (repeat (first|simp only[↓QA,QB,reduceLT,reduceIte,reduceEqDiff,reduceAdd,reduceLeDiff,reduceMul,Nat.reduceBEq,uH,hR.base,hR.base0,hR.bset,hR.bset0,hR.atp,hR.atq,hR.ath,mF]|refine rd0 rfl ?_))
 refine C9 (hse _ _) ?_;cases B
 ·rw[if_neg (by simp)] at hon
  (repeat (first|simp only[↓QA,QB,reduceLT,reduceIte,reduceEqDiff,reduceAdd,reduceLeDiff,reduceMul,Nat.reduceBEq,uH,hR.base,hR.base0,hR.bset,hR.bset0,hR.atp,hR.atq,hR.ath,mF]|refine rd0 rfl ?_))
  rw[hon];refine⟨rfl,A,[],?_,fun _=>hA⟩;simp only[rS,if_true,List.append_nil];exact hfin _ _ _
 ·rw[if_pos rfl] at hon
  (repeat (first|simp only[↓QA,QB,reduceLT,reduceIte,reduceEqDiff,reduceAdd,reduceLeDiff,reduceMul,Nat.reduceBEq,uH,hR.base,hR.base0,hR.bset,hR.bset0,hR.atp,hR.atq,hR.ath,mF]|refine rd0 rfl ?_))
  have hc:=hcall (z.1,bN z.2 W);obtain⟨r,hr⟩:∃ r,f ⟨wm,l⟩ (z.1,bN z.2 W)=r:=⟨_,rfl⟩;rw[hr] at hc hon;refine .mono (hc _) fun w hw=>?_
  obtain⟨hw1,τ',hw2⟩:=hw;rw[hw1,hw2]
  (repeat (first|simp only[↓QA,QB,reduceLT,reduceIte,reduceEqDiff,reduceAdd,reduceLeDiff,reduceMul,Nat.reduceBEq,uH,hR.base,hR.base0,hR.bset,hR.bset0,hR.atp,hR.atq,hR.ath,mF]|refine rd0 rfl ?_))
  rw[hon];refine⟨rfl,A,τ',?_,fun _=>hA⟩;simp only;rw[gH,hke,hW];simp[xV]
end Go.Am.Room.Tu
namespace Go.Am.Room.Tu
def fO:=zz @eD (zz @encSeen_eq (zz @aN (zz @eM (zz @dM (zz @dK (zz @List.length_append.{0} (zz @LP (zz @K6 (zz @IW (zz @JD (zz @I8 (zz @IP (zz @LH (zz @Nat.mul_one (zz @Int.toNat_natCast (zz @j5 (zz @kA (zz @l0 (zz @lX (zz @pM (zz @mK (zz @mJ (zz @mO (zz @u5 (zz @gT (zz @gR (zz @cH (zz @bK (zz @dZ (zz @dX (zz @gS (zz @gQ (@mF)))))))))))))))))))))))))))))))))
theorem aHZ(hd wm:Int)(A:Nat->Int)(th:Nat):(rX hd wm A th).2.2.2=th:=by simp only[rX]
theorem H9{n H:Int}(h:n<=H):aM n (H+1-n).toNat=n::aM (n+1) (H+1-(n+1)).toNat:=by
 rw[show (H+1-n).toNat=(H+1-(n+1)).toNat+1 by omega];rfl
theorem OZ{n H:Int}(h:¬n<=H):aM n (H+1-n).toNat=[]:=by
 rw[show (H+1-n).toNat=0 by omega];rfl
theorem NN{c:Car}{n:Nat}(h:n<c.lots.length)(hd:Int):jN c hd n=aM c.lots[n].green.lo (AO c.lots[n] hd+1-c.lots[n].green.lo).toNat:=by
 rw[BZ h];unfold AO;split
 ·rfl
 ·congr 1;omega
theorem xO{Y:Type}{Z ZD:Y×List Ky->St}{c:Car}{m p q qh N id:Nat}{hd:Int}(hR:TFam Z c m p q qh hd N)(f:Way->Y×List Ky->(Y×List Ky)×Bool)(wm:Int)(hy:wF Z ZD id (fun t=>[mD (kyW c hd t)]) (WayOk c) f)(hv:Vd c)(hwm:0<=wm/\wm<=6):∀ (rs:List (List Int)) (l:List Int) (la:Ky) (z:Y×List Ky) (A:Nat->Int) (τ:St),rs=(gis c hd).drop l.length->l.length<=c.lots.length->Agr c l A->(∀ x∈l,0<=x/\x<=40) ->
  Run T (.callv (xV q qh N) [.int .i64 l.length] (Z z++(sD c hd id p q qh N wm A la++τ))) (KI Z ZD c hd id p q qh N wm l τ (bF (stepF c hd f) ((lv rs l).map (Way.mk wm)) (la,z)))
 |[],l,la,z,A,τ,hrs,hl,hA,hbd=>by
  have hl2:l.length=c.lots.length:=by
   have:=congrArg List.length hrs;simp[AW] at this;omega
  have e:bF (stepF c hd f) ((lv [] l).map (Way.mk wm)) (la,z)=stepF c hd f ⟨wm,l⟩ (la,z):=ER _ _ _;rw[e];exact SW hR f wm hy hv hwm l la z A τ hl2 hA hbd
 |xs::rs,l,la,z,A,τ,hrs,hl,hA,hbd=>by
  have hlt:l.length<c.lots.length:=by
   have:=congrArg List.length hrs;simp[AW] at this;omega
  have hnl:=hv.nlt;rw[JR hlt] at hrs;have hxs:=(List.cons.inj hrs).1;have hrs2:=(List.cons.inj hrs).2;rw[NN hlt] at hxs;have hlb:=(hv.lt _ (List.getElem_mem hlt)).2.2;have hbit:=E1 c hd l.length;rw[wW hlt] at hbit;have hsl:=KW hv hd;obtain⟨x,hx⟩:∃ x,c.lots[l.length]=x:=⟨_,rfl⟩;rw[hx] at hxs hlb hbit;obtain⟨H,hH⟩:∃ H,AO x hd=H:=⟨_,rfl⟩;rw[hH] at hxs;have hHb:x.green.lo<=H/\H<=40:=by rw[<-hH];unfold AO;split<;>omega
  have hE:((l.length:Int)==(c.lots.length:Int))=false:=by simp;omega
  have il:(0:Int)<=(l.length:Int)/\(l.length:Int)<((5:Nat):Int):=⟨by omega,by omega⟩;have c5:2+l.length+1<=8:=by omega
  have hwd:IntKind.i64.wrap ((l.length:Int)+1)=((l.length+1:Nat):Int):=bR hlt (by omega);have vs:=IR (k8 c hd) l.length (by omega);have va:=BE (k8 c hd/2^l.length) (Nat.lt_of_le_of_lt (Nat.div_le_self _ _) (by omega));have hbt:(((k8 c hd/2^l.length%2:Nat):Int)==0) = !decide (x.hold=hd):=by
   rw[<-hbit,jK];rcases Nat.mod_two_eq_zero_or_one (k8 c hd/2^l.length) with h|h<;>simp[h]
  have ih:=fun (n:Int) (hn:x.green.lo<=n/\n<=H) (la:Ky) (z:Y×List Ky) (A:Nat->Int) (hA:Agr c l A) (τ:St)=>xO hR f wm hy hv hwm rs (l++[n]) la z (kM A l.length n) τ (by rw[hrs2];simp) (by simp;omega) (XP hA hlt n) (fun y hy=>by
   rcases List.mem_append.1 hy with h|h
   ·exact hbd y h
   ·have:y=n:=by simpa using h
    omega)
  obtain⟨R,hRR⟩:∃ R,bF (stepF c hd f) ((lv (xs::rs) l).map (Way.mk wm)) (la,z)=R:=⟨_,rfl⟩;rw[hRR];simp only[lv,hxs] at hRR;simp only[qU];refine .callf (.call (af:=HH) rfl (by simp[HH]) (fA (K:=fun j e σ'=>(j=none\/j=some .ret)/\KI Z ZD c hd id p q qh N wm l τ R ⟨none,[],σ',Env.get e 9⟩) ?_ fun o ho=>ho) fun w hw=>⟨hw.1,_,rfl,.inl hw.2⟩);rw[gH];have loop:∀ (e:Env) (K:KJ) (τ0:St),Env.get e 0 = .int .i64 l.length->Env.get e 2 = .ptr (N+2) 0->Env.get e 7 = .ptr (N+4) 0->Env.get e 10 = .ptr (N+(τ.length+1+1+1+1+1)) 0->Env.get e 11 = .int .i64 x.green.lo->τ0=τ++[.cells [.int .i64 x.green.lo,.int .i64 H]] ->
    (∀ j e' σ',KI Z ZD c hd id p q qh N wm l τ R ⟨none,[],σ',.bool R.2⟩->(j=some .ret/\Env.get e' 9 = .bool R.2\/j=some (.exit 0)/\R.2=true)->K j e' σ') ->
    rK (K:=⟨K⟩) T (.loop L4) e (Z z++(sD c hd id p q qh N wm A la++τ0)):=by
   intro e K τ0 e0 e2 e7 e10 e11 hτ0 hK;refine PO (aR4 Z c hd f id p q qh N wm l x H rs τ R) ?_ (H+1-x.green.lo).toNat _ _ ?_
   ·rintro k e σ ⟨e0,e2,e7,n,la,z,A,τ1,e10,e11,hn0,hn1,hk,hA,rfl,hq⟩;subst hk;have hst:=aJ5 hd wm A (k8 c hd) n (k:=l.length) (by omega);rw[gH]
    (repeat (first|simp only[↓QA,QB,reduceLT,reduceIte,reduceEqDiff,reduceAdd,reduceLeDiff,reduceMul,Nat.reduceBEq,fO,hR.base,hR.base0,hR.bset,hR.bset0,hR.atp,hR.atq,hR.ath,L4,e0,e2,e7,e10,e11]|refine rd0 rfl ?_))
    refine aE (fun h=>?_) fun h=>?_
    ·have hn2:n<=H:=by simpa using h
     have hwn:IntKind.i64.wrap (n+1)=n+1:=bZ ⟨by omega,by omega⟩;rw[H9 hn2,List.flatMap_cons,List.map_append,uG] at hq;have hcl:=ih n ⟨hn0,hn2⟩ la z A hA (τ++(.cells [.int .i64 x.green.lo,.int .i64 H]::τ1));simp only[gH,qU,List.length_append,List.length_cons,List.length_nil,Nat.zero_add] at hcl;obtain⟨r,hr⟩:∃ r,bF (stepF c hd f) ((lv rs (l++[n])).map (Way.mk wm)) (la,z)=r:=⟨_,rfl⟩;rw[hr] at hq hcl;simp only[qU]
     (repeat (first|simp only[↓QA,QB,reduceLT,reduceIte,reduceEqDiff,reduceAdd,reduceLeDiff,reduceMul,Nat.reduceBEq,fO,hR.base,hR.base0,hR.bset,hR.bset0,hR.atp,hR.atq,hR.ath,e0,e2,e7,e10,e11,il,c5,Nat.zero_add,hst,hwd]|refine rd0 rfl ?_))
     refine .mono hcl fun w hw=>?_
     obtain⟨hw1,A',τ',hw2,hw3⟩:=hw;rw[hw1,hw2];cases hr2:r.2
     ·rw[hr2] at hq;simp only[Bool.false_eq_true,if_false] at hq
      (repeat (first|simp only[↓QA,QB,reduceLT,reduceIte,reduceEqDiff,reduceAdd,reduceLeDiff,reduceMul,Nat.reduceBEq,fO,hR.base,hR.base0,hR.bset,hR.bset0,hR.atp,hR.atq,hR.ath,e0,e2,e7,e10,e11]|refine rd0 rfl ?_))
      have hR2:R.2=false:=by rw[<-hq]
      refine hK _ _ _ ⟨rfl,A',.cells [.int .i64 x.green.lo,.int .i64 H]::(τ1++τ'),?_,fun h=>?_⟩ (.inl ⟨rfl,?_⟩)
      ·rw[<-hq];try simp[rS]
      ·simp[hR2] at h
      ·try simp only[aB,QE,reduceLT,reduceIte,reduceEqDiff,reduceAdd,reduceLeDiff,reduceMul,Nat.reduceBEq,fO,hR.base,hR.base0,hR.bset,hR.bset0,hR.atp,hR.atq,hR.ath,hR2]
     ·rw[hr2] at hq;simp only[if_true] at hq;have hA':=VS (hw3 hr2);simp only[rS,if_true];rw[gH];simp only[List.append_assoc,List.cons_append]
      (repeat (first|simp only[↓QA,QB,reduceLT,reduceIte,reduceEqDiff,reduceAdd,reduceLeDiff,reduceMul,Nat.reduceBEq,fO,hR.base,hR.base0,hR.bset,hR.bset0,hR.atp,hR.atq,hR.ath,e0,e2,e7,e10,e11,hwn]|refine rd0 rfl ?_))
      refine⟨(H+1-(n+1)).toNat,by omega,?_,?_,?_,n+1,r.1.1,r.1.2,A',τ1++τ',?_,?_,by omega,by omega,rfl,hA',?_,hq⟩
      ·try simp only[aB,QE,reduceLT,reduceIte,reduceEqDiff,reduceAdd,reduceLeDiff,reduceMul,Nat.reduceBEq,fO,hR.base,hR.base0,hR.bset,hR.bset0,hR.atp,hR.atq,hR.ath,e0]
      ·try simp only[aB,QE,reduceLT,reduceIte,reduceEqDiff,reduceAdd,reduceLeDiff,reduceMul,Nat.reduceBEq,fO,hR.base,hR.base0,hR.bset,hR.bset0,hR.atp,hR.atq,hR.ath,e2]
      ·try simp only[aB,QE,reduceLT,reduceIte,reduceEqDiff,reduceAdd,reduceLeDiff,reduceMul,Nat.reduceBEq,fO,hR.base,hR.base0,hR.bset,hR.bset0,hR.atp,hR.atq,hR.ath,e7]
      ·try simp only[aB,QE,reduceLT,reduceIte,reduceEqDiff,reduceAdd,reduceLeDiff,reduceMul,Nat.reduceBEq,fO,hR.base,hR.base0,hR.bset,hR.bset0,hR.atp,hR.atq,hR.ath,e10]
      ·try simp only[aB,QE,reduceLT,reduceIte,reduceEqDiff,reduceAdd,reduceLeDiff,reduceMul,Nat.reduceBEq,fO,hR.base,hR.base0,hR.bset,hR.bset0,hR.atp,hR.atq,hR.ath]
      ·rw[gH]
    ·have hn2:¬n<=H:=by simpa using h
     rw[OZ hn2] at hq;simp only[List.flatMap_nil,List.map_nil,bF] at hq
     (repeat (first|simp only[↓QA,QB,reduceLT,reduceIte,reduceEqDiff,reduceAdd,reduceLeDiff,reduceMul,Nat.reduceBEq,fO,hR.base,hR.base0,hR.bset,hR.bset0,hR.atp,hR.atq,hR.ath,e0,e2,e7,e10,e11]|refine rd0 rfl ?_))
     have hR2:R.2=true:=by rw[<-hq]
     refine hK _ _ _ ⟨rfl,A,.cells [.int .i64 x.green.lo,.int .i64 H]::τ1,?_,fun h=>hA⟩ (.inr ⟨rfl,hR2⟩);rw[<-hq];simp[rS,sD,xV]
   ·refine⟨e0,e2,e7,x.green.lo,la,z,A,[],e10,e11,Int.le_refl _,by omega,rfl,hA,?_,hRR⟩;rw[hτ0]
  have hln:=hR.len z;cases h1:decide (x.hold=hd);all_goals
   rw[h1] at hbt;have hHe:(if decide (x.hold=hd)=true then x.green.hi else x.green.lo)=H:=by rw[<-hH];simp[AO]
   rw[h1] at hHe
   (repeat (first|simp only[↓QA,QB,reduceLT,reduceIte,reduceEqDiff,reduceAdd,reduceLeDiff,reduceMul,Nat.reduceBEq,fO,hR.base,hR.base0,hR.bset,hR.bset0,hR.atp,hR.atq,hR.ath,HH,hE,hlt,hx,hln,aHZ,vs,va,hbt]|refine rd0 rfl ?_))
   have lp:=loop;simp only[gH] at lp;refine lp _ _ _ ?_ ?_ ?_ ?_ ?_ ?_ fun j e' σ' hj hk=>?_
   ·try simp only[aB,QE,reduceLT,reduceIte,reduceEqDiff,reduceAdd,reduceLeDiff,reduceMul,Nat.reduceBEq,fO,hR.base,hR.base0,hR.bset,hR.bset0,hR.atp,hR.atq,hR.ath]
   ·try simp only[aB,QE,reduceLT,reduceIte,reduceEqDiff,reduceAdd,reduceLeDiff,reduceMul,Nat.reduceBEq,fO,hR.base,hR.base0,hR.bset,hR.bset0,hR.atp,hR.atq,hR.ath]
   ·try simp only[aB,QE,reduceLT,reduceIte,reduceEqDiff,reduceAdd,reduceLeDiff,reduceMul,Nat.reduceBEq,fO,hR.base,hR.base0,hR.bset,hR.bset0,hR.atp,hR.atq,hR.ath]
   ·try simp only[aB,QE,reduceLT,reduceIte,reduceEqDiff,reduceAdd,reduceLeDiff,reduceMul,Nat.reduceBEq,fO,hR.base,hR.base0,hR.bset,hR.bset0,hR.atp,hR.atq,hR.ath]
   ·try simp only[aB,QE,reduceLT,reduceIte,reduceEqDiff,reduceAdd,reduceLeDiff,reduceMul,Nat.reduceBEq,fO,hR.base,hR.base0,hR.bset,hR.bset0,hR.atp,hR.atq,hR.ath]
   ·rw[<-hHe];try rfl
   ·rcases hk with⟨rfl,hk⟩|⟨rfl,hk⟩
    ·(repeat (first|simp only[↓QA,QB,reduceLT,reduceIte,reduceEqDiff,reduceAdd,reduceLeDiff,reduceMul,Nat.reduceBEq,fO,hR.base,hR.base0,hR.bset,hR.bset0,hR.atp,hR.atq,hR.ath]|refine rd0 rfl ?_))
     rw[hk];exact hj
    ·(repeat (first|simp only[↓QA,QB,reduceLT,reduceIte,reduceEqDiff,reduceAdd,reduceLeDiff,reduceMul,Nat.reduceBEq,fO,hR.base,hR.base0,hR.bset,hR.bset0,hR.atp,hR.atq,hR.ath]|refine rd0 rfl ?_))
     rw[hk] at hj;exact hj
end Go.Am.Room.Tu
namespace Go.Am.Room.Tu
def gW:=zz @eD (zz @encSeen_eq (zz @aN (zz @eM (zz @dM (zz @dK (zz @List.length_append.{0} (zz @LP (zz @K6 (zz @IW (zz @JD (zz @I8 (zz @IP (zz @LH (zz @Nat.mul_one (zz @Int.toNat_natCast (zz @j5 (zz @kA (zz @l0 (zz @lX (zz @pM (zz @mK (zz @mJ (zz @mO (zz @u5 (zz @gT (zz @gR (zz @cH (zz @bK (zz @dZ (zz @dX (zz @gS (zz @gQ (zz @mF (@aHZ))))))))))))))))))))))))))))))))))
theorem mZ(hd wm:Int)(A:Nat->Int)(th:Nat):(rX hd wm A th).2.1=wm:=by simp only[rX]
theorem PW(hd wm:Int)(A:Nat->Int)(th:Nat)(n:Int):(bM (rX hd wm A th)).take 1++[AV.int .i64 n]++(bM (rX hd wm A th)).drop 2=bM (rX hd n A th):=rfl
theorem TFam.of{Y:Type}{Z:Y×List Ky->St}{c:Car}{m p q qh N:Nat}{hd:Int}(h:TFam Z c m p q qh hd N)(hv:Vd c)(z:Y×List Ky)(τ:St):
  fZ T (.func 277 [] []) [.ptr p 0,.int .i64 hd] (Z z++τ) (.int .i64 (k8 c hd)):=aKH ((h.mem z.1).app τ) hv z.2 hd
def aSX{Y:Type}(Z:Y×List Ky->St)(c:Car)(hd:Int)(f:Way->Y×List Ky->(Y×List Ky)×Bool)(id p q qh N:Nat)(s:Span)(R:(Ky×(Y×List Ky))×Bool)(k:Nat)(e:Env)(σ:St):Prop :=
 Env.get e 1 = .ptr q 0/\Env.get e 2 = .ptr qh 0/\Env.get e 5 = .ptr (N+2) 0/\Env.get e 7 = .ptr (N+4) 0/\∃ wm la z A τ,s.lo<=wm/\wm<=s.hi+1/\k=(s.hi+1-wm).toNat/\Agr c [] A /\
   σ=Z z++(sD c hd id p q qh N wm A la++τ)/\bF (stepF c hd f) ((aM wm k).flatMap fun w=>(jV c hd).map (Way.mk w)) (la,z)=R
theorem pG{Y:Type}{Z ZD:Y×List Ky->St}{c:Car}{m p q qh N id hd:Nat}(hR:TFam Z c m p q qh hd N)(f:Way->Y×List Ky->(Y×List Ky)×Bool)(hy:wF Z ZD id (fun t=>[mD (kyW c hd t)]) (WayOk c) f)(hv:Vd c)(hhd:hd<c.holds.length)(z:Y×List Ky):
  Run T (.call 406 [.yield id,.ptr q 0,.ptr qh 0] (Z z)) fun o=>∃ τ',o.σ=rS Z ZD (bF (stepG c hd f) (fD c hd) z)++τ':=by
 have hnh:=hv.nhd;obtain⟨⟨s1,s2,s3⟩,s4⟩:=hv.hd _ (List.getElem_mem hhd);have hof:=fun τ=>hR.of hv z τ
 have hl:=hR.len z;obtain⟨ho1,ho2⟩:=wA c hd f (fD c hd) ky0 z (UC hv hhd) (aLV c hd _);have hall:fD c hd=(pC c hd).flatMap fun w=>(jV c hd).map (Way.mk w):=rfl
 have hwa:pC c hd=aM c.holds[hd].lo (c.holds[hd].hi+1-c.holds[hd].lo).toNat:=by simp[pC,hhd]
 obtain⟨s,hs⟩:∃ s,c.holds[hd]=s:=⟨_,rfl⟩;rw[hs] at s1 s2 s3 s4 hwa;obtain⟨R,hRR⟩:∃ R,bF (stepF c hd f) (fD c hd) (ky0,z)=R:=⟨_,rfl⟩;rw[hRR] at ho1 ho2;rw[hall,hwa] at hRR;have hend:∀ (σ:St) (A:Nat->Int) (wm:Int) (τ':St),σ=rS Z ZD (R.1.2,R.2)++(sD c hd id p q qh N wm A R.1.1++τ')->∃ τ',σ=rS Z ZD (bF (stepG c hd f) (fD c hd) z)++τ':=by
  intro σ A wm τ' h;refine⟨sD c hd id p q qh N wm A R.1.1++τ',?_⟩;rw[h,show (R.1.2,R.2)=bF (stepG c hd f) (fD c hd) z from Prod.ext ho1 ho2]
 refine .call (af:=aB1) rfl (by simp[aB1]) (fA (K:=fun j e σ'=>(j=none\/j=some .ret)/\∃ τ',σ'=rS Z ZD (bF (stepG c hd f) (fD c hd) z)++τ') ?_ fun o ho=>ho) fun o ho=>⟨ho.1,_,rfl,.inl ho.2⟩
 (repeat (first|simp only[↓QA,QB,seval,gW,hR.base,hR.base0,hR.bset,hR.bset0,hR.atp,hR.atq,hR.ath,mZ,aB1,hl]|refine rd0 rfl ?_))
 refine xC [.cells [.int .i64 0,.int .i64 0,.int .i64 0,.int .i64 0,.int .i64 0,.int .i64 0,.int .i64 0,.int .i64 0]] rfl ?_
 (repeat (first|simp only[↓QA,QB,seval,gW,hR.base,hR.base0,hR.bset,hR.bset0,hR.atp,hR.atq,hR.ath,mZ,hl]|refine rd0 rfl ?_))
 refine C9 (hof _) ?_
 (repeat (first|simp only[↓QA,QB,seval,gW,hR.base,hR.base0,hR.bset,hR.bset0,hR.atp,hR.atq,hR.ath,mZ,hl,hhd,hs]|refine rd0 rfl ?_))
 refine PO (aSX Z c hd f id p q qh N s R) ?_ (s.hi+1-s.lo).toNat _ _ ?_
 ·rintro k e σ ⟨e1,e2,e5,e7,wm,la,z,A,τ,hn0,hn1,hk,hA,rfl,hq⟩;subst hk;have hst:=PW hd wm A (k8 c hd) (wm+1);have hwn:IntKind.i64.wrap (wm+1)=wm+1:=bZ ⟨by omega,by omega⟩;rw[gH]
  (repeat (first|simp only[↓QA,QB,seval,gW,hR.base,hR.base0,hR.bset,hR.bset0,hR.atp,hR.atq,hR.ath,mZ,WG,e1,e2,e5,e7,hhd,hs]|refine rd0 rfl ?_))
  refine aE (fun h=>?_) fun h=>?_
  ·have hn2:wm<=s.hi:=by simpa using h
   rw[H9 hn2,List.flatMap_cons,uG] at hq;have hcl:=xO hR f wm hy hv ⟨by omega,by omega⟩ (gis c hd) [] la z A τ (by simp) (by simp) hA (fun y hy=>by simp at hy);rw[aJ7] at hcl;simp only[gH,qU,List.length_nil] at hcl;obtain⟨r,hr⟩:∃ r,bF (stepF c hd f) ((jV c hd).map (Way.mk wm)) (la,z)=r:=⟨_,rfl⟩;rw[hr] at hq hcl;simp only[qU]
   (repeat (first|simp only[↓QA,QB,seval,gW,hR.base,hR.base0,hR.bset,hR.bset0,hR.atp,hR.atq,hR.ath,mZ,e1,e2,e5,e7]|refine rd0 rfl ?_))
   refine .mono hcl fun w hw=>?_
   obtain⟨hw1,A',τ',hw2,hw3⟩:=hw;rw[hw1,hw2];cases hr2:r.2
   ·rw[hr2] at hq;simp only[Bool.false_eq_true,if_false] at hq
    (repeat (first|simp only[↓QA,QB,seval,gW,hR.base,hR.base0,hR.bset,hR.bset0,hR.atp,hR.atq,hR.ath,mZ,e1,e2,e5,e7]|refine rd0 rfl ?_))
    refine hend _ A' wm (τ++τ') ?_;rw[<-hq]
   ·rw[hr2] at hq;simp only[if_true] at hq;have hA':=hw3 hr2;have hst':=PW hd wm A' (k8 c hd) (wm+1);simp only[rS,if_true];rw[gH]
    (repeat (first|simp only[↓QA,QB,seval,gW,hR.base,hR.base0,hR.bset,hR.bset0,hR.atp,hR.atq,hR.ath,mZ,e1,e2,e5,e7,hwn,hst']|refine rd0 rfl ?_))
    refine⟨(s.hi+1-(wm+1)).toNat,by omega,?_,?_,?_,?_,wm+1,r.1.1,r.1.2,A',τ++τ',by omega,by omega,rfl,hA',?_,hq⟩
    ·try simp only[aB,QE,seval,gW,hR.base,hR.base0,hR.bset,hR.bset0,hR.atp,hR.atq,hR.ath,mZ,e1]
    ·try simp only[aB,QE,seval,gW,hR.base,hR.base0,hR.bset,hR.bset0,hR.atp,hR.atq,hR.ath,mZ,e2]
    ·try simp only[aB,QE,seval,gW,hR.base,hR.base0,hR.bset,hR.bset0,hR.atp,hR.atq,hR.ath,mZ,e5]
    ·try simp only[aB,QE,seval,gW,hR.base,hR.base0,hR.bset,hR.bset0,hR.atp,hR.atq,hR.ath,mZ,e7]
    ·rw[gH]
  ·have hn2:¬wm<=s.hi:=by simpa using h
   rw[OZ hn2] at hq;simp only[List.flatMap_nil,bF] at hq
   (repeat (first|simp only[↓QA,QB,seval,gW,hR.base,hR.base0,hR.bset,hR.bset0,hR.atp,hR.atq,hR.ath,mZ,e1,e2,e5,e7]|refine rd0 rfl ?_))
   refine hend _ A wm τ ?_;rw[<-hq];simp only[rS,if_true];rw[gH]
 ·refine⟨?_,?_,?_,?_,s.lo,ky0,z,fun _=>0,[],Int.le_refl _,by omega,rfl,⟨fun j hj=>by simp at hj,fun j hj=>rfl⟩,?_,hRR⟩
  ·try simp only[aB,QE,seval,gW,hR.base,hR.base0,hR.bset,hR.bset0,hR.atp,hR.atq,hR.ath,mZ]
  ·try simp only[aB,QE,seval,gW,hR.base,hR.base0,hR.bset,hR.bset0,hR.atp,hR.atq,hR.ath,mZ]
  ·try simp only[aB,QE,seval,gW,hR.base,hR.base0,hR.bset,hR.bset0,hR.atp,hR.atq,hR.ath,mZ]
  ·try simp only[aB,QE,seval,gW,hR.base,hR.base0,hR.bset,hR.bset0,hR.atp,hR.atq,hR.ath,mZ]
  ·rfl
theorem UE{X:Type}(Z ZD:X->St)(n:Nat)(hZ:∀ x,(Z x).length=n)(hZD:∀ x,(ZD x).length=n)(J:AJump)(e:Env)(k:Nat)(ps:List Nat)(a bb:ACode)(g:FuncId)(caps:List AV)(ek:Env.get e k = .func g [] caps)(r:X×Bool)(x:X)(hrun:Run T (.call g (.yield n::caps) (Z x++[.loop .ready none e ps a bb])) fun o=>∃ τ',o.σ=rS (fun x=>Z x++[.loop .ready none e ps a bb]) (fun x=>ZD x++[.loop .done (some J) e ps a bb]) r++τ')(K:KJ)(hT:∀ τ,r.2=true->K none e (Z r.1++(.dead::τ)))(hD:∀ τ,r.2=false->K (some J) e (ZD r.1++(.dead::τ))):
  rK (K:=⟨K⟩) T (.rangeFunc (.t k) ps a bb) e (Z x):=by
 have hout:∀ (A:St) (lp:ABlk) (τ':St),A.length=n->(A++[lp]++τ')[n]? = some lp/\(A++[lp]++τ').set n .dead=A++(.dead::τ'):=by
  intro A lp τ' hA;subst hA;constructor
  ·simp
  ·simp
 refine C7 (by rw[PL,ek]) (by
  rw[hZ]
  exact hrun) fun o ho=>?_
 obtain⟨τ',hσ⟩:=ho;rw[hZ,hσ];cases hr2:r.2
 ·have hD':=hD τ' hr2;obtain⟨g1,g2⟩:=hout (ZD r.1) (.loop .done (some J) e ps a bb) τ' (hZD _);simp only[rS,hr2,Bool.false_eq_true,if_false];rw[g1,g2];exact⟨_,_,_,_,_,_,rfl,by simp[hZ],hD'⟩
 ·have hT':=hT τ' hr2;obtain⟨g1,g2⟩:=hout (Z r.1) (.loop .ready none e ps a bb) τ' (hZ _);simp only[rS,hr2,if_true];rw[g1,g2];exact⟨_,_,_,_,_,_,rfl,by simp[hZ],hT'⟩
theorem CZ{X A:Type}(Z ZD:X->St)(n:Nat)(hZ:∀ x,(Z x).length=n)(hZD:∀ x,(ZD x).length=n)(J:AJump)(e:Env)(ps:List Nat)(args:A->List AV)(hps:∀ t,ps.length=(args t).length)(a bb:ACode){P:A->Prop}{f:A->X->X×Bool}(h:∀ t,P t->∀ x τ,wp T a (iQ e ps (args t)) (Z x++(.loop .ready none e ps a bb::τ)) (fun j e' σ'=>j=none/\∃ τ1,σ'=Z x++(.loop .ready none e ps a bb::(τ++τ1)) /\
   wp T bb e' (Z x++(.loop .busy none e ps a bb::(τ++τ1))) (fun j e'' σ''=>((f t x).2=true/\j=none/\∃ τ',σ''=Z (f t x).1++(.loop .busy none e ps a bb::(τ++τ'))) \/
    ((f t x).2=false/\j=some J/\∃ τ',σ''=ZD (f t x).1++(.loop .busy none e ps a bb::(τ++τ')))))):
  wF (fun x=>Z x++[.loop .ready none e ps a bb]) (fun x=>ZD x++[.loop .done (some J) e ps a bb]) n args P f:=by
 intro t ht x τ;have hget:∀ (A:St) (lp:ABlk) (υ:St),A.length=n->(A++(lp::υ))[n]? = some lp:=by
  intro A lp υ hA;subst hA;simp
 have hset:∀ (A:St) (lp l2:ABlk) (υ:St),A.length=n->(A++(lp::υ)).set n l2=A++(l2::υ):=by
  intro A lp l2 υ hA;subst hA;simp
 obtain⟨r,hr⟩:∃ r,f t x=r:=⟨_,rfl⟩;have h:=h t ht x τ;rw[hr] at h ⊢;have hst:(fun x=>Z x++[ABlk.loop .ready none e ps a bb]) x++τ=Z x++(.loop .ready none e ps a bb::τ):=by simp
 rw[hst];refine .round (env:=e) (ps:=ps) (a:=a) (b:=bb)
  (R:=fun o=>o.j=none/\∃ τ1,o.σ=Z x++(.loop .ready none e ps a bb::(τ++τ1))/\wp T bb o.env (Z x++(.loop .busy none e ps a bb::(τ++τ1))) (fun j e'' σ''=>(r.2=true/\j=none/\∃ τ',σ''=Z r.1++(.loop .busy none e ps a bb::(τ++τ'))) \/
    (r.2=false/\j=some J/\∃ τ',σ''=ZD r.1++(.loop .busy none e ps a bb::(τ++τ')))))
  (S:=fun o=>(r.2=true/\o.j=none/\∃ τ',o.σ=Z r.1++(.loop .busy none e ps a bb::(τ++τ')))\/(r.2=false/\o.j=some J/\∃ τ',o.σ=ZD r.1++(.loop .busy none e ps a bb::(τ++τ')))) (hget _ _ _ (hZ _)) (by rw[hps t]) (fA h fun o ho=>ho) ?_ ?_ ?_
 ·rintro o ⟨hj,τ1,hσ,_⟩;exact⟨hj,by rw[hσ];exact hget _ _ _ (hZ _)⟩
 ·rintro o ⟨_,τ1,hσ,hw⟩;rw[hσ,hset _ _ _ _ (hZ _)];exact fA hw fun o ho=>ho
 ·rintro o (⟨hr2,hj,τ',hσ⟩|⟨hr2,hj,τ',hσ⟩)
  ·rw[hσ,hj,hget _ _ _ (hZ _),hset _ _ _ _ (hZ _)];refine⟨rfl,by rw[hr2];rfl,τ',?_⟩;simp[rS,hr2]
  ·rw[hσ,hj,hget _ _ _ (hZD _),hset _ _ _ _ (hZD _)];refine⟨rfl,by rw[hr2];rfl,τ',?_⟩;simp[rS,hr2]
end Go.Am.Room.Tu
namespace Go.Am.Room.Tu
def fY:=zz @eD (zz @encSeen_eq (zz @aN (zz @eM (zz @dM (zz @dK (zz @List.length_append.{0} (zz @LP (zz @K6 (zz @IW (zz @JD (zz @I8 (zz @IP (zz @LH (zz @Nat.mul_one (zz @Int.toNat_natCast (zz @j5 (zz @kA (zz @l0 (@lX)))))))))))))))))))
section
variable {Y:Type}
def Z0(S:Y->List Ky->St)(U:Y->St)(p:Nat)(hd:Int)(x:Y×List Ky):St:=S x.1 x.2++(U x.1++[.cells [.ptr p 0],.cells [.int .i64 hd]])
variable {S:Y->List Ky->St} {U:Y->St} {c:Car} {m p N n:Nat} {hd:Int}
theorem CT(hR:∀ y,MemAt (S y) (tb c m) (kEs c) p m N)(hU:∀ y,(U y).length=n)(x:Y×List Ky):(Z0 S U p hd x).length=N+n+2:=by
 simp[Z0,(hR x.1).len,hU];omega
theorem aI9(hR:∀ y,MemAt (S y) (tb c m) (kEs c) p m N)(hU:∀ y,(U y).length=n)(lp:ABlk):TFam (fun x=>Z0 S U p hd x++[lp]) c m p (N+n) (N+n+1) hd (N+n+2+1) where
 mem:=fun y=>by
  have:=(hR y).app (U y++[.cells [.ptr p 0],.cells [.int .i64 hd],lp]);rw[List.length_append,hU] at this;have e:(fun M=>Z0 S U p hd (y,M)++[lp])=fun A=>S y A++(U y++[.cells [.ptr p 0],.cells [.int .i64 hd],lp]):=by
   funext A;simp[Z0]
  rw[e];exact this
 atq:=fun z τ=>by
  have e:Z0 S U p hd z++[lp]++τ=(S z.1 z.2++U z.1)++(.cells [.ptr p 0]::.cells [.int .i64 hd]::lp::τ):=by simp[Z0]
  have h1:N+n=(S z.1 z.2++U z.1).length:=by simp[(hR z.1).len,hU]
  rw[e,h1,AR];rfl
 ath:=fun z τ=>by
  have e:Z0 S U p hd z++[lp]++τ=(S z.1 z.2++U z.1)++(.cells [.ptr p 0]::.cells [.int .i64 hd]::lp::τ):=by simp[Z0]
  have h1:N+n+1=(S z.1 z.2++U z.1).length+1:=by simp[(hR z.1).len,hU]
  rw[e,h1,n8];rfl
theorem jQ(hR:∀ y,MemAt (S y) (tb c m) (kEs c) p m N)(hU:∀ y,(U y).length=n)(hv:Vd c){h:Nat}(hh:hd=(h:Int))(hhd:h<c.holds.length)(f:Way->Y×List Ky->(Y×List Ky)×Bool)(J:AJump)(e:Env)(k:Nat)(ps:List Nat)(a bb:ACode)(ek:Env.get e k = .func 406 [] [.ptr (N+n) 0,.ptr (N+n+1) 0])(x:Y×List Ky)(hy:wF (fun x=>Z0 S U p hd x++[.loop .ready none e ps a bb]) (fun x=>Z0 S U p hd x++[.loop .done (some J) e ps a bb]) (N+n+2) (fun t=>[mD (kyW c hd t)]) (WayOk c) f)(K:KJ)(hT:∀ τ,(bF (stepG c hd f) (fD c h) x).2=true->K none e (Z0 S U p hd (bF (stepG c hd f) (fD c h) x).1++(.dead::τ)))(hD:∀ τ,(bF (stepG c hd f) (fD c h) x).2=false->K (some J) e (Z0 S U p hd (bF (stepG c hd f) (fD c h) x).1++(.dead::τ))):
  rK (K:=⟨K⟩) T (.rangeFunc (.t k) ps a bb) e (Z0 S U p hd x):=by
 subst hh;refine UE (Z0 S U p h) (Z0 S U p h) (N+n+2) (CT hR hU) (CT hR hU) J e k ps a bb _ _ ek (bF (stepG c h f) (fD c h) x) x ?_ K hT hD;exact pG (aI9 hR hU _) f hy hv hhd x
end
def pE(_:Way)(z:Unit×List Ky):(Unit×List Ky)×Bool:=(z,false)
theorem IY(c:Car)(hd:Int):∀ (az:List Way) (z:Unit×List Ky),(bF (stepG c hd pE) az z).2=(az.filter (qQ c hd)).isEmpty
 |[],z=>rfl
 |a::az,z=>by
  simp only[bF,stepG,pE,List.filter_cons];by_cases hs:qQ c hd a=true
  ·simp[hs]
  ·simp only[hs,if_false,if_true];exact IY c hd az _
def pK(c:Car):List Nat->List Ky->Bool×List Ky
 |[],M=>(true,M)
 |h::hs,M=>if (bF (stepG c h pE) (fD c h) ((),M)).2=true then (false,(bF (stepG c h pE) (fD c h) ((),M)).1.2) else pK c hs (bF (stepG c h pE) (fD c h) ((),M)).1.2
theorem C1(c:Car):∀ (hs:List Nat) (M:List Ky),(pK c hs M).1=hs.all fun h=>!(dS c h).isEmpty
 |[],M=>rfl
 |h::hs,M=>by
  have e:(bF (stepG c h pE) (fD c h) ((),M)).2=(dS c h).isEmpty:=IY c h _ _;simp only[pK,List.all_cons,e];cases (dS c h).isEmpty
  ·simp[C1 c hs]
  ·simp
def FO(c:Car)(M:List Ky):List Ky:=(pK c (List.range c.holds.length) M).2
theorem aD9(c:Car)(M:List Ky):pK c (List.range c.holds.length) M=(someB c,FO c M):=Prod.ext (C1 c _ M) rfl
theorem MK{n j:Nat}(h:j<n):(List.range n).drop j=j::(List.range n).drop (j+1):=by
 rw[List.drop_eq_getElem_cons (by simpa using h)];simp
def aR5(S:List Ky->St)(c:Car)(p:Nat)(R:Bool×List Ky)(k:Nat)(e:Env)(σ:St):Prop :=
 Env.get e 0 = .ptr p 0/\Env.get e 9 = .int .i64 c.holds.length/\∃ j M τ,Env.get e 10 = .int .i64 (j:Nat)/\j<=c.holds.length/\k=c.holds.length-j/\σ=S M++τ/\pK c ((List.range c.holds.length).drop j) M=R
theorem uV{S:List Ky->St}{c:Car}{p m N:Nat}(hR:MemAt S (tb c m) (kEs c) p m N)(hv:Vd c)(M:List Ky):
  sJ T (.func 284 [] []) [.ptr p 0] (S M) (.bool (someB c)) (S (FO c M)):=by
 have hnh:=hv.nhd;have hall:=aD9 c M;obtain⟨B,hB⟩:∃ B,someB c=B:=⟨_,rfl⟩;obtain⟨M',hM'⟩:∃ M',FO c M=M':=⟨_,rfl⟩;rw[hB,hM'] at hall;rw[hB,hM'];refine nJ hR (af:=Y8) rfl (by simp[Y8]) ?_;try simp only[↓QA,QB,seval,fY,hR.len,hR.base,hR.base0,hR.bset,hR.bset0,hR.at1,hR.at0,Y8]
 refine PO (aR5 S c p (B,M')) ?_ c.holds.length _ _ ?_
 ·rintro k e σ ⟨e0,e9,j,M,τ,e10,hj,hk,rfl,hq⟩;subst hk;try simp only[↓QA,QB,seval,fY,hR.len,hR.base,hR.base0,hR.bset,hR.bset0,hR.at1,hR.at0,aBC,e0,e9,e10]
  refine aE (fun h=>?_) fun h=>?_
  ·have hj1:j<c.holds.length:=by simpa using h
   have hw:=bR hj1 (by omega);rw[MK hj1] at hq;simp only[pK] at hq;try simp only[↓QA,QB,seval,fY,hR.len,hR.base,hR.base0,hR.bset,hR.bset0,hR.at1,hR.at0,e0,e9,e10]
   refine qJ rfl (by simp[TO]) ?_;try simp only[↓QA,QB,seval,fY,hR.len,hR.base,hR.base0,hR.bset,hR.bset0,hR.at1,hR.at0,TO]
   have hz:∀ M,S M++(τ++[.cells [.ptr p 0],.cells [.int .i64 (j:Int)]])=Z0 (fun (_:Unit) A=>S A++τ) (fun _=>[]) p j ((),M):=fun M=>by simp[Z0]
   rw[hz];refine jQ (n:=0) (N:=N+τ.length) (fun _=>hR.app τ) (fun _=>rfl) hv rfl hj1 pE (.exit 1) _ 15 [16] _ _ ?_ _ ?_ _ ?_ ?_
   ·try simp only[aB,QE,seval,fY,hR.len,hR.base,hR.base0,hR.bset,hR.bset0,hR.at1,hR.at0,Nat.add_zero,Nat.add_assoc]
   ·refine CZ _ _ _ (CT (n:=0) (fun _=>hR.app τ) (fun _=>rfl)) (CT (n:=0) (fun _=>hR.app τ) (fun _=>rfl)) _ _ [16] _ (fun _=>rfl) _ _ ?_;intro t _ x τ1;simp only[iQ];try simp only[↓QA,QB,seval,fY,hR.len,hR.base,hR.base0,hR.bset,hR.bset0,hR.at1,hR.at0]
    refine⟨[],by rw[List.append_nil],?_⟩;try simp only[↓QA,QB,seval,fY,hR.len,hR.base,hR.base0,hR.bset,hR.bset0,hR.at1,hR.at0,aA6]
    exact .inr ⟨rfl,[],by simp[pE]⟩
   ·intro τ1 h2;rw[h2] at hq;simp only[if_true] at hq;simp only[Z0];have h1:=congrArg Prod.fst hq;have h3:=congrArg Prod.snd hq;simp only at h1 h3;subst h1;rw[h3];try simp only[↓QA,QB,seval,fY,hR.len,hR.base,hR.base0,hR.bset,hR.bset0,hR.at1,hR.at0,e0,e9,e10]
    exact⟨_,_,rfl,rfl,by try simp only[QS,QC,seval,fY,hR.len,hR.base,hR.base0,hR.bset,hR.bset0,hR.at1,hR.at0]⟩
   ·intro τ1 h2;rw[h2] at hq;simp only[Bool.false_eq_true,if_false] at hq;simp only[Z0];try simp only[↓QA,QB,seval,fY,hR.len,hR.base,hR.base0,hR.bset,hR.bset0,hR.at1,hR.at0,e0,e9,e10,hw]
    refine⟨c.holds.length-(j+1),by omega,?_,?_,j+1,_,τ++([.cells [.ptr p 0],.cells [.int .i64 (j:Int)]]++.dead::τ1),?_,by omega,rfl,?_,hq⟩
    ·try simp only[aB,QE,seval,fY,hR.len,hR.base,hR.base0,hR.bset,hR.bset0,hR.at1,hR.at0,e0]
    ·try simp only[aB,QE,seval,fY,hR.len,hR.base,hR.base0,hR.bset,hR.bset0,hR.at1,hR.at0,e9]
    ·try simp only[aB,QE,seval,fY,hR.len,hR.base,hR.base0,hR.bset,hR.bset0,hR.at1,hR.at0]
    ·simp
  ·have hj1:j=c.holds.length:=by simp at h;omega
   rw[hj1,List.drop_eq_nil_of_le (by simp)] at hq;simp only[pK] at hq;injection hq with h1 h3
   subst h1;subst h3;try simp only[↓QA,QB,seval,fY,hR.len,hR.base,hR.base0,hR.bset,hR.bset0,hR.at1,hR.at0,e0,e9,e10]
   exact⟨_,_,rfl,rfl,by try simp only[QS,QC,seval,fY,hR.len,hR.base,hR.base0,hR.bset,hR.bset0,hR.at1,hR.at0]⟩
 ·refine⟨?_,?_,0,M,[],?_,Nat.zero_le _,rfl,by simp,hall⟩
  ·try simp only[aB,QE,seval,fY,hR.len,hR.base,hR.base0,hR.bset,hR.bset0,hR.at1,hR.at0]
  ·try simp only[aB,QE,seval,fY,hR.len,hR.base,hR.base0,hR.bset,hR.bset0,hR.at1,hR.at0]
  ·try simp only[aB,QE,seval,fY,hR.len,hR.base,hR.base0,hR.bset,hR.bset0,hR.at1,hR.at0]
   try simp
end Go.Am.Room.Tu
namespace Go.Am.Room.Tu
def gK:=zz @encCar_eq (zz @fB (zz @eD (zz @encSeen_eq (zz @aN (zz @eM (zz @dM (zz @dK (zz @List.length_append.{0} (zz @dR (zz @Nat.add_lt_add_iff_left (zz @Nat.lt_add_right_iff_pos (zz @Nat.mul_one (@Int.toNat_natCast)))))))))))))
theorem VM(b n:Int)(hb:0<=b/\b<9223372036854775808):cY T 144 [.int .i64 b,ints [n]] (.agg [.bool (!inR n 0 (b-1)),.int .i64 4]):=by
 refine aV (af:=U7) rfl (by simp[U7]) dd ?_;have hw:IntKind.i64.wrap (b-1)=b-1:=bZ ⟨by omega,by omega⟩;try simp only[↓QA,QB,seval,gK,U7,hw]
 (refine aC (jE 0 (b-1) [n] (by simp)) rfl dd ?_;try simp only[↓QA,QB,seval,gK,AL])
theorem OA(c:Car)(A:List Ky)(k:Nat):aL k (.map (kEs c A)):=Y4 (F6 c) A k
def j6(σ:St)(c:Car)(A:List Ky):St:=σ++[.cells (carCells c),.cells (carCells c),.map (kEs c A),.cells (tb c (σ.length+2))]
theorem aM9(σ:St)(c:Car):MemAt (j6 σ c) (tb c (σ.length+2)) (kEs c) (σ.length+3) (σ.length+2) (σ.length+4) :=
 ⟨fun M=>by simp[j6],fun M=>by simp[j6,n8,Q3,Q9],fun M=>by rw[j6,tO];rfl,fun M M'=>by rw[j6,j6,mW];rfl,fun A k=>OA c A k,by omega,by omega⟩
def pS(σ:St)(c:Car):St:=σ++[.cells (carCells c),.map [],.cells (tb c (σ.length+1))]
theorem wG(σ:St)(c:Car):sJ T (.func 275 [] []) [encCar c,.int .i64 0] σ (.ptr (σ.length+2) 0) (pS σ c):=by
 refine .callf (.call (af:=YK) rfl (by simp[YK]) (fA (K:=fun j e σ1=>(j=none\/j=some .ret)/\Env.get e 4 = .ptr (σ.length+2) 0/\σ1=pS σ c) ?_ fun o ho=>ho) fun o ho=>?_)
 ·try simp only[↓QA,QB,seval,gK,YK,List.length_append,pS,tb]
  try simp[tb,carCells,ints]
 ·refine⟨ho.1,_,?_,.inl ⟨ho.2.1,ho.2.2⟩⟩;rfl
def fP(c:Car)(n:Int)(k:Nat):AV:=if lotErr c n=0 then .tuple [.ptr (k+3) 0,.int .i64 0] else .tuple [.nilPtr,.int .i64 (lotErr c n)]
def iZ(σ:St)(c:Car)(n:Int):St:=if lotErr c n=0 then j6 σ c (FO c []) else σ
theorem kJ(σ:St)(c:Car)(n:Int)(hf:Fits c):sJ T (.func 143 [] []) [encCar c,.lit [.agg [.bool (!inR n 0 ((c.lots.length:Int)-1)),.int .i64 4]] true none] σ (fP c n σ.length) (iZ σ c n):=by
 refine .callf (.call (af:=OO) rfl (by simp[OO]) (fA (K:=fun j e σ1=>(j=none\/j=some .ret)/\(if lotErr c n=0 then Env.get e 4 = .ptr (σ.length+3) 0/\Env.get e 5 = .int .i64 0/\σ1=j6 σ c (FO c []) else Env.get e 4 = .nilPtr/\Env.get e 5 = .int .i64 (lotErr c n)/\∃ τ,σ1=σ++τ)) ?_ fun o ho=>ho) fun o ho=>?_)
 ·obtain⟨E,hE⟩:∃ E,lotErr c n=E:=⟨_,rfl⟩;have hE2:(if errAsk c n=0 then (if someB c then (0:Int) else 8) else errAsk c n)=E:=hE;rw[hE]
  (repeat (first|simp only[↓QA,QB,reduceLT,reduceIte,reduceEqDiff,reduceAdd,reduceLeDiff,reduceMul,Nat.reduceBEq,gK,OO]|refine rd0 rfl ?_))
  ((first|refine aC (check_ok c hf) rfl dd ?_|refine aJ (check_ok c hf) rfl dd ?_);(repeat (first|simp only[↓QA,QB,reduceLT,reduceIte,reduceEqDiff,reduceAdd,reduceLeDiff,reduceMul,Nat.reduceBEq,gK,enc3]|refine rd0 rfl ?_)))
  cases h0:((check c).2.2==0)
  ·have h0':(check c).2.2≠0:=by simpa using h0
   have he:E=(check c).2.2:=by rw[<-hE2];simp[errAsk,h0']
   (repeat (first|simp only[↓QA,QB,reduceLT,reduceIte,reduceEqDiff,reduceAdd,reduceLeDiff,reduceMul,Nat.reduceBEq,gK,h0]|refine rd0 rfl ?_))
   rw[he,if_neg h0'];simp
  ·have h0':(check c).2.2=0:=by simpa using h0
   have hv:=vd_of_check h0';obtain⟨B,hB⟩:∃ B,inR n 0 ((c.lots.length:Int)-1)=B:=⟨_,rfl⟩;rw[hB]
   (repeat (first|simp only[↓QA,QB,reduceLT,reduceIte,reduceEqDiff,reduceAdd,reduceLeDiff,reduceMul,Nat.reduceBEq,gK,h0]|refine rd0 rfl ?_))
   refine cI (S:=Nat×Bool) (0,true) (fun k=>k.1<=1/\(k.1=1->B=true)) (fun k=>1-k.1)
    (fun k=>[(2,.ptr σ.length 0),(4,.nilPtr),(5,.int .i64 0),(21,.lit [.agg [.bool !B,.int .i64 4]] k.2 none),(22,.int .i64 1),(23,.int .i64 k.1)])
    (fun _=>σ++[.cells (carCells c)]) ⟨by omega,fun h=>by cases h⟩ (by simp[carCells,ints]) ?_ fun k hk=>?_
   ·try simp only[aB,QE,reduceLT,reduceIte,reduceEqDiff,reduceAdd,reduceLeDiff,reduceMul,Nat.reduceBEq,gK]
    try simp
   obtain⟨k,fl⟩:=k;obtain⟨hk,hkB⟩:=hk;simp only at hk hkB
   (repeat (first|simp only[↓QA,QB,reduceLT,reduceIte,reduceEqDiff,reduceAdd,reduceLeDiff,reduceMul,Nat.reduceBEq,gK,ZA]|refine rd0 rfl ?_))
   refine aE (fun h=>?_) fun h=>?_
   ·have hk1:k=0:=by simp at h;omega
    subst hk1;have hix:∀ (b:Bool) tk,D6 2 [.agg [.bool b,.int .i64 4]] 0 tk=some (.lptr [.agg [.bool b,.int .i64 4]] 0 0 tk):=fun b tk=>by simp[D6,AV.cells]
    cases B
    ·have he:E=4:=by rw[<-hE2];simp[errAsk,h0',hB]
     subst he
     (repeat (first|simp only[↓QA,QB,reduceLT,reduceIte,reduceEqDiff,reduceAdd,reduceLeDiff,reduceMul,Nat.reduceBEq,gK,Int.natCast_zero,hix]|refine rd0 rfl ?_))
     simp
    ·(repeat (first|simp only[↓QA,QB,reduceLT,reduceIte,reduceEqDiff,reduceAdd,reduceLeDiff,reduceMul,Nat.reduceBEq,gK,Int.natCast_zero,hix]|refine rd0 rfl ?_))
     refine⟨(1,false),by simp,by simp,?_⟩;try simp only[aB,QE,reduceLT,reduceIte,reduceEqDiff,reduceAdd,reduceLeDiff,reduceMul,Nat.reduceBEq,gK,show IntKind.i64.wrap (0+1)=((1:Nat):Int) from rfl]
     try simp[aL,okVs,okV]
   ·have hk1:k=1:=by simp at h;omega
    have hBt:=hkB hk1;subst hk1;subst hBt;have hEk:(if someB c then (0:Int) else 8)=E:=by rw[<-hE2];simp[errAsk,h0',hB]
    have hlk:=wG (σ++[.cells (carCells c)]) c;have hso:=uV (aM9 σ c) hv [];have e0:kEs c []=[]:=rfl;simp only[j6,pS,e0] at hso hlk;try simp only[↓QA,QB,reduceLT,reduceIte,reduceEqDiff,reduceAdd,reduceLeDiff,reduceMul,Nat.reduceBEq,gK,List.append_assoc] at hso hlk
    (repeat (first|simp only[↓QA,QB,reduceLT,reduceIte,reduceEqDiff,reduceAdd,reduceLeDiff,reduceMul,Nat.reduceBEq,gK]|refine rd0 rfl ?_))
    refine eH hlk ?_
    (repeat (first|simp only[↓QA,QB,reduceLT,reduceIte,reduceEqDiff,reduceAdd,reduceLeDiff,reduceMul,Nat.reduceBEq,gK]|refine rd0 rfl ?_))
    refine eH hso ?_;cases hs:someB c
    ·rw[hs] at hEk;have he:E=8:=by rw[<-hEk];simp
     subst he
     (repeat (first|simp only[↓QA,QB,reduceLT,reduceIte,reduceEqDiff,reduceAdd,reduceLeDiff,reduceMul,Nat.reduceBEq,gK]|refine rd0 rfl ?_))
     simp
    ·rw[hs] at hEk;have he:E=0:=by rw[<-hEk];simp
     subst he
     (repeat (first|simp only[↓QA,QB,reduceLT,reduceIte,reduceEqDiff,reduceAdd,reduceLeDiff,reduceMul,Nat.reduceBEq,gK]|refine rd0 rfl ?_))
     simp[j6,carCells,ints]
 ·obtain⟨hj,ho⟩:=ho;by_cases he:lotErr c n=0
  ·rw[if_pos he] at ho;refine⟨hj,fP c n σ.length,?_,.inl ⟨rfl,?_⟩⟩
   ·simp[eY,iW,OO,ho.1,ho.2.1,fP,he]
   ·rw[ho.2.2,iZ,if_pos he]
  ·rw[if_neg he] at ho;obtain⟨h4,h5,τ,hσ⟩:=ho;refine⟨hj,fP c n σ.length,?_,.inr ⟨20,fP c n σ.length,fP c n σ.length,?_,.inl rfl,fun i hi=>.inl (by rw[hσ];exact List.getElem?_append_left hi),by rw[hσ];simp,rfl,by rw[hσ];simp[iZ,he]⟩⟩
   ·simp[eY,iW,OO,h4,h5,fP,he]
   ·simp[fP,he,snap,snaps]
end Go.Am.Room.Tu
namespace Go.Am.Room.Tu
def iV:=zz @eD (zz @encSeen_eq (zz @aN (zz @eM (zz @dM (zz @dK (zz @List.length_append.{0} (zz @LP (zz @K6 (zz @IW (zz @JD (zz @I8 (zz @IP (zz @LH (zz @Nat.mul_one (zz @Int.toNat_natCast (zz @j5 (zz @kA (zz @l0 (zz @lX (zz @pM (zz @mK (zz @mJ (zz @mO (zz @u5 (zz @gT (zz @gR (zz @cH (zz @bK (zz @dZ (zz @dX (zz @gS (@gQ))))))))))))))))))))))))))))))))
theorem BM{Y M:Type}{S:Y->M->St}{obj:List AV}{es:M->List (AV×AV)}{p m N:Nat}(hR:∀ y,MemAt (S y) obj es p m N)(hK:∀ x A y B k i,N<=k->i<N->dA (S x A) (S y B) k i){f:FuncId}{first cap args:List AV}{af:AFunc}{v:AV}{x y:Y}{A B:M}(hf:T f=some af)(hn:(first++args++cap).length<=af.ntmps)(h:wp T af.body (eI 0 (first++args++cap)) (S x A) (fun j e σ1=>(j=none\/j=some .ret)/\∃ v0 τ,eY af.results e σ1=some v0/\σ1=S y B++τ/\bW σ1 N 20 v0=some v)):sJ T (.func f first cap) args (S x A) v (S y B):=by
 refine .callf (.call hf hn (fA h fun o ho=>ho) fun o ho=>?_);obtain⟨hj,v0,τ,hres,hσ,h4⟩:=ho;refine⟨hj,v0,hres,?_⟩;unfold bW at h4;have l1:=(hR x).len A;have l2:=(hR y).len B;cases hs:snap o.σ N 20 v0 with
 |none=>rw[hs] at h4;cases h4
 |some v1 =>
  rw[hs] at h4;simp at h4;refine .inr ⟨20,v1,v,by rw[l1];exact hs,.inr h4.symm,fun i hi=>?_,?_,rfl,?_⟩
  ·rw[l1] at hi ⊢;have:=hK x A y B N i (Nat.le_refl _) hi;have e:o.σ[i]? = (S y B)[i]?:=by rw[hσ];exact List.getElem?_append_left (by omega)
   simp only[dA,e] at this ⊢;exact this
  ·rw[hσ,List.length_append,l1,l2];omega
  ·rw[hσ,l1,<-l2,List.take_left]
section
variable {Y:Type}
def MF(c:Car)(hd:Int)(qB:Way->Bool)(g:Way->Y->Y)(w:Way)(z:(Y×Int×Int)×List Ky):((Y×Int×Int)×List Ky)×Bool :=
 (((g w z.1.1,if qB w=true then IntKind.i64.wrap (z.1.2.1+1) else z.1.2.1,IntKind.i64.wrap (z.1.2.2+1)),bN z.2 (kyW c hd w)),true)
theorem AQ(c:Car)(hd:Int)(qB:Way->Bool)(g:Way->Y->Y):∀ (az:List Way) (y:Y) (yes all:Nat) (M:List Ky),yes+az.length<100000->all+az.length<100000 ->
  (bF (stepG c hd (MF c hd qB g)) az ((y,((yes:Nat):Int),((all:Nat):Int)),M)).2=true /\
  (bF (stepG c hd (MF c hd qB g)) az ((y,((yes:Nat):Int),((all:Nat):Int)),M)).1.1=((az.filter (qQ c hd)).foldl (fun y w=>g w y) y,((yes+((az.filter (qQ c hd)).filter qB).length:Nat):Int),((all+(az.filter (qQ c hd)).length:Nat):Int))
 |[],y,yes,all,M,_,_=>⟨rfl,rfl⟩
 |a::az,y,yes,all,M,h1,h2=>by
  simp only[List.length_cons] at h1 h2;simp only[bF,stepG,List.filter_cons];by_cases hs:qQ c hd a=true
  ·have w2:IntKind.i64.wrap ((all:Int)+1)=((all+1:Nat):Int):=by rw[Int.natCast_add];exact bZ ⟨by omega,by omega⟩
   have w1:IntKind.i64.wrap ((yes:Int)+1)=((yes+1:Nat):Int):=by rw[Int.natCast_add];exact bZ ⟨by omega,by omega⟩
   simp only[hs,if_true,MF,w1,w2];by_cases hq:qB a=true
   ·have ih:=AQ c hd qB g az (g a y) (yes+1) (all+1) (bN (bN M (kyW c hd a)) (kyW c hd a)) (by omega) (by omega);simp only[hq,if_true,List.foldl_cons,List.filter_cons,List.length_cons];refine⟨ih.1,?_⟩;rw[ih.2];refine Prod.ext rfl (Prod.ext ?_ ?_)
    ·simp only;omega
    ·simp only;omega
   ·have ih:=AQ c hd qB g az (g a y) yes (all+1) (bN (bN M (kyW c hd a)) (kyW c hd a)) (by omega) (by omega);simp only[hq,Bool.false_eq_true,if_false,List.foldl_cons,List.filter_cons,List.length_cons];refine⟨ih.1,?_⟩;rw[ih.2];refine Prod.ext rfl (Prod.ext rfl ?_);simp only;omega
  ·simp only[hs,if_false,if_true];exact AQ c hd qB g az y yes all _ (by omega) (by omega)
def aCM(p:Nat)(fv:AV)(y:Y×Int×Int):St:=[.cells [.ptr p 0],.cells [fv],.cells [.int .i64 y.2.1],.cells [.int .i64 y.2.2]]
def SN(S:Y->List Ky->St)(y:Y×Int×Int):List Ky->St:=S y.1
def QOk(S:Y->List Ky->St)(c:Car)(hd:Int)(fv:AV)(qB:Way->Bool)(g:Way->Y->Y):Prop :=
 ∀ w,WayOk c w->∀ y M τ,sJ T fv [mD (kyW c hd w),G9 c (kyW c hd w)] (S y M++τ) (.bool (qB w)) (S (g w y) M++τ)
theorem W5{S:Y->List Ky->St}{c:Car}{p m N:Nat}(hQ:∀ y,MemAt (S y) (tb c m) (kEs c) p m N)(hK:∀ x A y B k i,N<=k->i<N->dA (S x A) (S y B) k i)(hv:Vd c)(h:Nat)(hhd:h<c.holds.length)(fn:FuncId)(caps:List AV)(qB:Way->Bool)(g:Way->Y->Y)(hq:QOk S c h (.func fn [] caps) qB g)(y:Y)(M:List Ky):
  ∃ M',sJ T (.func 145 [] []) [.ptr p 0,.int .i64 h,.agg [.func fn [] caps]] (S y M) (.int .i64 (fG (((dS c h).filter qB).length) (dS c h).length)) (S ((dS c h).foldl (fun y w=>g w y) y) M'):=by
 have hal:=Q7 hv hhd;obtain⟨a1,a2⟩:=AQ c h qB g (fD c h) y 0 0 M (by omega) (by omega);have hwo:(fD c h).filter (qQ c h)=dS c h:=rfl;rw[hwo] at a2;have hwl:(dS c h).length<=1024:=Nat.le_trans (List.length_filter_le _ _) hal;have hyl:((dS c h).filter qB).length<=(dS c h).length:=List.length_filter_le _ _;obtain⟨R,hRR⟩:∃ R,bF (stepG c h (MF c h qB g)) (fD c h) ((y,((0:Nat):Int),((0:Nat):Int)),M)=R:=⟨_,rfl⟩;rw[hRR] at a1 a2;obtain⟨y',hy'⟩:∃ y',(dS c h).foldl (fun y w=>g w y) y=y':=⟨_,rfl⟩;obtain⟨n1,hn1⟩:∃ n1,((dS c h).filter qB).length=n1:=⟨_,rfl⟩;obtain⟨n2,hn2⟩:∃ n2,(dS c h).length=n2:=⟨_,rfl⟩;rw[hy',hn1,hn2,Nat.zero_add,Nat.zero_add] at a2;rw[hn1,hn2] at hyl;rw[hy',hn1,hn2];have hRR:bF (stepG c h (MF c h qB g)) (fD c h) ((y,(0:Int),(0:Int)),M)=R:=hRR;refine⟨R.1.2,BM hQ hK (af:=VW) rfl (by simp[VW]) ?_⟩;have hR:=hQ y
 (repeat (first|simp only[↓QA,QB,seval,iV,hR.len,hR.base,hR.base0,hR.bset,hR.bset0,hR.at1,hR.at0,VW]|refine rd0 rfl ?_))
 refine qJ rfl (by simp[TO]) ?_
 (repeat (first|simp only[↓QA,QB,seval,iV,hR.len,hR.base,hR.base0,hR.bset,hR.bset0,hR.at1,hR.at0,TO]|refine rd0 rfl ?_))
 have hz:∀ (y:Y) (n1 n2:Int) M,S y M++[.cells [.ptr p 0],.cells [.func fn [] caps],.cells [.int .i64 n1],.cells [.int .i64 n2],.cells [.ptr p 0],.cells [.int .i64 (h:Int)]]=Z0 (SN S) (aCM p (.func fn [] caps)) p h ((y,n1,n2),M):=fun y n1 n2 M=>by simp[Z0,SN,aCM]
 rw[hz];refine jQ (n:=4) (S:=SN S) (fun y=>hQ y.1) (fun _=>rfl) hv rfl hhd (MF c h qB g) .ret _ 12 [13] _ _ rfl _ ?_ _ ?_ ?_
 ·have hlen:=CT (S:=SN S) (U:=aCM p (.func fn [] caps)) (p:=p) (hd:=(h:Int)) (n:=4) (fun y=>hQ y.1) (fun _=>rfl);refine CZ _ _ _ hlen hlen _ _ [13] (fun t=>[mD (kyW c h t)]) (fun _=>rfl) _ _ ?_;intro w hwo x τ;obtain⟨⟨y,n1,n2⟩,M⟩:=x;have hR:=hQ y;have hko:=V3 hv (hd:=(h:Int)) hwo;have hti:=fun τ=>DE (hR.app τ) hv M (kyW c h w) hko
  have hqq:=hq w hwo y (bN M (kyW c h w));have hf:MF c h qB g w ((y,n1,n2),M)=(((g w y,if qB w=true then IntKind.i64.wrap (n1+1) else n1,IntKind.i64.wrap (n2+1)),bN M (kyW c h w)),true):=rfl;rw[hf];obtain⟨W,hW⟩:∃ W,kyW c h w=W:=⟨_,rfl⟩;obtain⟨B,hB⟩:∃ B,qB w=B:=⟨_,rfl⟩;rw[hW] at hti hqq;rw[hB] at hqq;simp only[hW,hB,iQ,Z0,SN,aCM,qH];simp only[qH,wQ] at hti hqq
  (repeat (first|simp only[↓QA,QB,seval,iV,hR.len,hR.base,hR.base0,hR.bset,hR.bset0,hR.at1,hR.at0]|refine rd0 rfl ?_))
  refine⟨[.cells (bM W)],rfl,?_⟩;generalize ABlk.loop .busy none _ _ _ _=lp;have hR:=hQ y
  (repeat (first|simp only[↓QA,QB,seval,iV,hR.len,hR.base,hR.base0,hR.bset,hR.bset0,hR.at1,hR.at0,aAD]|refine rd0 rfl ?_))
  refine kR (hti _) ?_
  (repeat (first|simp only[↓QA,QB,seval,iV,hR.len,hR.base,hR.base0,hR.bset,hR.bset0,hR.at1,hR.at0]|refine rd0 rfl ?_))
  refine kR (hqq _) ?_;have hO:=hQ y;have hR:=hQ (g w y);cases B
  ·(repeat (first|simp only[↓QA,QB,seval,iV,hR.len,hR.base,hR.base0,hR.bset,hR.bset0,hR.at1,hR.at0,hO.len,hO.base,hO.base0,hO.bset,hO.bset0,hO.at1,hO.at0]|refine rd0 rfl ?_))
   exact .inl ⟨[.cells (bM W)],by simp⟩
  ·(repeat (first|simp only[↓QA,QB,seval,iV,hR.len,hR.base,hR.base0,hR.bset,hR.bset0,hR.at1,hR.at0,hO.len,hO.base,hO.base0,hO.bset,hO.bset0,hO.at1,hO.at0]|refine rd0 rfl ?_))
   exact .inl ⟨[.cells (bM W)],by simp⟩
 ·intro τ h2;rw[hRR];obtain⟨⟨⟨r1,r2⟩,M'⟩,r3⟩:=R;simp only at a1 a2;injection a2 with a2 a3
  subst a2;have hR:=hQ r1;simp only[a3,Z0,SN,aCM]
  (repeat (first|simp only[↓QA,QB,seval,iV,hR.len,hR.base,hR.base0,hR.bset,hR.bset0,hR.at1,hR.at0]|refine rd0 rfl ?_))
  by_cases e1:n1=n2
  ·have hb:((n1:Int)==(n2:Int))=true:=by simp[e1]
   (repeat (first|simp only[↓QA,QB,seval,iV,hR.len,hR.base,hR.base0,hR.bset,hR.bset0,hR.at1,hR.at0,hb]|refine rd0 rfl ?_))
   exact⟨_,_,rfl,rfl,by try simp only[QS,QC,seval,iV,hR.len,hR.base,hR.base0,hR.bset,hR.bset0,hR.at1,hR.at0,fG,e1]⟩
  ·have hb:((n1:Int)==(n2:Int))=false:=by simp;omega
   by_cases e2:n1=0
   ·have hb2:((n1:Int)==0)=true:=by simp[e2]
    have hst:fG n1 n2=2:=by rw[fG,if_neg e1,if_pos e2]
    (repeat (first|simp only[↓QA,QB,seval,iV,hR.len,hR.base,hR.base0,hR.bset,hR.bset0,hR.at1,hR.at0,hb,hb2]|refine rd0 rfl ?_))
    exact⟨_,_,rfl,rfl,by try simp only[QS,QC,seval,iV,hR.len,hR.base,hR.base0,hR.bset,hR.bset0,hR.at1,hR.at0,hst]⟩
   ·have hb2:((n1:Int)==0)=false:=by simp;omega
    (repeat (first|simp only[↓QA,QB,seval,iV,hR.len,hR.base,hR.base0,hR.bset,hR.bset0,hR.at1,hR.at0,hb,hb2]|refine rd0 rfl ?_))
    exact⟨_,_,rfl,rfl,by try simp only[QS,QC,seval,iV,hR.len,hR.base,hR.base0,hR.bset,hR.bset0,hR.at1,hR.at0,fG,e1,e2]⟩
 ·intro τ h2;rw[hRR,a1] at h2;cases h2
end
end Go.Am.Room.Tu
namespace Go.Am.Room.Tu
def iX:=zz @encCar_eq (zz @fB (zz @eD (zz @encSeen_eq (zz @aN (zz @eM (zz @dM (zz @dK (zz @List.length_append.{0} (zz @dR (zz @Nat.mul_one (zz @Int.toNat_natCast (zz @pM (zz @mK (zz @mJ (zz @mO (zz @u5 (zz @gT (zz @gR (zz @cH (zz @bK (zz @dZ (zz @dX (zz @gS (@gQ))))))))))))))))))))))))
abbrev TSt:=Int×Int×Bool
def oY(nv:Int)(y:TSt)(h:Int):TSt:=if h=nv then y else if y.2.2=true then (h,h,false) else (min y.1 h,max y.2.1 h,false)
theorem F9(nv:Int):∀ (l:List Int) (lo hi:Int),l.foldl (oY nv) (lo,hi,false)=(((l.filter fun h=>decide (h≠nv)).foldl mT ⟨lo,hi⟩).lo,((l.filter fun h=>decide (h≠nv)).foldl mT ⟨lo,hi⟩).hi,false)
 |[],lo,hi=>rfl
 |h::l,lo,hi=>by
  by_cases e:h=nv
  ·simp only[List.foldl_cons,List.filter_cons,oY,e,if_true];simpa using F9 nv l lo hi
  ·simp only[List.foldl_cons,List.filter_cons,oY,e,if_false,ne_eq,not_false_eq_true,decide_true,if_true,Bool.false_eq_true];exact F9 nv l _ _
theorem FU(nv:Int):∀ l:List Int,(l.foldl (oY nv) (0,0,true)).1=(eE (l.filter fun h=>decide (h≠nv))).lo/\(l.foldl (oY nv) (0,0,true)).2.1=(eE (l.filter fun h=>decide (h≠nv))).hi
 |[]=>⟨rfl,rfl⟩
 |h::l=>by
  by_cases e:h=nv
  ·simp only[List.foldl_cons,List.filter_cons,oY,e,if_true];simpa using FU nv l
  ·simp only[List.foldl_cons,List.filter_cons,oY,e,if_false,ne_eq,not_false_eq_true,decide_true,if_true];rw[F9];exact⟨rfl,rfl⟩
theorem OK{c:Car}{i h:Nat}(hh:lotHold c i=(h:Int)):((dS c h).foldl (fun y w=>oY (never c) y (eQ c h w i)) (0,0,true)).1=(eE (hoursOf c i)).lo/\((dS c h).foldl (fun y w=>oY (never c) y (eQ c h w i)) (0,0,true)).2.1=(eE (hoursOf c i)).hi /\
  ((dS c h).filter fun w=>decide (eQ c h w i≠never c)).length=(hoursOf c i).length/\(dS c h).length=(hoursAll c i).length:=by
 have e:hoursAll c i=(dS c h).map fun w=>eQ c h w i:=by rw[hoursAll,hh,Int.toNat_natCast]
 have e2:(dS c h).foldl (fun y w=>oY (never c) y (eQ c h w i)) (0,0,true)=(hoursAll c i).foldl (oY (never c)) (0,0,true):=by rw[e,List.foldl_map]
 obtain⟨h1,h2⟩:=FU (never c) (hoursAll c i);rw[e2];refine⟨h1,h2,?_,by rw[e,List.length_map]⟩;rw[hoursOf,e,List.filter_map,List.length_map];rfl
def tM(c:Car)(n:Nat)(y:TSt)(M:List Ky):St:=[.cells (carCells c),.cells [.int .i64 n],.cells [.int .i64 y.1,.int .i64 y.2.1],.cells [.ptr 7 0],.cells (carCells c),.cells (carCells c),.map (kEs c M),.cells (tb c 6),.cells [.bool y.2.2]]
theorem vX(c:Car)(n:Nat)(y:TSt):MemAt (tM c n y) (tb c 6) (kEs c) 7 6 9 :=
 ⟨fun _=>rfl,fun _=>rfl,fun _=>rfl,fun _ _=>rfl,fun A k=>OA c A k,by omega,by omega⟩
theorem zR(c:Car)(n:Nat)(x:TSt)(A:List Ky)(y:TSt)(B:List Ky)(k i:Nat)(hk:9<=k)(hi:i<9):dA (tM c n x A) (tM c n y B) k i:=by
 have:i=0\/i=1\/i=2\/i=3\/i=4\/i=5\/i=6\/i=7\/i=8:=by omega
 rcases this with rfl|rfl|rfl|rfl|rfl|rfl|rfl|rfl|rfl
 ·exact .inl rfl
 ·exact .inl rfl
 ·exact .inr (.inl ⟨_,rfl,by simp[aL,okVs,okV]⟩)
 ·exact .inl rfl
 ·exact .inl rfl
 ·exact .inl rfl
 ·exact .inr (.inl ⟨_,rfl,OA c B k⟩)
 ·exact .inl rfl
 ·exact .inr (.inl ⟨_,rfl,by simp[aL,okVs,okV]⟩)
theorem W7{Y M:Type}{S:Y->M->St}{N:Nat}(hl:∀ y A,(S y A).length=N)(hK:∀ x A y B k i,N<=k->i<N->dA (S x A) (S y B) k i)(τ:St):∀ x A y B k i,N+τ.length<=k->i<N+τ.length->dA (S x A++τ) (S y B++τ) k i:=by
 intro x A y B k i hk hi;by_cases h:i<N
 ·have:=hK x A y B k i (by omega) h;have e1:(S x A++τ)[i]? = (S x A)[i]?:=List.getElem?_append_left (by rw[hl];exact h);have e2:(S y B++τ)[i]? = (S y B)[i]?:=List.getElem?_append_left (by rw[hl];exact h);simp only[dA,e1,e2] at this ⊢;exact this
 ·refine .inl ?_;rw[List.getElem?_append_right (by rw[hl];omega),List.getElem?_append_right (by rw[hl];omega),hl,hl]
theorem T6(c:Car)(hv:Vd c)(hd:Int)(n:Nat)(hn:n<c.lots.length):QOk (tM c n) c hd (.func 146 [] [.ptr 1 0,.ptr 3 0,.ptr 8 0,.ptr 2 0]) (fun w=>decide (eQ c hd w n≠never c)) (fun w y=>oY (never c) y (eQ c hd w n)):=by
 intro w hw y M τ;have hnl:=hv.nlt;have hkt:=O0 (c:=c) (hd:=hd) (w:=w) (by rw[hw.len];omega);have hnev:=fun τ=>FE ((vX c n y).app τ) hv M
 have in5:(0:Int)<=(n:Int)/\(n:Int)<((5:Nat):Int):=⟨by omega,by omega⟩;have c4:n<=4:=by omega
 obtain⟨F,hF⟩:∃ F,kyT c (kyW c hd w)=F:=⟨_,rfl⟩;obtain⟨h,hh⟩:∃ h,eQ c hd w n=h:=⟨_,rfl⟩;obtain⟨nv,hnv⟩:∃ nv,never c=nv:=⟨_,rfl⟩;have hFn:F n=h:=by rw[<-hF,hkt,hh]
 have hg:=xE F (i:=n) (by omega);rw[hFn] at hg;rw[hnv] at hnev;simp only[hh,hnv,qH,wQ,hF];obtain⟨Q,hQ⟩:∃ Q,oY nv y h=Q:=⟨_,rfl⟩;rw[hQ];refine BM (S:=fun y M=>tM c n y M++τ) (fun y=>(vX c n y).app τ) (W7 (S:=tM c n) (N:=9) (fun y A=>rfl) (zR c n) τ) (af:=W9) rfl (by simp[W9]) ?_;obtain⟨lo,hi,f⟩:=y;have hQ2:Q=if h=nv then (lo,hi,f) else if f=true then (h,h,false) else (min lo h,max hi h,false):=hQ.symm
 simp only[tM,List.cons_append,List.nil_append] at hnev ⊢
 (repeat (first|simp only[↓QA,QB,reduceLT,reduceIte,reduceEqDiff,reduceAdd,reduceLeDiff,reduceMul,Nat.reduceBEq,iX,W9,in5,c4,hg]|refine rd0 rfl ?_))
 refine bI (hnev _) ?_;cases h1:(h==nv)
 case' true =>
  have h1':h=nv:=by simpa using h1
  rw[if_pos h1'] at hQ2;subst hQ2
  (repeat (first|simp only[↓QA,QB,reduceLT,reduceIte,reduceEqDiff,reduceAdd,reduceLeDiff,reduceMul,Nat.reduceBEq,iX,h1]|refine rd0 rfl ?_))
  refine⟨_,[.cells (bM (kyW c hd w)),.cells (hrs F)],rfl,rfl,?_⟩;try simp only[QS,QC,reduceLT,reduceIte,reduceEqDiff,reduceAdd,reduceLeDiff,reduceMul,Nat.reduceBEq,iX,show decide (h≠nv)=false by simp[h1']]
 have h1':¬h=nv:=by simpa using h1
 rw[if_neg h1'] at hQ2;cases f
 ·simp only[Bool.false_eq_true,if_false] at hQ2;subst hQ2
  (repeat (first|simp only[↓QA,QB,reduceLT,reduceIte,reduceEqDiff,reduceAdd,reduceLeDiff,reduceMul,Nat.reduceBEq,iX,h1]|refine rd0 rfl ?_))
  refine⟨_,[.cells (bM (kyW c hd w)),.cells (hrs F)],rfl,rfl,?_⟩;try simp only[QS,QC,reduceLT,reduceIte,reduceEqDiff,reduceAdd,reduceLeDiff,reduceMul,Nat.reduceBEq,iX,show decide (h≠nv)=true by simp[h1']]
 ·simp only[if_true] at hQ2;subst hQ2
  (repeat (first|simp only[↓QA,QB,reduceLT,reduceIte,reduceEqDiff,reduceAdd,reduceLeDiff,reduceMul,Nat.reduceBEq,iX,h1,Int.min_self,Int.max_self]|refine rd0 rfl ?_))
  refine⟨_,[.cells (bM (kyW c hd w)),.cells (hrs F)],rfl,rfl,?_⟩;try simp only[QS,QC,reduceLT,reduceIte,reduceEqDiff,reduceAdd,reduceLeDiff,reduceMul,Nat.reduceBEq,iX,show decide (h≠nv)=true by simp[h1']]
def encSNE(x:Span×Int×Int):AV:=.tuple [eR x.1,.int .i64 x.2.1,.int .i64 x.2.2]
theorem turns_zero(c:Car)(n:Int)(h:lotErr c n≠0):turnsOf c n=(⟨0,0⟩,0,lotErr c n):=by rw[turnsOf,if_neg h]
theorem lotErr_ok{c:Car}{n:Int}(h:lotErr c n=0):Vd c/\(0<=n/\n<c.lots.length)/\someB c=true:=by
 unfold lotErr at h;split at h
 ·rename_i h1;split at h
  ·rename_i h2;unfold errAsk at h1;split at h1
   ·rename_i h3;split at h1
    ·rename_i h4;rw[aZ] at h4;exact⟨vd_of_check h3,by omega,h2⟩
    ·omega
   ·rename_i h3;exact absurd h1 h3
  ·omega
 ·rename_i h1;exact absurd h h1
theorem pturns_ok(c:Car)(n:Int)(hf:Fits c):cY T 35 [encCar c,.int .i64 n] (encSNE (turnsOf c n)):=by
 refine aV (af:=a35) rfl (by simp[a35]) dd ?_;have hlt:=hf.lots;have hno:=VM (c.lots.length:Int) n ⟨by omega,by omega⟩;have hen:=fun σ=>kJ σ c n hf
 simp only[encCar_eq,fB] at hen
 (repeat (first|simp only[↓QA,QB,seval,iX,a35]|refine rd0 rfl ?_))
 refine xC [.cells [.nilPtr]] rfl ?_
 (repeat (first|simp only[↓QA,QB,seval,iX]|refine rd0 rfl ?_))
 refine fX hno (by simp[clrs,clr,ints]) (by simp[okVs,okV]) ?_
 (repeat (first|simp only[↓QA,QB,seval,iX]|refine rd0 rfl ?_))
 refine kR (hen _) ?_;simp only[fP,iZ];by_cases h0:lotErr c n=0
 ·obtain⟨hv,⟨hn0,hn1⟩,hsb⟩:=lotErr_ok h0;obtain⟨i,rfl⟩:∃ i:Nat,n=i:=⟨n.toNat,by omega⟩;have hi:i<c.lots.length:=by omega
  have hlh:=lot_hold hv hi;obtain⟨h,hh⟩:∃ h:Nat,lotHold c i=h:=⟨(lotHold c i).toNat,by omega⟩;have hhd:h<c.holds.length:=by omega
  obtain⟨f1,f2,f3,f4⟩:=OK hh;obtain⟨M',hask⟩:=W5 (vX c i) (zR c i) hv h hhd 146 [.ptr 1 0,.ptr 3 0,.ptr 8 0,.ptr 2 0] _ _ (T6 c hv h i hi) (0,0,true) (FO c []);rw[f3,f4] at hask;obtain⟨Q,hQ⟩:∃ Q,(dS c h).foldl (fun y w=>oY (never c) y (eQ c h w i)) (0,0,true)=Q:=⟨_,rfl⟩;rw[hQ] at f1 f2 hask;have hm:turnsOf c i=(⟨Q.1,Q.2.1⟩,fG (hoursOf c i).length (hoursAll c i).length,0):=by rw[turnsOf,if_pos h0,Int.toNat_natCast,f1,f2]
  have hxh:c.lots[i].hold=(h:Int):=by rw[<-hh];simp[lotHold,hi]
  obtain⟨x,hx⟩:∃ x,c.lots[i]=x:=⟨_,rfl⟩;rw[hx] at hxh;rw[if_pos h0,if_pos h0,hm];simp only[tM] at hask;simp only[j6];try simp only[↓QA,QB,seval,iX] at hask
  (repeat (first|simp only[↓QA,QB,seval,iX,show ((0:Int)==0)=true from rfl,hi,hx,hxh]|refine rd0 rfl ?_))
  refine kR hask ?_
  (repeat (first|simp only[↓QA,QB,seval,iX,encSNE,hi,hx,hxh]|refine rd0 rfl ?_))
 ·rw[if_neg h0,if_neg h0,turns_zero c n h0];have hne:(lotErr c n==0)=false:=by simpa using h0
  (repeat (first|simp only[↓QA,QB,seval,iX,hne,encSNE]|refine rd0 rfl ?_))
end Go.Am.Room.Tu
noncomputable section
namespace Go.Am.Ex
inductive N16 (α:Type) where
 |mk (a0 a1 a2 a3 a4 a5 a6 a7 a8 a9 aa ab ac ad ae af:α)
inductive Dg where
 |d0
 |d1
 |d2
 |d3
 |d4
 |d5
 |d6
 |d7
 |d8
 |d9
 |da
 |db
 |dc
 |dd
 |de
 |df
def Dg.nat:Dg->Nat
 |.d0=>0
 |.d1=>1
 |.d2=>2
 |.d3=>3
 |.d4=>4
 |.d5=>5
 |.d6=>6
 |.d7=>7
 |.d8=>8
 |.d9=>9
 |.da=>10
 |.db=>11
 |.dc=>12
 |.dd=>13
 |.de=>14
 |.df=>15
instance:DecidableEq Dg:=fun a b=>decidable_of_iff (a.nat=b.nat) ⟨fun h=>by cases a<;>cases b<;>first|rfl|(exact absurd h (by decide)),fun h=>by rw[h]⟩
namespace N16
variable {α:Type}
def g0(b:N16 α):α:=N16.rec (fun a0 a1 a2 a3 a4 a5 a6 a7 a8 a9 aa ab ac ad ae af=>a0) b
def p0(v:α)(b:N16 α):N16 α:=N16.rec (fun a0 a1 a2 a3 a4 a5 a6 a7 a8 a9 aa ab ac ad ae af=>.mk v a1 a2 a3 a4 a5 a6 a7 a8 a9 aa ab ac ad ae af) b
def g1(b:N16 α):α:=N16.rec (fun a0 a1 a2 a3 a4 a5 a6 a7 a8 a9 aa ab ac ad ae af=>a1) b
def p1(v:α)(b:N16 α):N16 α:=N16.rec (fun a0 a1 a2 a3 a4 a5 a6 a7 a8 a9 aa ab ac ad ae af=>.mk a0 v a2 a3 a4 a5 a6 a7 a8 a9 aa ab ac ad ae af) b
def g2(b:N16 α):α:=N16.rec (fun a0 a1 a2 a3 a4 a5 a6 a7 a8 a9 aa ab ac ad ae af=>a2) b
def p2(v:α)(b:N16 α):N16 α:=N16.rec (fun a0 a1 a2 a3 a4 a5 a6 a7 a8 a9 aa ab ac ad ae af=>.mk a0 a1 v a3 a4 a5 a6 a7 a8 a9 aa ab ac ad ae af) b
def g3(b:N16 α):α:=N16.rec (fun a0 a1 a2 a3 a4 a5 a6 a7 a8 a9 aa ab ac ad ae af=>a3) b
def p3(v:α)(b:N16 α):N16 α:=N16.rec (fun a0 a1 a2 a3 a4 a5 a6 a7 a8 a9 aa ab ac ad ae af=>.mk a0 a1 a2 v a4 a5 a6 a7 a8 a9 aa ab ac ad ae af) b
def g4(b:N16 α):α:=N16.rec (fun a0 a1 a2 a3 a4 a5 a6 a7 a8 a9 aa ab ac ad ae af=>a4) b
def p4(v:α)(b:N16 α):N16 α:=N16.rec (fun a0 a1 a2 a3 a4 a5 a6 a7 a8 a9 aa ab ac ad ae af=>.mk a0 a1 a2 a3 v a5 a6 a7 a8 a9 aa ab ac ad ae af) b
def g5(b:N16 α):α:=N16.rec (fun a0 a1 a2 a3 a4 a5 a6 a7 a8 a9 aa ab ac ad ae af=>a5) b
def p5(v:α)(b:N16 α):N16 α:=N16.rec (fun a0 a1 a2 a3 a4 a5 a6 a7 a8 a9 aa ab ac ad ae af=>.mk a0 a1 a2 a3 a4 v a6 a7 a8 a9 aa ab ac ad ae af) b
def g6(b:N16 α):α:=N16.rec (fun a0 a1 a2 a3 a4 a5 a6 a7 a8 a9 aa ab ac ad ae af=>a6) b
def p6(v:α)(b:N16 α):N16 α:=N16.rec (fun a0 a1 a2 a3 a4 a5 a6 a7 a8 a9 aa ab ac ad ae af=>.mk a0 a1 a2 a3 a4 a5 v a7 a8 a9 aa ab ac ad ae af) b
def g7(b:N16 α):α:=N16.rec (fun a0 a1 a2 a3 a4 a5 a6 a7 a8 a9 aa ab ac ad ae af=>a7) b
def p7(v:α)(b:N16 α):N16 α:=N16.rec (fun a0 a1 a2 a3 a4 a5 a6 a7 a8 a9 aa ab ac ad ae af=>.mk a0 a1 a2 a3 a4 a5 a6 v a8 a9 aa ab ac ad ae af) b
def g8(b:N16 α):α:=N16.rec (fun a0 a1 a2 a3 a4 a5 a6 a7 a8 a9 aa ab ac ad ae af=>a8) b
def p8(v:α)(b:N16 α):N16 α:=N16.rec (fun a0 a1 a2 a3 a4 a5 a6 a7 a8 a9 aa ab ac ad ae af=>.mk a0 a1 a2 a3 a4 a5 a6 a7 v a9 aa ab ac ad ae af) b
def g9(b:N16 α):α:=N16.rec (fun a0 a1 a2 a3 a4 a5 a6 a7 a8 a9 aa ab ac ad ae af=>a9) b
def p9(v:α)(b:N16 α):N16 α:=N16.rec (fun a0 a1 a2 a3 a4 a5 a6 a7 a8 a9 aa ab ac ad ae af=>.mk a0 a1 a2 a3 a4 a5 a6 a7 a8 v aa ab ac ad ae af) b
def ga(b:N16 α):α:=N16.rec (fun a0 a1 a2 a3 a4 a5 a6 a7 a8 a9 aa ab ac ad ae af=>aa) b
def pa(v:α)(b:N16 α):N16 α:=N16.rec (fun a0 a1 a2 a3 a4 a5 a6 a7 a8 a9 aa ab ac ad ae af=>.mk a0 a1 a2 a3 a4 a5 a6 a7 a8 a9 v ab ac ad ae af) b
def gb(b:N16 α):α:=N16.rec (fun a0 a1 a2 a3 a4 a5 a6 a7 a8 a9 aa ab ac ad ae af=>ab) b
def pb(v:α)(b:N16 α):N16 α:=N16.rec (fun a0 a1 a2 a3 a4 a5 a6 a7 a8 a9 aa ab ac ad ae af=>.mk a0 a1 a2 a3 a4 a5 a6 a7 a8 a9 aa v ac ad ae af) b
def gc(b:N16 α):α:=N16.rec (fun a0 a1 a2 a3 a4 a5 a6 a7 a8 a9 aa ab ac ad ae af=>ac) b
def pc(v:α)(b:N16 α):N16 α:=N16.rec (fun a0 a1 a2 a3 a4 a5 a6 a7 a8 a9 aa ab ac ad ae af=>.mk a0 a1 a2 a3 a4 a5 a6 a7 a8 a9 aa ab v ad ae af) b
def gd(b:N16 α):α:=N16.rec (fun a0 a1 a2 a3 a4 a5 a6 a7 a8 a9 aa ab ac ad ae af=>ad) b
def pd(v:α)(b:N16 α):N16 α:=N16.rec (fun a0 a1 a2 a3 a4 a5 a6 a7 a8 a9 aa ab ac ad ae af=>.mk a0 a1 a2 a3 a4 a5 a6 a7 a8 a9 aa ab ac v ae af) b
def ge(b:N16 α):α:=N16.rec (fun a0 a1 a2 a3 a4 a5 a6 a7 a8 a9 aa ab ac ad ae af=>ae) b
def pe(v:α)(b:N16 α):N16 α:=N16.rec (fun a0 a1 a2 a3 a4 a5 a6 a7 a8 a9 aa ab ac ad ae af=>.mk a0 a1 a2 a3 a4 a5 a6 a7 a8 a9 aa ab ac ad v af) b
def gf(b:N16 α):α:=N16.rec (fun a0 a1 a2 a3 a4 a5 a6 a7 a8 a9 aa ab ac ad ae af=>af) b
def pf(v:α)(b:N16 α):N16 α:=N16.rec (fun a0 a1 a2 a3 a4 a5 a6 a7 a8 a9 aa ab ac ad ae af=>.mk a0 a1 a2 a3 a4 a5 a6 a7 a8 a9 aa ab ac ad ae v) b
def sel(d:Dg):N16 α->α:=Dg.rec g0 g1 g2 g3 g4 g5 g6 g7 g8 g9 ga gb gc gd ge gf d
def put(d:Dg):α->N16 α->N16 α:=Dg.rec p0 p1 p2 p3 p4 p5 p6 p7 p8 p9 pa pb pc pd pe pf d
theorem sel_put(d d':Dg)(v:α)(b:N16 α):sel d' (put d v b)=if d=d' then v else sel d' b:=by
 cases b;cases d<;>cases d'<;>rfl
def all(v:α):N16 α:=.mk v v v v v v v v v v v v v v v v
theorem sel_all(d:Dg)(v:α):sel d (all v)=v:=by cases d<;>rfl
end N16
def dig(n:Nat):Dg:=cond (Nat.beq n 0) .d0 (cond (Nat.beq n 1) .d1 (cond (Nat.beq n 2) .d2 (cond (Nat.beq n 3) .d3 (cond (Nat.beq n 4) .d4 (cond (Nat.beq n 5) .d5 (cond (Nat.beq n 6) .d6 (cond (Nat.beq n 7) .d7 (cond (Nat.beq n 8) .d8 (cond (Nat.beq n 9) .d9 (cond (Nat.beq n 10) .da (cond (Nat.beq n 11) .db (cond (Nat.beq n 12) .dc (cond (Nat.beq n 13) .dd (cond (Nat.beq n 14) .de (cond (Nat.beq n 15) .df (.d0))))))))))))))))
theorem PQ:∀ n,n<16->(dig n).nat=n:=by decide
theorem wZ{n m:Nat}(hn:n<16)(hm:m<16)(h:dig n=dig m):n=m:=by rw[<-PQ n hn,<-PQ m hm,h]
abbrev Tre:=N16 (N16 AV)
def Tre.none:Tre:=.all (.all .undef)
def Tre.get(e:Tre)(t:Nat):AV:=cond (Nat.ble t 255) (N16.sel (dig (Nat.mod t 16)) (N16.sel (dig (Nat.div t 16)) e)) .undef
def Tre.put(e:Tre)(t:Nat)(v:AV):Tre:=N16.put (dig (Nat.div t 16)) (N16.put (dig (Nat.mod t 16)) v (N16.sel (dig (Nat.div t 16)) e)) e
theorem Tre.get_none(t:Nat):Tre.get .none t = .undef:=by
 unfold Tre.get Tre.none;cases Nat.ble t 255<;>simp[N16.sel_all]
theorem Tre.get_put(e:Tre)(t:Nat)(v:AV)(ht:Nat.ble t 255=true)(s:Nat):Tre.get (Tre.put e t v) s=if t=s then v else Tre.get e s:=by
 have h1:t<=255:=Nat.le_of_ble_eq_true ht;unfold Tre.get Tre.put;cases hs:Nat.ble s 255 with
 |false =>
  have:t≠s:=fun h=>by rw[h,hs] at ht;cases ht
  rw[if_neg this];rfl
 |true =>
  have h2:s<=255:=Nat.le_of_ble_eq_true hs;simp only[cond_true,N16.sel_put];by_cases hd:dig (Nat.div t 16)=dig (Nat.div s 16)
  ·have e1:t/16=s/16:=wZ (by omega) (by omega) hd;rw[if_pos hd,N16.sel_put];by_cases hm:dig (Nat.mod t 16)=dig (Nat.mod s 16)
   ·have e2:t%16=s%16:=wZ (Nat.mod_lt _ (by omega)) (Nat.mod_lt _ (by omega)) hm;rw[if_pos hm,if_pos (by omega)]
   ·rw[if_neg hm,if_neg (fun h=>hm (by rw[h])),hd]
  ·rw[if_neg hd,if_neg (fun h=>hd (by rw[h]))]
def lH(env:Env)(e:Tre):Prop:=∀ t,Env.get env t=Tre.get e t
theorem lH.put{env:Env}{e:Tre}(h:lH env e)(t:Nat)(v:AV)(ht:Nat.ble t 255=true):lH (Env.put env (some t) v) (Tre.put e t v):=by
 intro s;rw[Tre.get_put e t v ht];simp only[Env.put,Env.get];split
 ·rfl
 ·exact h s
def nth{α:Type}(l:List α):Nat->Option α:=List.rec (motive:=fun _=>Nat->Option α) (fun _=>none) (fun x _ ih n=>Nat.rec (some x) (fun m _=>ih m) n) l
theorem yL{α:Type}:∀ (l:List α) (n:Nat),nth l n=l[n]?
 |[],n=>by simp[nth]
 |x::l,0=>by rw[List.getElem?_cons_zero];rfl
 |x::l,n+1=>by rw[List.getElem?_cons_succ,<-yL l n];rfl
def aK6{α:Type}(x:α)(l:List α):Nat->List α:=List.rec (motive:=fun _=>Nat->List α) (fun _=>[]) (fun y ys ih n=>Nat.rec (x::ys) (fun m _=>y::ih m) n) l
theorem PS{α:Type}(x:α):∀ (l:List α) (n:Nat),aK6 x l n=l.set n x
 |[],n=>by simp[aK6]
 |y::l,0=>by rw[List.set_cons_zero];rfl
 |y::l,n+1=>by rw[List.set_cons_succ,<-PS x l n];rfl
def oW{α:Type}(l:List α):Nat:=List.rec 0 (fun _ _ ih=>Nat.add ih 1) l
theorem iY{α:Type}:∀ l:List α,oW l=l.length
 |[]=>rfl
 |x::l=>by rw[List.length_cons,<-iY l];rfl
def snoc{α:Type}(x:α)(l:List α):List α:=List.rec [x] (fun y _ ih=>y::ih) l
theorem PZ{α:Type}(x:α):∀ l:List α,snoc x l=l++[x]
 |[]=>rfl
 |y::l=>by rw[List.cons_append,<-PZ x l];rfl
def NH{α:Type}(l k:List α):List α:=List.rec k (fun y _ ih=>y::ih) l
theorem rU{α:Type}(k:List α):∀ l:List α,NH l k=l++k
 |[]=>rfl
 |y::l=>by rw[List.cons_append,<-rU k l];rfl
def aP0{α β:Type}(f:α->β)(l:List α):List β:=List.rec [] (fun y _ ih=>f y::ih) l
theorem O6{α β:Type}(f:α->β):∀ l:List α,aP0 f l=l.map f
 |[]=>rfl
 |y::l=>by rw[List.map_cons,<-O6 f l];rfl
def QX{α:Type}(l:List α):Nat->List α:=List.rec (motive:=fun _=>Nat->List α) (fun _=>[]) (fun y ys ih n=>Nat.rec (y::ys) (fun m _=>ih m) n) l
theorem CH{α:Type}:∀ (l:List α) (n:Nat),QX l n=l.drop n
 |[],n=>by simp[QX]
 |y::l,0=>by rw[List.drop_zero];rfl
 |y::l,n+1=>by rw[List.drop_succ_cons,<-CH l n];rfl
def aA3{α:Type}(l:List α):Nat->List α:=List.rec (motive:=fun _=>Nat->List α) (fun _=>[]) (fun y _ ih n=>Nat.rec [] (fun m _=>y::ih m) n) l
theorem H4{α:Type}:∀ (l:List α) (n:Nat),aA3 l n=l.take n
 |[],n=>by simp[aA3]
 |y::l,0=>by rw[List.take_zero];rfl
 |y::l,n+1=>by rw[List.take_succ_cons,<-H4 l n];rfl
def NO{α:Type}(f:α->Bool)(l:List α):Bool:=List.rec true (fun y _ ih=>cond (f y) ih false) l
theorem GP{α:Type}(f:α->Bool):∀ l:List α,NO f l=l.all f
 |[]=>rfl
 |y::l=>by rw[List.all_cons,<-GP f l];simp only[NO];cases f y<;>rfl
section
variable {R:Type}
def aP4(v:AV):(IntKind->Int->R)->R->R:=AV.rec (motive_1:=fun _=>(IntKind->Int->R)->R->R) (motive_2:=fun _=>PUnit) (fun _ d=>d) (fun k n K d=>K k n) (fun _ _ d=>d) (fun _ _ d=>d) (fun _ _ _ _ _ _ d=>d) (fun _ d=>d) (fun _ _ d=>d) (fun _ _ _ d=>d) (fun _ d=>d) (fun _ _ _ _ _ _ d=>d) (fun _ _ _ _ _ d=>d) (fun _ _ _ _ _ d=>d) (fun _ _ d=>d) (fun _ d=>d) (fun _ _ _ d=>d) (fun _ _ _ d=>d) ⟨⟩ (fun _ _ _ _=>⟨⟩) v
theorem aE4(v:AV)(K:IntKind->Int->R)(d:R):aP4 v K d=match v with|.int k n=>K k n|_=>d:=by cases v<;>rfl
def EX(v:AV):(Bool->R)->R->R:=AV.rec (motive_1:=fun _=>(Bool->R)->R->R) (motive_2:=fun _=>PUnit) (fun _ d=>d) (fun _ _ _ d=>d) (fun b K d=>K b) (fun _ _ d=>d) (fun _ _ _ _ _ _ d=>d) (fun _ d=>d) (fun _ _ d=>d) (fun _ _ _ d=>d) (fun _ d=>d) (fun _ _ _ _ _ _ d=>d) (fun _ _ _ _ _ d=>d) (fun _ _ _ _ _ d=>d) (fun _ _ d=>d) (fun _ d=>d) (fun _ _ _ d=>d) (fun _ _ _ d=>d) ⟨⟩ (fun _ _ _ _=>⟨⟩) v
theorem wN(v:AV)(K:Bool->R)(d:R):EX v K d=match v with|.bool b=>K b|_=>d:=by cases v<;>rfl
def QJ(v:AV):(FuncId->List AV->List AV->R)->R->R:=AV.rec (motive_1:=fun _=>(FuncId->List AV->List AV->R)->R->R) (motive_2:=fun _=>PUnit) (fun _ d=>d) (fun _ _ _ d=>d) (fun _ _ d=>d) (fun _ _ d=>d) (fun f a c _ _ K d=>K f a c) (fun _ d=>d) (fun _ _ d=>d) (fun _ _ _ d=>d) (fun _ d=>d) (fun _ _ _ _ _ _ d=>d) (fun _ _ _ _ _ d=>d) (fun _ _ _ _ _ d=>d) (fun _ _ d=>d) (fun _ d=>d) (fun _ _ _ d=>d) (fun _ _ _ d=>d) ⟨⟩ (fun _ _ _ _=>⟨⟩) v
theorem BT(v:AV)(K:FuncId->List AV->List AV->R)(d:R):QJ v K d=match v with|.func f a c=>K f a c|_=>d:=by cases v<;>rfl
def OM(v:AV):(Nat->R)->R->R:=AV.rec (motive_1:=fun _=>(Nat->R)->R->R) (motive_2:=fun _=>PUnit) (fun _ d=>d) (fun _ _ _ d=>d) (fun _ _ d=>d) (fun _ _ d=>d) (fun _ _ _ _ _ _ d=>d) (fun _ d=>d) (fun i K d=>K i) (fun _ _ _ d=>d) (fun _ d=>d) (fun _ _ _ _ _ _ d=>d) (fun _ _ _ _ _ d=>d) (fun _ _ _ _ _ d=>d) (fun _ _ d=>d) (fun _ d=>d) (fun _ _ _ d=>d) (fun _ _ _ d=>d) ⟨⟩ (fun _ _ _ _=>⟨⟩) v
theorem EK(v:AV)(K:Nat->R)(d:R):OM v K d=match v with|.yield i=>K i|_=>d:=by cases v<;>rfl
def aAW(v:AV):(Nat->Nat->R)->R->R:=AV.rec (motive_1:=fun _=>(Nat->Nat->R)->R->R) (motive_2:=fun _=>PUnit) (fun _ d=>d) (fun _ _ _ d=>d) (fun _ _ d=>d) (fun _ _ d=>d) (fun _ _ _ _ _ _ d=>d) (fun _ d=>d) (fun _ _ d=>d) (fun i o K d=>K i o) (fun _ d=>d) (fun _ _ _ _ _ _ d=>d) (fun _ _ _ _ _ d=>d) (fun _ _ _ _ _ d=>d) (fun _ _ d=>d) (fun _ d=>d) (fun _ _ _ d=>d) (fun _ _ _ d=>d) ⟨⟩ (fun _ _ _ _=>⟨⟩) v
theorem BB(v:AV)(K:Nat->Nat->R)(d:R):aAW v K d=match v with|.ptr i o=>K i o|_=>d:=by cases v<;>rfl
def QF(v:AV):(List AV->Nat->Nat->Option Nat->R)->R->R:=AV.rec (motive_1:=fun _=>(List AV->Nat->Nat->Option Nat->R)->R->R) (motive_2:=fun _=>PUnit) (fun _ d=>d) (fun _ _ _ d=>d) (fun _ _ d=>d) (fun _ _ d=>d) (fun _ _ _ _ _ _ d=>d) (fun _ d=>d) (fun _ _ d=>d) (fun _ _ _ d=>d) (fun _ d=>d) (fun xs i o tk _ K d=>K xs i o tk) (fun _ _ _ _ _ d=>d) (fun _ _ _ _ _ d=>d) (fun _ _ d=>d) (fun _ d=>d) (fun _ _ _ d=>d) (fun _ _ _ d=>d) ⟨⟩ (fun _ _ _ _=>⟨⟩) v
theorem BG(v:AV)(K:List AV->Nat->Nat->Option Nat->R)(d:R):QF v K d=match v with|.lptr xs i o tk=>K xs i o tk|_=>d:=by cases v<;>rfl
def yY(v:AV):(List AV->Bool->Option Nat->R)->R->R:=AV.rec (motive_1:=fun _=>(List AV->Bool->Option Nat->R)->R->R) (motive_2:=fun _=>PUnit) (fun _ d=>d) (fun _ _ _ d=>d) (fun _ _ d=>d) (fun _ _ d=>d) (fun _ _ _ _ _ _ d=>d) (fun _ d=>d) (fun _ _ d=>d) (fun _ _ _ d=>d) (fun _ d=>d) (fun _ _ _ _ _ _ d=>d) (fun xs fl tk _ K d=>K xs fl tk) (fun _ _ _ _ _ d=>d) (fun _ _ d=>d) (fun _ d=>d) (fun _ _ _ d=>d) (fun _ _ _ d=>d) ⟨⟩ (fun _ _ _ _=>⟨⟩) v
theorem xF(v:AV)(K:List AV->Bool->Option Nat->R)(d:R):yY v K d=match v with|.lit xs fl tk=>K xs fl tk|_=>d:=by cases v<;>rfl
def aCF(v:AV):(Nat->Nat->Nat->Nat->R)->R->R:=AV.rec (motive_1:=fun _=>(Nat->Nat->Nat->Nat->R)->R->R) (motive_2:=fun _=>PUnit) (fun _ d=>d) (fun _ _ _ d=>d) (fun _ _ d=>d) (fun _ _ d=>d) (fun _ _ _ _ _ _ d=>d) (fun _ d=>d) (fun _ _ d=>d) (fun _ _ _ d=>d) (fun _ d=>d) (fun _ _ _ _ _ _ d=>d) (fun _ _ _ _ _ d=>d) (fun i o l z K d=>K i o l z) (fun _ _ d=>d) (fun _ d=>d) (fun _ _ _ d=>d) (fun _ _ _ d=>d) ⟨⟩ (fun _ _ _ _=>⟨⟩) v
theorem G8(v:AV)(K:Nat->Nat->Nat->Nat->R)(d:R):aCF v K d=match v with|.ref i o l z=>K i o l z|_=>d:=by cases v<;>rfl
def aLB(v:AV):(List AV->R)->R->R:=AV.rec (motive_1:=fun _=>(List AV->R)->R->R) (motive_2:=fun _=>PUnit) (fun _ d=>d) (fun _ _ _ d=>d) (fun _ _ d=>d) (fun _ _ d=>d) (fun _ _ _ _ _ _ d=>d) (fun _ d=>d) (fun _ _ d=>d) (fun _ _ _ d=>d) (fun _ d=>d) (fun _ _ _ _ _ _ d=>d) (fun _ _ _ _ _ d=>d) (fun _ _ _ _ _ d=>d) (fun _ _ d=>d) (fun _ d=>d) (fun cs _ K d=>K cs) (fun _ _ _ d=>d) ⟨⟩ (fun _ _ _ _=>⟨⟩) v
theorem aF5(v:AV)(K:List AV->R)(d:R):aLB v K d=match v with|.agg cs=>K cs|_=>d:=by cases v<;>rfl
def MC(v:AV):(List AV->R)->R->R:=AV.rec (motive_1:=fun _=>(List AV->R)->R->R) (motive_2:=fun _=>PUnit) (fun _ d=>d) (fun _ _ _ d=>d) (fun _ _ d=>d) (fun _ _ d=>d) (fun _ _ _ _ _ _ d=>d) (fun _ d=>d) (fun _ _ d=>d) (fun _ _ _ d=>d) (fun _ d=>d) (fun _ _ _ _ _ _ d=>d) (fun _ _ _ _ _ d=>d) (fun _ _ _ _ _ d=>d) (fun _ _ d=>d) (fun _ d=>d) (fun _ _ _ d=>d) (fun vs _ K d=>K vs) ⟨⟩ (fun _ _ _ _=>⟨⟩) v
theorem EG(v:AV)(K:List AV->R)(d:R):MC v K d=match v with|.tuple vs=>K vs|_=>d:=by cases v<;>rfl
def kU(b:ABlk):(List AV->R)->R->R:=ABlk.rec (motive:=fun _=>(List AV->R)->R->R) (fun cs K d=>K cs) (fun _ _ d=>d) (fun _ _ _ _ d=>d) (fun _ _ _ d=>d) (fun _ _ _ _ _ d=>d) (fun _ _ _ _ _ _ _ d=>d) (fun _ d=>d) b
theorem yJ(b:ABlk)(K:List AV->R)(d:R):kU b K d=match b with|.cells cs=>K cs|_=>d:=by cases b<;>rfl
def FR(b:ABlk):(LS->Option AJump->Env->List Nat->ACode->ACode->R)->R->R:=ABlk.rec (motive:=fun _=>(LS->Option AJump->Env->List Nat->ACode->ACode->R)->R->R) (fun _ _ d=>d) (fun _ _ d=>d) (fun _ _ _ _ d=>d) (fun _ _ _ d=>d) (fun _ _ _ _ _ d=>d) (fun s p e q a b K d=>K s p e q a b) (fun _ d=>d) b
theorem J2(b:ABlk)(K:LS->Option AJump->Env->List Nat->ACode->ACode->R)(d:R):FR b K d=match b with|.loop s p e q a b=>K s p e q a b|_=>d:=by cases b<;>rfl
def P0(k:IntKind):Bool:=IntKind.rec false false false true false false false false k
theorem UX{k:IntKind}(h:P0 k=true):k = .i64:=by cases k<;>first|rfl|(cases h;done)
def aL4(n:Int):(Nat->R)->R->R:=Int.rec (motive:=fun _=>(Nat->R)->R->R) (fun m K d=>K m) (fun _ _ d=>d) n
theorem aD5(n:Int)(K:Nat->R)(d:R):(∃ m:Nat,n=m/\aL4 n K d=K m)\/aL4 n K d=d:=by
 cases n with
 |ofNat m=>exact .inl ⟨m,rfl,rfl⟩
 |negSucc m=>exact .inr rfl
end
def eW{α R:Type}(d:R)(x:Option α)(K:α->R):R:=Option.rec d (fun y=>K y) x
theorem cU{α R:Type}(d:R)(x:Option α)(K:α->R):eW d x K=match x with|some y=>K y|none=>d:=by cases x<;>rfl
def oS{R:Type}(n:Nat)(K:Nat->R):R:=Nat.rec (K 0) (fun m _=>K (Nat.succ m)) n
theorem kE{R:Type}(n:Nat)(K:Nat->R):oS n K=K n:=by cases n<;>rfl
def odv(x:AOpd):Tre->AV:=AOpd.rec (fun t e=>Tre.get e t) (fun v _=>v) x
theorem hJ{env:Env}{e:Tre}(h:lH env e)(x:AOpd):odv x e=x.ev env:=by
 cases x with
 |t n=>exact (h n).symm
 |c v=>rfl
def RJ(xs:List AOpd)(e:Tre):List AV:=List.rec [] (fun x _ ih=>odv x e::ih) xs
theorem w8{env:Env}{e:Tre}(h:lH env e):∀ xs:List AOpd,RJ xs e=xs.map (·.ev env)
 |[]=>rfl
 |x::xs=>by rw[List.map_cons,<-w8 h xs,<-hJ h];rfl
def I4(e:Tre)(ts:List Nat):Env:=List.rec [] (fun t _ ih=>(t,Tre.get e t)::ih) ts
theorem zE{env:Env}{e:Tre}(h:lH env e):∀ (ts:List Nat) (t:Nat),t∈ts->Env.get (I4 e ts) t=Env.get env t
 |s::ts,t,ht=>by
  have e1:I4 e (s::ts)=(s,Tre.get e s)::I4 e ts:=rfl;rw[e1,Env.get];split
  ·rename_i hs;subst hs;exact (h _).symm
  ·rename_i hs;refine zE h ts t ?_;rcases List.mem_cons.1 ht with rfl|ht
   ·exact absurd rfl hs
   ·exact ht
inductive SS where
 |mk (n:Nat) (t:N16 (N16 (N16 (Option ABlk))))
def SS.len(s:SS):Nat:=SS.rec (fun n _=>n) s
def SS.tree(s:SS):N16 (N16 (N16 (Option ABlk))):=SS.rec (fun _ t=>t) s
def B7(t:N16 (N16 (N16 (Option ABlk))))(i:Nat):Option ABlk:=N16.sel (dig (Nat.mod i 16)) (N16.sel (dig (Nat.mod (Nat.div i 16) 16)) (N16.sel (dig (Nat.div i 256)) t))
def NA(t:N16 (N16 (N16 (Option ABlk))))(i:Nat)(b:Option ABlk):N16 (N16 (N16 (Option ABlk))) :=
 N16.put (dig (Nat.div i 256)) (N16.put (dig (Nat.mod (Nat.div i 16) 16)) (N16.put (dig (Nat.mod i 16)) b (N16.sel (dig (Nat.mod (Nat.div i 16) 16)) (N16.sel (dig (Nat.div i 256)) t))) (N16.sel (dig (Nat.div i 256)) t)) t
theorem EZ(t:N16 (N16 (N16 (Option ABlk)))){i j:Nat}(b:Option ABlk)(hi:i<=4095)(hj:j<=4095):B7 (NA t i b) j=if i=j then b else B7 t j:=by
 unfold B7 NA;rw[N16.sel_put];by_cases h1:dig (Nat.div i 256)=dig (Nat.div j 256)
 ·have e1:i/256=j/256:=wZ (by omega) (by omega) h1;rw[if_pos h1,N16.sel_put];by_cases h2:dig (Nat.mod (Nat.div i 16) 16)=dig (Nat.mod (Nat.div j 16) 16)
  ·have e2:i/16%16=j/16%16:=wZ (Nat.mod_lt _ (by omega)) (Nat.mod_lt _ (by omega)) h2;rw[if_pos h2,N16.sel_put];by_cases h3:dig (Nat.mod i 16)=dig (Nat.mod j 16)
   ·have e3:i%16=j%16:=wZ (Nat.mod_lt _ (by omega)) (Nat.mod_lt _ (by omega)) h3;rw[if_pos h3,if_pos (by omega)]
   ·rw[if_neg h3,if_neg (fun h=>h3 (by rw[h])),h2,h1]
  ·rw[if_neg h2,if_neg (fun h=>h2 (by rw[h])),h1]
 ·rw[if_neg h1,if_neg (fun h=>h1 (by rw[h]))]
def SS.get(s:SS)(i:Nat):Option ABlk:=cond (Nat.ble i 4095) (B7 s.tree i) none
def SS.set(s:SS)(i:Nat)(b:ABlk):SS:=SS.rec (fun n t=>.mk n (NA t i (some b))) s
def SS.new:SS:=.mk 0 (.all (.all (.all none)))
def CU{R:Type}(d:R)(s:SS)(b:ABlk)(K:SS->R):R:=SS.rec (fun n t=>cond (Nat.ble n 4095) (oS (Nat.add n 1) fun m=>K (.mk m (NA t n (some b)))) d) s
def dI(σ:St)(s:SS):Prop:=σ.length=s.len/\∀ i,σ[i]? = s.get i
theorem dI.new:dI [] SS.new:=⟨rfl,fun i=>by
 simp only[SS.get,SS.new,SS.tree,B7,N16.sel_all]
 cases Nat.ble i 4095<;>rfl⟩
theorem dI.small{σ:St}{s:SS}(h:dI σ s){i:Nat}{b:ABlk}(hb:σ[i]? = some b):i<=4095:=by
 rw[h.2 i,SS.get] at hb;cases hi:Nat.ble i 4095 with
 |true=>exact Nat.le_of_ble_eq_true hi
 |false=>rw[hi] at hb;cases hb
theorem dI.set{σ:St}{s:SS}(h:dI σ s){i:Nat}{b0:ABlk}(hb:σ[i]? = some b0)(b:ABlk):dI (σ.set i b) (s.set i b):=by
 have hi:=h.small hb;have hl:=(List.getElem?_eq_some_iff.1 hb).1;obtain⟨n,t⟩:=s;refine⟨by rw[List.length_set];exact h.1,fun j=>?_⟩;have hj:=h.2 j;show _=cond (Nat.ble j 4095) (B7 (NA t i (some b)) j) none
 cases hjb:Nat.ble j 4095 with
 |true =>
  rw[cond_true,EZ t (some b) hi (Nat.le_of_ble_eq_true hjb)];by_cases e:i=j
  ·subst e;rw[if_pos rfl,List.getElem?_set_self hl]
  ·rw[if_neg e,List.getElem?_set_ne e,hj];show cond (Nat.ble j 4095) (B7 t j) none=_
   rw[hjb];rfl
 |false =>
  have e:i≠j:=fun e=>by subst e;rw[Nat.ble_eq_true_of_le hi] at hjb;cases hjb
  rw[List.getElem?_set_ne e,hj];show cond (Nat.ble j 4095) (B7 t j) none=_
  rw[hjb];rfl
theorem sM{σ:St}{s:SS}{α:Type}{b:ABlk}{K:SS->Option α}{r:α}(h:dI σ s)(hr:CU none s b K=some r):∃ s',dI (σ++[b]) s'/\K s'=some r:=by
 obtain⟨n,t⟩:=s;have hr':cond (Nat.ble n 4095) (oS (Nat.add n 1) fun m=>K (.mk m (NA t n (some b)))) none=some r:=hr;cases hn:Nat.ble n 4095 with
 |false=>rw[hn] at hr';cases hr'
 |true =>
  rw[hn,cond_true,kE] at hr';refine⟨_,⟨?_,fun j=>?_⟩,hr'⟩
  ·rw[List.length_append];have:=h.1;show σ.length+1=n+1;rw[this];rfl
  ·have hl:σ.length=n:=h.1;have hj:=h.2 j;show _=cond (Nat.ble j 4095) (B7 (NA t n (some b)) j) none
   cases hjb:Nat.ble j 4095 with
   |true =>
    rw[cond_true,EZ t (some b) (Nat.le_of_ble_eq_true hn) (Nat.le_of_ble_eq_true hjb)];have hj':σ[j]? = B7 t j:=by rw[hj];show cond (Nat.ble j 4095) (B7 t j) none=_;rw[hjb];rfl
    by_cases e:n=j
    ·subst e;rw[if_pos rfl,List.getElem?_append_right (by omega)];simp[hl]
    ·rw[if_neg e,<-hj'];rcases Nat.lt_or_ge j n with q|q
     ·rw[List.getElem?_append_left (by omega)]
     ·rw[List.getElem?_append_right (by omega),List.getElem?_eq_none (by simp;omega),List.getElem?_eq_none (by omega)]
   |false =>
    have hn':=Nat.le_of_ble_eq_true hn;have hj4:4095<j:=by
     rcases Nat.lt_or_ge 4095 j with q|q
     ·exact q
     ·rw[Nat.ble_eq_true_of_le q] at hjb;cases hjb
    rw[List.getElem?_eq_none (by simp;omega)];rfl
def QO(s:SS)(n:Nat):Nat->List ABlk:=Nat.rec (motive:=fun _=>Nat->List ABlk) (fun _=>[]) (fun _ ih i=>eW [] (s.get i) fun b=>b::ih (Nat.add i 1)) n
def TK(s:SS):St:=QO s s.len 0
theorem H0{σ:St}{s:SS}(h:dI σ s):∀ (k i:Nat),i+k=σ.length->QO s k i=σ.drop i
 |0,i,hi=>by rw[List.drop_eq_nil_of_le (by omega)];rfl
 |k+1,i,hi=>by
  have e:QO s (k+1) i=eW [] (s.get i) fun b=>b::QO s k (i+1):=rfl
  rw[e,<-h.2 i,List.getElem?_eq_getElem (by omega),cU];simp only;rw[H0 h k (i+1) (by omega)];exact (List.drop_eq_getElem_cons (by omega)).symm
theorem A8{σ:St}{s:SS}(h:dI σ s):TK s=σ:=by
 unfold TK;rw[H0 h _ 0 (by rw[Nat.zero_add];exact h.1.symm)];rfl
def KO{α:Type}(σ:List ABlk):SS->(SS->Option α)->Option α:=List.rec (motive:=fun _=>SS->(SS->Option α)->Option α) (fun s K=>K s) (fun b _ ih s K=>CU none s b fun s=>ih s K) σ
theorem xW{α:Type}{K:SS->Option α}{r:α}:∀ {τ σ:St} {s:SS},dI σ s->KO τ s K=some r->∃ s',dI (σ++τ) s'/\K s'=some r
 |[],σ,s,h,hr=>⟨s,by rw[List.append_nil];exact h,hr⟩
 |b::τ,σ,s,h,hr=>by
  have hr':CU none s b (fun s=>KO τ s K)=some r:=hr;obtain⟨s',h1,h2⟩:=sM h hr';obtain⟨s2,h3,h4⟩:=xW h1 h2;exact⟨s2,by rw[List.append_assoc] at h3;exact h3,h4⟩
abbrev RR:=Option (AV×SS)
abbrev KV:=AV->SS->RR
def bv(r:Option AV)(s:SS)(K:KV):RR:=Option.rec none (fun v=>K v s) r
theorem mA(v:AV)(s:SS)(K:KV):bv (some v) s K=K v s:=rfl
theorem aR9{o:Option AV}{s:SS}{K:KV}{r:AV×SS}(h:bv o s K=some r):∃ v,o=some v/\K v s=some r:=by
 cases o with
 |none=>cases h
 |some v=>exact⟨v,rfl,h⟩
def bnd(r:RR)(K:KV):RR:=Option.rec none (fun p=>Prod.rec (fun v s=>K v s) p) r
theorem NJ{r:RR}{K:KV}{x:AV×SS}(h:bnd r K=some x):∃ v s,r=some (v,s)/\K v s=some x:=by
 cases r with
 |none=>cases h
 |some p=>exact⟨p.1,p.2,rfl,h⟩
def bnO{R:Type}(r:Option (AV×St))(K:AV->St->Option R):Option R:=Option.rec none (fun p=>Prod.rec (fun v s=>K v s) p) r
theorem aJH{R:Type}{r:Option (AV×St)}{K:AV->St->Option R}{x:R}(h:bnO r K=some x):∃ v s,r=some (v,s)/\K v s=some x:=by
 cases r with
 |none=>cases h
 |some p=>exact⟨p.1,p.2,rfl,h⟩
def Did(q:AOp)(env:Env)(σ:St)(K:KV)(r:AV×SS):Prop:=∃ v σ' s',aop q env σ=some (v,σ')/\dI σ' s'/\K v s'=some r
theorem FZ{q:AOp}{env:Env}{σ s:St}{v:AV}(hq:aop q env σ=some (v,s))(h1:q.acts=false)(h2:q.allocs=false):s=σ:=by
 cases q<;>simp only[AOp.acts,AOp.allocs] at h1 h2<;>first|(cases h1;done)|(cases h2;done)|skip
 all_goals
  simp only[aop] at hq
  repeat' split at hq
  all_goals first|(cases hq;done)|(cases hq;rfl)
def SF(q:AOp)(e:Tre)(s:SS)(K:KV):RR:=bnO (aop q (I4 e q.tmps) (TK s)) fun v σ'=>cond (cond q.acts true q.allocs) (KO σ' SS.new fun s'=>K v s') (K v s)
theorem uK{env:Env}{e:Tre}{σ:St}{s:SS}(h:lH env e)(hs:dI σ s){q:AOp}{K:KV}{r:AV×SS}(hr:SF q e s K=some r):Did q env σ K r:=by
 unfold SF at hr;rw[uJ (fun t ht=>zE h _ t ht),A8 hs] at hr;obtain⟨v,σ',h1,h2⟩:=aJH hr;cases ha:q.acts with
 |true =>
  rw[ha] at h2;obtain⟨s',h3,h4⟩:=xW dI.new h2;exact⟨v,σ',s',h1,h3,h4⟩
 |false =>
  cases hb:q.allocs with
  |true =>
   rw[ha,hb] at h2;obtain⟨s',h3,h4⟩:=xW dI.new h2;exact⟨v,σ',s',h1,h3,h4⟩
  |false =>
   rw[ha,hb] at h2;have:=FZ h1 ha hb;subst this;exact⟨v,σ',s,h1,hs,h2⟩
def pR(v:AV):List AV:=aLB v (fun cs=>cs) [v]
theorem qF(v:AV):pR v=v.cells:=by cases v<;>rfl
def LT(v:AV):Bool:=AV.rec (motive_1:=fun _=>Bool) (motive_2:=fun _=>PUnit) false (fun _ _=>true) (fun _=>true) (fun _=>true) (fun _ _ _ _ _=>true) true (fun _=>true) (fun _ _=>true) true (fun _ _ _ _ _=>true) (fun _ _ _ _=>true) (fun _ _ _ _=>true) (fun _=>true) true (fun _ _=>false) (fun _ _=>false) ⟨⟩ (fun _ _ _ _=>⟨⟩) v
theorem SX(v:AV):LT v=v.cell:=by cases v<;>rfl
theorem aSC(m n:Nat):(m==n)=Nat.beq m n:=by
 cases h:Nat.beq m n with
 |true=>simpa using Nat.eq_of_beq_eq_true h
 |false=>simpa using Nat.ne_of_beq_eq_false h
def GC(n:Nat)(v:AV):Bool:=cond (Nat.beq (oW (pR v)) n) (NO LT (pR v)) false
theorem HS(n:Nat)(v:AV):GC n v=(v.cells.length==n&&v.cells.all (·.cell)):=by
 unfold GC;rw[iY,qF,GP];have e:LT=(·.cell):=funext SX;rw[e];cases h:Nat.beq v.cells.length n with
 |true=>have:(v.cells.length==n)=true:=(aSC _ _).trans h;rw[this];rfl
 |false=>have:(v.cells.length==n)=false:=(aSC _ _).trans h;rw[this];rfl
def uE(sh:Option Nat):List AV->Nat->(AV->RR)->RR :=
 Option.rec (motive:=fun _=>List AV->Nat->(AV->RR)->RR) (fun cs off K=>eW none (nth cs off) K)
  (fun n cs off K=>cond (Nat.ble (Nat.add off n) (oW cs)) (cond (Nat.beq n (oW cs)) (K (.agg cs)) (K (.agg (aA3 (QX cs off) n)))) none) sh
theorem vH(sh:Option Nat)(cs:List AV)(off:Nat)(K:AV->RR):uE sh cs off K=match eB sh cs off with|some v=>K v|none=>none:=by
 cases sh with
 |none=>unfold uE eB;simp only[cU,yL];cases cs[off]?<;>rfl
 |some n =>
  unfold uE eB;simp only[iY,H4,CH];cases h:Nat.ble (Nat.add off n) cs.length with
  |true =>
   have h1:off+n<=cs.length:=Nat.le_of_ble_eq_true h;rw[if_pos h1];cases h2:Nat.beq n cs.length with
   |true =>
    have h3:n=cs.length:=Nat.eq_of_beq_eq_true h2;have h4:off=0:=by omega
    subst h4;subst h3;simp
   |false=>rfl
  |false =>
   have h1:¬off+n<=cs.length:=fun h'=>by rw[show Nat.ble (Nat.add off n) cs.length=true from Nat.ble_eq_true_of_le h'] at h;cases h
   rw[if_neg h1];rfl
def aAU(sh:Option Nat)(s:SS)(v:AV)(K:KV):RR :=
 aAW v (fun id off=>eW none (s.get id) fun b=>kU b (fun cs=>uE sh cs off fun w=>K w s) none)
  (QF v (fun xs i off _=>eW none (nth xs i) fun x=>uE sh (pR x) off fun w=>K w s) none)
theorem aAC(sh:Option Nat){σ:St}{s:SS}(hs:dI σ s)(v:AV)(K:KV):aAU sh s v K=bv (jT sh σ v) s K:=by
 unfold aAU;cases v<;>simp only[BB,BG,jT,aO,cU,yL,<-hs.2]<;>try rfl
 case ptr id off =>
  cases h:σ[id]? with
  |none=>rfl
  |some b =>
   simp only[yJ];cases b<;>try rfl
   rename_i cs;simp only[vH];cases eB sh cs off<;>rfl
 case lptr xs i off tk =>
  cases h:xs[i]? with
  |none=>rfl
  |some x =>
   simp only[vH,qF];cases eB sh x.cells off<;>rfl
def y8(cs:List AV)(off:Nat)(v:AV):Option (List AV) :=
 cond (Nat.beq (oW (pR v)) 1) (cond (Nat.ble (Nat.add off 1) (oW cs)) (eW none (nth (pR v) 0) fun x=>some (aK6 x cs off)) none) (eP cs off (pR v))
theorem HG(cs:List AV)(off:Nat)(v:AV):y8 cs off v=eP cs off v.cells:=by
 unfold y8;rw[iY,iY,qF];cases h:Nat.beq v.cells.length 1 with
 |false=>rfl
 |true =>
  have h1:v.cells.length=1:=Nat.eq_of_beq_eq_true h;obtain⟨x,hx⟩:∃ x,v.cells=[x]:=List.length_eq_one_iff.1 h1;rw[hx];simp only[cond_true,eP,List.length_cons,List.length_nil,yL,cU,PS];cases h2:Nat.ble (Nat.add off 1) cs.length with
  |true =>
   have h3:off+1<=cs.length:=Nat.le_of_ble_eq_true h2;rw[if_pos (by simpa using h3)];simp only[cond_true,List.getElem?_cons_zero];rw[List.set_eq_take_append_cons_drop,if_pos (by omega)];simp
  |false =>
   have h3:¬off+1<=cs.length:=fun h'=>by rw[show Nat.ble (Nat.add off 1) cs.length=true from Nat.ble_eq_true_of_le h'] at h2;cases h2
   rw[if_neg (by simpa using h3)];rfl
def NX(n:Nat)(s:SS)(a v:AV)(K:KV):RR :=
 aAW a (fun id off=>cond (GC n v) (eW none (s.get id) fun b=>kU b (fun cs=>eW none (y8 cs off v) fun cs'=>K (.tuple []) (s.set id (.cells cs'))) none) none) none
theorem UI{n:Nat}{σ:St}{s:SS}(hs:dI σ s){a v:AV}{K:KV}{r:AV×SS}(hr:NX n s a v K=some r):∃ σ' s',kZ n σ a v=some σ'/\dI σ' s'/\K (.tuple []) s'=some r:=by
 unfold NX at hr;cases a<;>simp only[BB] at hr<;>try (cases hr;done)
 rename_i id off;simp only[kZ,aO];rw[HS] at hr;cases hf:(v.cells.length==n&&v.cells.all (·.cell)) with
 |false=>rw[hf] at hr;cases hr
 |true =>
  rw[hf,cond_true,cU,<-hs.2] at hr;simp only[if_true];cases h:σ[id]? with
  |none=>rw[h] at hr;cases hr
  |some b =>
   rw[h] at hr;simp only[yJ] at hr;cases b<;>try (cases hr;done)
   rename_i cs;simp only[HG,cU] at hr ⊢;cases hc:eP cs off v.cells with
   |none=>rw[hc] at hr;cases hr
   |some cs'=>rw[hc] at hr;exact⟨_,_,rfl,hs.set h _,hr⟩
def big:Nat:=9223372036854775807
theorem bR{m:Nat}(h:Nat.ble m big=true):IntKind.i64.wrap (m:Int)=m:=by
 have h1:m<=9223372036854775807:=Nat.le_of_ble_eq_true h;unfold IntKind.wrap;have e1:(2^IntKind.i64.bits:Int)=18446744073709551616:=by decide
 have e2:(2^(IntKind.i64.bits-1):Int)=9223372036854775808:=by decide
 rw[e1,e2];have e3:(m:Int)%18446744073709551616=m:=by omega
 simp only[e3];rw[if_neg (by simp;omega)]
def LI(b:Bool)(s:SS)(K:KV):RR:=cond b (K (.bool true) s) (K (.bool false) s)
theorem tX(b:Bool)(s:SS)(K:KV):LI b s K=K (.bool b) s:=by cases b<;>rfl
def JE(n:Nat)(s:SS)(K:KV):RR:=oS n fun n=>K (.int .i64 (.ofNat n)) s
theorem uC(n:Nat)(s:SS)(K:KV):JE n s K=K (.int .i64 n) s:=by unfold JE;rw[kE];rfl
abbrev FB:=Nat->Nat->SS->KV->RR->RR
def aIC:FB:=fun m n s K d=>cond (Nat.ble (Nat.add m n) big) (JE (Nat.add m n) s K) d
def aIQ:FB:=fun m n s K d=>cond (Nat.ble n m) (cond (Nat.ble m big) (JE (Nat.sub m n) s K) d) d
def aIE:FB:=fun m n s K d=>cond (Nat.ble (Nat.mul m n) big) (JE (Nat.mul m n) s K) d
def aHN:FB:=fun m n s K d=>cond (Nat.beq n 0) d (cond (Nat.ble m big) (JE (Nat.div m n) s K) d)
def aIM:FB:=fun m n s K d=>cond (Nat.beq n 0) d (JE (Nat.mod m n) s K)
def aH8:FB:=fun m n s K d=>LI (Nat.ble (Nat.add m 1) n) s K
def aH7:FB:=fun m n s K d=>LI (Nat.ble m n) s K
def aH3:FB:=fun m n s K d=>LI (Nat.ble (Nat.add n 1) m) s K
def aIT:FB:=fun m n s K d=>LI (Nat.ble n m) s K
def z0:FB:=fun _ _ _ _ d=>d
def AM(op:BinOp):FB:=BinOp.rec aIC aIQ aIE aHN aIM z0 z0 z0 z0 z0 z0 z0 z0 aH8 aH7 aH3 aIT op
def tP(op:BinOp)(s:SS)(x y:AV)(K:KV):RR:=bv (cQ op x y) s K
theorem EO{m n:Nat}(h:Nat.ble m n=false):n<m:=by
 rcases Nat.lt_or_ge n m with h'|h'
 ·exact h'
 ·rw[Nat.ble_eq_true_of_le h'] at h;cases h
theorem AY(m n:Nat):Nat.ble m n=decide ((m:Int)<=n):=by
 cases h:Nat.ble m n with
 |true=>have:=Nat.le_of_ble_eq_true h;simp;omega
 |false=>have:=EO h;simp;omega
theorem aC6(op:BinOp)(m n:Nat)(s:SS)(K:KV):AM op m n s K (tP op s (.int .i64 m) (.int .i64 n) K)=tP op s (.int .i64 m) (.int .i64 n) K:=by
 cases op<;>try rfl
 case add =>
  simp only[AM,aIC];cases h:Nat.ble (Nat.add m n) big with
  |false=>rfl
  |true =>
   simp only[cond_true,uC,tP,cQ,fH,if_true,mA];have:IntKind.i64.wrap ((m:Int)+n)=((Nat.add m n:Nat):Int):=by have:=bR h;rw[<-this];congr 1
   rw[this]
 case sub =>
  simp only[AM,aIQ];cases h:Nat.ble n m with
  |false=>rfl
  |true =>
   cases h2:Nat.ble m big with
   |false=>rfl
   |true =>
    have h3:=Nat.le_of_ble_eq_true h;have h4:=Nat.le_of_ble_eq_true h2;have h5:Nat.ble (m-n) big=true:=Nat.ble_eq_true_of_le (by omega);simp only[cond_true,uC,tP,cQ,fH,if_true,mA];have:IntKind.i64.wrap ((m:Int)-n)=((Nat.sub m n:Nat):Int):=by
     have:=bR h5;rw[show ((Nat.sub m n:Nat):Int)=((m-n:Nat):Int) from rfl,<-this]
     congr 1
     omega
    rw[this]
 case mul =>
  simp only[AM,aIE];cases h:Nat.ble (Nat.mul m n) big with
  |false=>rfl
  |true =>
   simp only[cond_true,uC,tP,cQ,fH,if_true,mA];have:IntKind.i64.wrap ((m:Int)*n)=((Nat.mul m n:Nat):Int):=by have:=bR h;rw[<-this];congr 1
   rw[this]
 case quo =>
  simp only[AM,aHN];cases h:Nat.beq n 0 with
  |true=>rfl
  |false =>
   have h1:n≠0:=Nat.ne_of_beq_eq_false h;cases h2:Nat.ble m big with
   |false=>rfl
   |true =>
    have h4:=Nat.le_of_ble_eq_true h2;have h5:Nat.ble (m/n) big=true:=Nat.ble_eq_true_of_le (Nat.le_trans (Nat.div_le_self _ _) h4);have h6:¬((n:Int)=0):=by omega
    simp only[cond_true,cond_false,uC,tP,cQ,fH,if_true,if_neg h6,mA];have:IntKind.i64.wrap ((m:Int).tdiv n)=((Nat.div m n:Nat):Int):=by
     have:=bR h5;rw[show ((Nat.div m n:Nat):Int)=((m/n:Nat):Int) from rfl,<-this]
     congr 1
    rw[this]
 case rem =>
  simp only[AM,aIM];cases h:Nat.beq n 0 with
  |true=>rfl
  |false =>
   have h1:n≠0:=Nat.ne_of_beq_eq_false h;have h6:¬((n:Int)=0):=by omega
   simp only[cond_false,uC,tP,cQ,fH,if_true,if_neg h6,mA];rfl
 case lss =>
  simp only[AM,aH8,tX,AY,tP,cQ,fH,if_true,mA];rfl
 case leq =>
  simp only[AM,aH7,tX,AY,tP,cQ,fH,if_true,mA]
 case gtr =>
  simp only[AM,aH3,tX,AY,tP,cQ,fH,if_true,mA];rfl
 case geq =>
  simp only[AM,aIT,tX,AY,tP,cQ,fH,if_true,mA];try rfl
def KB(x:AV):Option Nat:=AV.rec (motive_1:=fun _=>Option Nat) (motive_2:=fun _=>PUnit) none (fun k n=>cond (P0 k) (Int.rec (fun m=>some m) (fun _=>none) n) none) (fun _=>none) (fun _=>none) (fun _ _ _ _ _=>none) none (fun _=>none) (fun _ _=>none) none (fun _ _ _ _ _=>none) (fun _ _ _ _=>none) (fun _ _ _ _=>none) (fun _=>none) none (fun _ _=>none) (fun _ _=>none) ⟨⟩ (fun _ _ _ _=>⟨⟩) x
theorem I9{x:AV}{m:Nat}(h:KB x=some m):x = .int .i64 m:=by
 cases x<;>try (cases h;done)
 rename_i k n;have h':cond (P0 k) (Int.rec (fun m=>some m) (fun _=>none) n:Option Nat) none=some m:=h;cases hk:P0 k with
 |false=>rw[hk] at h';cases h'
 |true =>
  rw[hk] at h';cases UX hk;cases n with
  |ofNat q=>cases h';rfl
  |negSucc q=>cases h'
def aBL(x y:AV)(K:Nat->Nat->RR)(d:RR):RR:=eW d (KB x) fun m=>eW d (KB y) fun n=>K m n
theorem PN(x y:AV)(K:Nat->Nat->RR)(d:RR):(∃ m n:Nat,x = .int .i64 m/\y = .int .i64 n/\aBL x y K d=K m n)\/aBL x y K d=d:=by
 unfold aBL;cases hx:KB x with
 |none=>right;rfl
 |some m =>
  cases hy:KB y with
  |none=>right;rfl
  |some n=>left;exact⟨m,n,I9 hx,I9 hy,rfl⟩
def aLM(op:BinOp)(s:SS)(x y:AV)(K:KV):RR:=aBL x y (fun m n=>AM op m n s K (tP op s x y K)) (tP op s x y K)
theorem aDF(op:BinOp)(s:SS)(x y:AV)(K:KV):aLM op s x y K=tP op s x y K:=by
 unfold aLM;rcases PN x y (fun m n=>AM op m n s K (tP op s x y K)) (tP op s x y K) with⟨m,n,rfl,rfl,h⟩|h
 ·rw[h];exact aC6 op m n s K
 ·exact h
def H3(sh:EqTy)(neg:Bool)(s:SS)(x y:AV)(K:KV):RR:=bv (match iS sh x y with|some b=>some (.bool (if neg then !b else b))|none=>none) s K
def aLK(sh:EqTy)(neg:Bool)(s:SS)(x y:AV)(K:KV):RR :=
 EqTy.rec (fun k=>SK.rec (aBL x y (fun m n=>LI (cond neg (not (Nat.beq m n)) (Nat.beq m n)) s K) (H3 sh neg s x y K)) (H3 sh neg s x y K) (H3 sh neg s x y K) k) (fun _=>H3 sh neg s x y K) sh
theorem WX(m n:Nat):Nat.beq m n=((m:Int)==n):=by
 cases h:Nat.beq m n with
 |true=>have:=Nat.eq_of_beq_eq_true h;subst this;simp
 |false=>have:=Nat.ne_of_beq_eq_false h;symm;simp;omega
theorem aC5(sh:EqTy)(neg:Bool)(s:SS)(x y:AV)(K:KV):aLK sh neg s x y K=H3 sh neg s x y K:=by
 unfold aLK;cases sh with
 |agg ks=>rfl
 |one k =>
  cases k<;>try rfl
  simp only;rcases PN x y (fun m n=>LI (cond neg (not (Nat.beq m n)) (Nat.beq m n)) s K) (H3 (.one .i) neg s x y K) with⟨m,n,rfl,rfl,h⟩|h
  ·rw[h,tX];simp only[H3,iS,gB,if_true,mA,WX];cases neg<;>rfl
  ·exact h
def aBA(s:SS)(y:AV):Option (List AV) :=
 yY y (fun ys _ _=>some ys) (aCF y (fun id off l z=>eW none (s.get id) fun b=>kU b (fun cs=>cond (Nat.ble (Nat.add off (Nat.mul l z)) (oW cs)) (some (pP z l (QX cs off))) none) none) none)
theorem aAO{σ:St}{s:SS}(hs:dI σ s)(y:AV):aBA s y=kS σ y:=by
 unfold aBA;cases y<;>simp only[xF,G8,kS];rename_i id off l z;simp only[cU,<-hs.2,aO];cases σ[id]? with
 |none=>rfl
 |some b =>
  simp only[yJ];cases b<;>try rfl
  rename_i cs;simp only[iY,CH];cases h:Nat.ble (Nat.add off (Nat.mul l z)) cs.length with
  |true=>have h':off+l*z<=cs.length:=Nat.le_of_ble_eq_true h;rw[if_pos h'];rfl
  |false=>have h':cs.length<off+l*z:=EO h;rw[if_neg (by omega)];rfl
theorem QK(n:Nat)(xs:List AV):NO (GC n) xs=aH n xs:=by
 have h1:GC n=fun x=>x.cells.length==n&&x.cells.all (·.cell):=funext fun x=>HS n x
 rw[GP,h1];rfl
def aQX{R:Type}(b:ABlk):(Nat->Nat->R)->R->R:=ABlk.rec (motive:=fun _=>(Nat->Nat->R)->R->R) (fun _ _ d=>d) (fun _ _ d=>d) (fun sz n _ K d=>K sz n) (fun _ _ _ d=>d) (fun _ _ _ _ _ d=>d) (fun _ _ _ _ _ _ _ d=>d) (fun _ d=>d) b
theorem aDG{R:Type}(b:ABlk)(K:Nat->Nat->R)(d:R):aQX b K d=match b with|.tok sz n _=>K sz n|_=>d:=by cases b<;>rfl
def KX:Nat:=140737488355328
theorem JK:KX=room:=by decide
def aIX(sz:Nat)(s:SS)(xs ys:List AV)(full:Bool)(tk:Option Nat)(m:Nat)(K:KV):RR :=
 cond full (oS s.len fun n=>CU none s (.tok sz m true) fun s'=>K (.lit (NH xs ys) false (some n)) s')
  (eW none tk fun t=>eW none (s.get t) fun b=>aQX b (fun sz' n=>cond (Nat.beq sz' sz) (cond (Nat.beq n (oW xs)) (K (.lit (NH xs ys) false (some t)) (s.set t (.tok sz m true))) none) none) none)
def HK(sz bytes:Nat)(s:SS)(x y:AV)(K:KV):RR :=
 yY x (fun xs full tk=>eW none (aBA s y) fun ys=>cond (Nat.beq (oW ys) 0) (K (.lit xs full tk) s)
  (cond (sC sz y) (cond (NO (GC sz) xs) (cond (NO (GC sz) ys) (oS (Nat.add (oW xs) (oW ys)) fun m=>cond (Nat.ble (Nat.mul m bytes) KX) (cond (Nat.ble m KX) (aIX sz s xs ys full tk m K) none) none) none) none) none)) none
theorem OQ{sz bytes:Nat}{σ:St}{s:SS}(hs:dI σ s){x y:AV}{K:KV}{r:AV×SS}(hr:HK sz bytes s x y K=some r):∃ v σ' s',dD sz bytes σ x y=some (v,σ')/\dI σ' s'/\K v s'=some r:=by
 unfold HK at hr;rw[xF] at hr;split at hr
 ·rename_i xs full tk;rw[cU,aAO hs] at hr;split at hr
  ·rename_i ys hv;simp only[iY,QK,kE] at hr;have h0:dD sz bytes σ (.lit xs full tk) y=if ys.length=0 then some (.lit xs full tk,σ) else
    if (sC sz y&&aH sz xs&&aH sz ys&&decide ((xs.length+ys.length)*bytes<=room)&&decide (xs.length+ys.length<=room))=true then
     if full=true then some (.lit (xs++ys) false (some σ.length),σ++[.tok sz (xs.length+ys.length) true])
     else match tk with
      |some t=>match σ[t]? with
       |some (.tok sz' n _)=>if sz'=sz/\n=xs.length then some (.lit (xs++ys) false (some t),σ.set t (.tok sz (xs.length+ys.length) true)) else none
       |_=>none
      |none=>none
    else none:=by unfold dD;rw[hv];rfl
   rw[h0];cases hz:Nat.beq ys.length 0 with
   |true=>rw[hz] at hr;rw[if_pos (Nat.eq_of_beq_eq_true hz)];exact⟨_,σ,s,rfl,hs,hr⟩
   |false =>
    rw[hz] at hr;rw[if_neg (Nat.ne_of_beq_eq_false hz)];simp only[cond_false] at hr;cases c1:sC sz y with
    |false=>rw[c1] at hr;cases hr
    |true =>
    cases c2:aH sz xs with
    |false=>rw[c1,c2] at hr;cases hr
    |true =>
    cases c3:aH sz ys with
    |false=>rw[c1,c2,c3] at hr;cases hr
    |true =>
    rw[c1,c2,c3] at hr;simp only[cond_true] at hr;cases c4:Nat.ble (Nat.mul (Nat.add xs.length ys.length) bytes) KX with
    |false=>rw[c4] at hr;cases hr
    |true =>
    cases c5:Nat.ble (Nat.add xs.length ys.length) KX with
    |false=>rw[c4,c5] at hr;cases hr
    |true =>
    rw[c4,c5] at hr;simp only[cond_true] at hr;have d4:(xs.length+ys.length)*bytes<=room:=by rw[<-JK];exact Nat.le_of_ble_eq_true c4
    have d5:xs.length+ys.length<=room:=by rw[<-JK];exact Nat.le_of_ble_eq_true c5
    rw[if_pos (by simp[d4,d5])];unfold aIX at hr;cases full with
    |true =>
     simp only[cond_true,kE,rU,if_true] at hr ⊢;obtain⟨s',h1,h2⟩:=sM hs hr;rw[<-hs.1] at h2;exact⟨_,_,s',rfl,h1,h2⟩
    |false =>
     simp only[cond_false,cU,rU,<-hs.2,iY] at hr;rw[if_neg (by simp)];cases tk with
     |none=>cases hr
     |some t =>
      simp only at hr ⊢;cases hb:σ[t]? with
      |none=>rw[hb] at hr;cases hr
      |some b =>
       rw[hb] at hr;simp only[aDG] at hr;cases b<;>try (cases hr;done)
       rename_i sz' n ex;simp only at hr ⊢;cases e1:Nat.beq sz' sz with
       |false=>rw[e1] at hr;cases hr
       |true =>
        cases e2:Nat.beq n xs.length with
        |false=>rw[e1,e2] at hr;cases hr
        |true =>
         rw[e1,e2] at hr;rw[if_pos ⟨Nat.eq_of_beq_eq_true e1,Nat.eq_of_beq_eq_true e2⟩];exact⟨_,_,_,rfl,hs.set hb _,hr⟩
  ·cases hr
 ·cases hr
abbrev CC:=AV->List AV->SS->RR
abbrev Arm:=CC->Tre->SS->KV->RR
def jX(q:AOp):Arm:=fun _ e s K=>SF q e s K
def aRC(x:AOpd):Arm:=fun _ e s K=>K (odv x e) s
def aIB(c a b:AOpd):Arm:=fun _ e s K=>EX (odv c e) (fun t=>cond t (K (odv a e) s) (K (odv b e) s)) none
def XX(z:List AV):Arm:=fun _ e s K=>oS s.len fun n=>CU none s (.cells z) fun s'=>K (.ptr n 0) s'
def aN8(n:Nat)(x:AOpd):Arm:=fun _ e s K=>cond (GC n (odv x e)) (oS s.len fun n=>CU none s (.cells (pR (odv x e))) fun s'=>K (.ptr n 0) s') none
def aKV(z:List AV)(ps:List (Nat×Nat×AOpd)):Arm:=jX (.build z ps)
def U0(sz:Nat)(xs:List AOpd):Arm:=fun _ e s K=>cond (NO (GC sz) (RJ xs e)) (K (.lit (RJ xs e) true none) s) none
def aMI(sz:Nat)(xs:List AOpd):Arm:=jX (.mkref sz xs)
def aH1(sh:Option Nat)(x:AOpd):Arm:=fun _ e s K=>aAU sh s (odv x e) K
def aBO(n:Nat)(a x:AOpd):Arm:=fun _ e s K=>NX n s (odv a e) (odv x e) K
def FV(x:AOpd):Arm:=fun _ e s K=>aAW (odv x e) (fun i o=>K (.ptr i o) s) (QF (odv x e) (fun xs i o t=>K (.lptr xs i o t) s) (QJ (odv x e) (fun f a b=>K (.func f a b) s) (OM (odv x e) (fun i=>K (.yield i) s) none)))
def aN4(op:BinOp)(x y:AOpd):Arm:=fun _ e s K=>aLM op s (odv x e) (odv y e) K
def aOB(sh:EqTy)(neg:Bool)(x y:AOpd):Arm:=fun _ e s K=>aLK sh neg s (odv x e) (odv y e) K
def aOM(x:AOpd):Arm:=fun _ e s K=>EX (odv x e) (fun b=>LI (not b) s K) none
def aWA(x:AOpd):Arm:=jX (.neg x)
def aPD(k:IntKind)(x:AOpd):Arm:=jX (.conv k x)
def aCW(f:FuncId)(a b:List AOpd):Arm:=fun _ e s K=>K (.func f (RJ a e) (RJ b e)) s
def aLE:Arm:=jX .mkmap
def aBZ(z:List AV)(n:Nat)(l c:AOpd):Arm:=jX (.mkslice z n l c)
def aD0(sz:Nat)(x:AOpd)(l h m:Option AOpd):Arm:=jX (.slicev sz x l h m)
def aGJ(n sz:Nat)(x:AOpd)(l h:Option AOpd):Arm:=jX (.slicea n sz x l h)
def aAY(x:AOpd)(off:Nat):Arm:=fun _ e s K=>aAW (odv x e) (fun i o=>K (.ptr i (Nat.add o off)) s) (QF (odv x e) (fun xs i o t=>K (.lptr xs i (Nat.add o off) t) s) none)
def UY(x:AOpd)(off:Nat)(sh:Option Nat):Arm:=fun _ e s K=>aLB (odv x e) (fun cs=>uE sh cs off fun w=>K w s) none
def NK(sz:Nat)(x i:AV)(s:SS)(K:KV)(d:RR):RR :=
 aP4 i (fun _ n=>aL4 n (fun j=>yY x (fun xs _ t=>eW none (nth xs j) fun y=>cond (Nat.beq (oW (pR y)) sz) (K (.lptr xs j 0 t) s) none)
  (aCF x (fun id off len sz'=>cond (Nat.beq sz' sz) (cond (Nat.ble (Nat.add j 1) len) (oS (Nat.add off (Nat.mul j sz)) fun o=>K (.ptr id o) s) none) none) d)) d) d
def YO(arr:Option Nat)(sz:Nat)(x i:AOpd):Arm :=
 Option.rec (motive:=fun _=>Arm) (fun _ e s K=>NK sz (odv x e) (odv i e) s K (SF (.iaddr none sz x i) e s K)) (fun n=>jX (.iaddr (some n) sz x i)) arr
def aM1(n sz:Nat)(sh:Option Nat)(x i:AOpd):Arm:=jX (.index n sz sh x i)
def aD3(x i:AOpd):Arm:=jX (.sindex x i)
def aGY(sh:EqTy)(ok:Bool)(z:AV)(m k:AOpd):Arm:=jX (.lookup sh ok z m k)
def aHC(sh:EqTy)(m k v:AOpd):Arm:=jX (.mapset sh m k v)
def aD7(x:AOpd):Arm:=jX (.srange x)
def aJB(x:AOpd):Arm:=jX (.snext x)
def aEL(x:AOpd):Arm:=jX (.mrange x)
def aLU(x:AOpd):Arm:=fun _ _ _ _=>none
def aMW(x:AOpd):Arm:=jX (.entry x)
def aRQ(x:AOpd)(i:Nat):Arm:=fun _ e s K=>MC (odv x e) (fun vs=>eW none (nth vs i) fun v=>K v s) none
def aN5(x:AV)(s:SS)(K:KV)(d:RR):RR:=yY x (fun xs _ _=>JE (oW xs) s K) (aCF x (fun _ _ l _=>K (.int .i64 (.ofNat l)) s) d)
def aQB(k:Nat)(x:AOpd):Arm:=fun _ e s K=>cond (Nat.beq k 1) (aN5 (odv x e) s K (SF (.len k x) e s K)) (SF (.len k x) e s K)
def O9(sz bytes:Nat)(x y:AOpd):Arm:=fun _ e s K=>HK sz bytes s (odv x e) (odv y e) K
def aI8(sz bytes:Nat)(x y:AOpd):Arm:=jX (.apref sz bytes x y)
def aO7(sz:Nat)(x y:AOpd):Arm:=jX (.copy sz x y)
def aSV(xs:List AOpd):Arm:=jX (.min xs)
def aUL(xs:List AOpd):Arm:=jX (.max xs)
def ZK(f:AOpd)(args:List AOpd):Arm:=fun C e s K=>bnd (C (odv f e) (RJ args e) s) K
def gP(q:AOp):Arm:=AOp.rec (motive:=fun _=>Arm) aRC aIB XX aN8 aKV U0 aMI aH1 aBO FV aN4 aOB aOM aWA aPD aCW aLE aBZ aD0 aGJ aAY UY YO aM1 aD3 aGY aHC aD7 aJB aEL aLU aMW aRQ aQB O9 aI8 aO7 aSV aUL ZK q
theorem SO{sz:Nat}{x i:AOpd}{env:Env}{σ:St}{s:SS}{K:KV}{d:RR}{r:AV×SS}(hs:dI σ s)(hd:d=some r->Did (.iaddr none sz x i) env σ K r)(hr:NK sz (x.ev env) (i.ev env) s K d=some r):Did (.iaddr none sz x i) env σ K r:=by
 unfold NK at hr;unfold Did at hd ⊢;simp only[aop] at hd ⊢;generalize i.ev env=iv at *;generalize x.ev env=xv at *;cases iv<;>try exact hd hr
 rename_i k n;simp only[aE4] at hr
 rcases aD5 n (fun j=>yY xv (fun xs _ t=>eW none (nth xs j) fun y=>cond (Nat.beq (oW (pR y)) sz) (K (.lptr xs j 0 t) s) none)
  (aCF xv (fun id off len sz'=>cond (Nat.beq sz' sz) (cond (Nat.ble (Nat.add j 1) len) (oS (Nat.add off (Nat.mul j sz)) fun o=>K (.ptr id o) s) none) none) d)) d with⟨j,rfl,h⟩|h
 ·rw[h] at hr;cases xv<;>try exact hd hr
  case lit xs fl tk =>
   simp only[xF,cU,yL,iY,qF] at hr;simp only[eZ,Int.toNat_natCast];cases hx:xs[j]? with
   |none=>rw[hx] at hr;cases hr
   |some y =>
    rw[hx] at hr;simp only at hr ⊢;cases hb:Nat.beq y.cells.length sz with
    |true =>
     rw[hb] at hr;have:y.cells.length=sz:=Nat.eq_of_beq_eq_true hb;rw[if_pos ⟨by omega,this⟩];exact⟨_,σ,s,rfl,hs,hr⟩
    |false=>rw[hb] at hr;cases hr
  case ref id off len sz' =>
   simp only[xF,G8,kE] at hr;simp only[eZ,Int.toNat_natCast];cases hb:Nat.beq sz' sz with
   |true =>
    have e1:sz'=sz:=Nat.eq_of_beq_eq_true hb;cases hl:Nat.ble (Nat.add j 1) len with
    |true =>
     rw[hb,hl] at hr;have e2:j+1<=len:=Nat.le_of_ble_eq_true hl;rw[if_pos ⟨by omega,by omega,e1⟩];exact⟨_,σ,s,rfl,hs,hr⟩
    |false=>rw[hb,hl] at hr;cases hr
   |false=>rw[hb] at hr;cases hr
 ·rw[h] at hr;exact hd hr
theorem did{q:AOp}{env:Env}{σ:St}{s:SS}{K:KV}{r:AV×SS}{o:Option AV}(hs:dI σ s)(ha:aop q env σ=match o with|some v=>some (v,σ)|none=>none)(hr:bv o s K=some r):Did q env σ K r:=by
 obtain⟨v,rfl,h⟩:=aR9 hr;exact⟨v,σ,s,ha,hs,h⟩
theorem tL{C:CC}{q:AOp}{env:Env}{e:Tre}{σ:St}{s:SS}{K:KV}{r:AV×SS}(h:lH env e)(hs:dI σ s)(hq:∀ f args,q≠.call f args)(hr:gP q C e s K=some r):Did q env σ K r:=by
 cases q
 case mov x=>simp only[gP,aRC,hJ h] at hr;exact⟨_,σ,s,rfl,hs,hr⟩
 case pick c a b =>
  simp only[gP,aIB,hJ h,wN] at hr;split at hr
  ·rename_i t hc;cases t<;>exact⟨_,σ,s,by simp only[aop,hc],hs,hr⟩
  ·cases hr
 case alloc z =>
  simp only[gP,XX,kE] at hr;obtain⟨s',h1,h2⟩:=sM hs hr;rw[<-hs.1] at h2;exact⟨_,_,s',rfl,h1,h2⟩
 case box n x =>
  simp only[gP,aN8,hJ h,kE,HS,qF] at hr;cases hc:((x.ev env).cells.length==n&&(x.ev env).cells.all (·.cell)) with
  |false=>rw[hc] at hr;cases hr
  |true =>
   rw[hc] at hr;obtain⟨s',h1,h2⟩:=sM hs hr;rw[<-hs.1] at h2;exact⟨_,_,s',by simp only[aop];rw[if_pos hc],h1,h2⟩
 case mklit sz xs =>
  simp only[gP,U0,w8 h,QK] at hr;cases hc:aH sz (xs.map (·.ev env)) with
  |false=>rw[hc] at hr;cases hr
  |true=>rw[hc] at hr;exact⟨_,σ,s,by simp only[aop];rw[if_pos hc],hs,hr⟩
 case load sh x =>
  simp only[gP,aH1,hJ h,aAC sh hs] at hr;exact did hs rfl hr
 case store n a x =>
  simp only[gP,aBO,hJ h] at hr;obtain⟨σ',s',h1,h2,h3⟩:=UI hs hr;exact⟨_,σ',s',by simp only[aop,h1],h2,h3⟩
 case nilCheck x =>
  simp only[gP,FV,hJ h,BB,BG,BT,EK] at hr;cases hx:x.ev env<;>rw[hx] at hr<;>first|(cases hr;done)|exact⟨_,σ,s,by simp only[aop,hx],hs,hr⟩
 case bin op x y =>
  simp only[gP,aN4,hJ h,aDF,tP] at hr;exact did hs rfl hr
 case eql sh neg x y =>
  simp only[gP,aOB,hJ h,aC5,H3] at hr;refine did hs ?_ hr;simp only[aop];cases iS sh (x.ev env) (y.ev env)<;>rfl
 case not x =>
  simp only[gP,aOM,hJ h,wN,tX] at hr;cases hx:x.ev env<;>rw[hx] at hr<;>first|(cases hr;done)|exact⟨_,σ,s,by simp only[aop,hx],hs,hr⟩
 case mkfun f a b=>simp only[gP,aCW,w8 h] at hr;exact⟨_,σ,s,rfl,hs,hr⟩
 case faddr x off =>
  simp only[gP,aAY,hJ h,BB,BG] at hr;cases hx:x.ev env<;>rw[hx] at hr<;>first|(cases hr;done)|exact⟨_,σ,s,by simp only[aop,hx];rfl,hs,hr⟩
 case field x off sh =>
  simp only[gP,UY,hJ h,aF5,vH] at hr;cases hx:x.ev env<;>rw[hx] at hr<;>try (cases hr;done)
  rename_i cs;simp only at hr;cases hc:eB sh cs off with
  |none=>rw[hc] at hr;cases hr
  |some v=>rw[hc] at hr;exact⟨v,σ,s,by simp only[aop,hx,hc],hs,hr⟩
 case iaddr arr sz x i =>
  cases arr with
  |none=>simp only[gP,YO,hJ h] at hr;exact SO hs (fun hd=>uK h hs hd) hr
  |some n=>exact uK h hs hr
 case ext x i =>
  simp only[gP,aRQ,hJ h,EG,cU,yL] at hr;cases hx:x.ev env<;>rw[hx] at hr<;>try (cases hr;done)
  rename_i vs;simp only at hr;cases hc:vs[i]? with
  |none=>rw[hc] at hr;cases hr
  |some v=>rw[hc] at hr;exact⟨v,σ,s,by simp only[aop,hx,hc],hs,hr⟩
 case len k x =>
  simp only[gP,aQB,hJ h] at hr;cases hk:Nat.beq k 1 with
  |false=>rw[hk] at hr;exact uK h hs hr
  |true =>
   have:=Nat.eq_of_beq_eq_true hk;subst this;simp only[hk,cond_true,aN5,xF,G8,uC,iY] at hr;cases hx:x.ev env<;>rw[hx] at hr<;>first|exact uK h hs hr|exact⟨_,σ,s,by first|(simp only[aop,hx,i5];done)|(simp only[aop,hx,i5];rfl),hs,hr⟩
 case append sz bytes x y =>
  simp only[gP,O9,hJ h] at hr;exact OQ hs hr
 case mnext x=>cases hr
 case call f args=>exact absurd rfl (hq _ _)
 case mkmap=>exact uK (q:=.mkmap) h hs hr
 all_goals exact uK h hs hr
abbrev KE:=Tre->SS->RR
def w4(d:Option Nat)(v:AV)(e:Tre)(K:Tre->RR):RR:=Option.rec (K e) (fun t=>cond (Nat.ble t 255) (K (Tre.put e t v)) none) d
theorem lY{d:Option Nat}{v:AV}{e:Tre}{K:Tre->RR}{r:AV×SS}{env:Env}(h:lH env e)(hr:w4 d v e K=some r):∃ e',lH (Env.put env d v) e'/\K e'=some r:=by
 cases d with
 |none=>exact⟨e,h,hr⟩
 |some t =>
  simp only[w4] at hr;cases ht:Nat.ble t 255 with
  |false=>rw[ht] at hr;cases hr
  |true=>rw[ht] at hr;exact⟨_,h.put t v ht,hr⟩
def GT(v:AV)(w:Bool)(A B:Unit->RR):RR:=EX v (fun b=>cond b (cond w (A ()) (B ())) (cond w (B ()) (A ()))) (MC v (fun vs=>List.rec (B ()) (fun _ _ _=>none) vs) none)
def aIY(v:AV)(w:Bool):Option Bool:=match v with|.bool b=>some (b==w)|.tuple []=>some false|_=>none
theorem TF{v:AV}{w:Bool}{A B:Unit->RR}{r:AV×SS}(h:GT v w A B=some r):
  (aIY v w=some true/\A ()=some r)\/(aIY v w=some false/\B ()=some r):=by
 unfold GT at h;simp only[wN,EG] at h;cases v<;>try (cases h;done)
 case bool b=>simp only at h;cases b<;>cases w<;>first|exact .inl ⟨rfl,h⟩|exact .inr ⟨rfl,h⟩
 case tuple vs =>
  simp only at h;cases vs with
  |nil=>exact .inr ⟨rfl,h⟩
  |cons x xs=>exact absurd h (by simp)
def I0q(g:Option (Nat×Bool))(e:Tre)(A B:Unit->RR):RR:=Option.rec (A ()) (fun p=>Prod.rec (fun t w=>GT (Tre.get e t) w A B) p) g
theorem IB{o:AOper}{env:Env}{e:Tre}{A B:Unit->RR}{r:AV×SS}(h:lH env e)(hr:I0q o.guard e A B=some r):
  (o.wanted env=some true/\A ()=some r)\/(o.wanted env=some false/\B ()=some r):=by
 obtain⟨dst,q,g⟩:=o;cases g with
 |none=>exact .inl ⟨rfl,hr⟩
 |some p =>
  obtain⟨t,w⟩:=p;have:=TF (show GT (Tre.get e t) w A B=some r from hr);rw[<-h t] at this;exact this
def aPR(C:CC)(o:AOper)(e:Tre)(s:SS)(K:KE):RR :=
 AOper.rec (fun dst q g=>I0q g e (fun _=>gP q C e s fun v s'=>w4 dst v e fun e'=>K e' s') (fun _=>w4 dst (.tuple []) e fun e'=>K e' s)) o
def aEE(C:CC)(os:List AOper):Tre->SS->KE->RR:=List.rec (motive:=fun _=>Tre->SS->KE->RR) (fun e s K=>K e s) (fun o _ ih e s K=>aPR C o e s fun e s=>ih e s K) os
variable {T:FuncId->Option AFunc}
abbrev RD:=Nat->SS->Bool
def chk(r:RR):Bool:=Option.rec false (fun _=>true) r
def aEP(C:CC)(q:AOp)(lo hi:Nat)(e:Tre)(v:AV):RD:=fun j s =>
 cond (cond (Nat.ble lo j) (Nat.ble j hi) false) (chk (gP q C e s fun w _=>cond (eqVF 100000 w v) (some (.undef,SS.new)) none)) true
def ZG(rd:RD)(hist:List SS):Nat->Bool:=List.rec (motive:=fun _=>Nat->Bool) (fun _=>true) (fun s _ ih j=>cond (rd j s) (ih (Nat.add j 1)) false) hist
theorem PK(rd:RD):∀ (hist:List SS) (k:Nat),ZG rd hist k=true->∀ j s,hist[j]? = some s->rd (k+j) s=true
 |[],k,_,j,s,h=>by simp at h
 |t::hist,k,h,j,s,hs=>by
  have h':cond (rd k t) (ZG rd hist (k+1)) false=true:=h;cases hr:rd k t with
  |false=>rw[hr] at h';cases h'
  |true =>
   rw[hr] at h';cases j with
   |zero=>simp at hs;subst hs;exact hr
   |succ j=>have:=PK rd hist (k+1) h' j s (by simpa using hs);rw[show k+(j+1)=k+1+j from by omega];exact this
def CP(rds:List RD)(hist:List SS):Bool:=List.rec true (fun rd _ ih=>cond (ZG rd hist 0) ih false) rds
def aPG(rd:RD)(r:ARead):Prop:=∀ j σ s,dI σ s->r.lo<=j->j<=r.hi->rd j s=true->aop r.op r.env σ=some (r.v,σ)
def zB(hist:List St)(hs:List SS):Prop:=hist.length=hs.length/\∀ (j:Nat) (σ:St),hist[j]? = some σ->∃ s,hs[j]? = some s/\dI σ s
theorem zB.snoc{hist:List St}{hs:List SS}(h:zB hist hs){σ:St}{s:SS}(hl:dI σ s):zB (hist++[σ]) (Ex.snoc s hs):=by
 rw[PZ];refine⟨by simp[h.1],fun j τ hj=>?_⟩;rcases Nat.lt_or_ge j hist.length with q|q
 ·rw[List.getElem?_append_left q] at hj;rw[List.getElem?_append_left (by rw[<-h.1];exact q)];exact h.2 j τ hj
 ·rw[List.getElem?_append_right q] at hj;have e:j=hist.length:=by
   rcases Nat.lt_or_ge (j-hist.length) 1 with q'|q'
   ·omega
   ·rw[List.getElem?_eq_none (by simpa using q')] at hj;cases hj
  subst e;simp only[Nat.sub_self,List.getElem?_cons_zero,Option.some.injEq] at hj;subst hj;rw[h.1,List.getElem?_append_right (Nat.le_refl _)];exact⟨s,by simp,hl⟩
def YS:List RD->List ARead->Prop
 |[],[]=>True
 |rd::rds,r::rs=>aPG rd r/\YS rds rs
 |_,_=>False
theorem E3{hist:List St}{hs:List SS}(hh:zB hist hs):∀ {rds:List RD} {rs:List ARead},YS rds rs->CP rds hs=true->∀ r∈rs,ARead.ok r hist
 |[],[],_,_,r,hm=>by cases hm
 |rd::rds,r0::rs,h,hk,r,hm=>by
  have hk':cond (ZG rd hs 0) (CP rds hs) false=true:=hk;cases h0:ZG rd hs 0 with
  |false=>rw[h0] at hk';cases hk'
  |true =>
   rw[h0] at hk';rcases List.mem_cons.1 hm with rfl|hm
   ·intro j σ h1 h2 h3;obtain⟨s,h4,h5⟩:=hh.2 j σ h3;have:=PK rd hs 0 h0 j s h4;rw[Nat.zero_add] at this;exact h.1 j σ s h5 h1 h2 this
   ·exact E3 hh h.2 hk' r hm
 |[],_::_,h,_,_,_=>h.elim
 |_::_,[],h,_,_,_=>h.elim
theorem aDL{C:CC}{q:AOp}{lo hi:Nat}{env:Env}{e:Tre}{v:AV}(h:lH env e)(hq:q.reads=true):aPG (aEP C q lo hi e v) ⟨lo,hi,q,env,v⟩:=by
 intro j σ s hs h1 h2 h3;simp only[aEP] at h3;rw[show Nat.ble lo j=true from Nat.ble_eq_true_of_le h1,show Nat.ble j hi=true from Nat.ble_eq_true_of_le h2] at h3;simp only[cond_true] at h3;cases hx:gP q C e s (fun w _=>cond (eqVF 100000 w v) (some (.undef,SS.new)) none) with
 |none=>rw[hx] at h3;cases h3
 |some r =>
  obtain⟨w,σ',s',d1,d2,d3⟩:=tL h hs (fun f args e=>by subst e;cases hq) hx;cases he:eqVF 100000 w v with
  |false=>have d4:cond (eqVF 100000 w v) (some (AV.undef,SS.new)) none=some r:=d3;rw[he] at d4;cases d4
  |true=>rw[d1,eqVF_ok _ _ _ he,E9 hq d1]
abbrev KD:=Tre->SS->Nat->List SS->List RD->RR
def aB7(C:CC)(dst:Option Nat)(q:AOp)(lo hi:Nat)(e:Tre)(s:SS)(next:Nat)(hist:List SS)(rds:List RD)(K:KD):RR :=
 cond q.allocs (w4 dst (.ptr next 0) e fun e'=>K e' s (Nat.add next 1) hist rds)
  (cond q.acts (gP q C e s fun v s'=>w4 dst v e fun e'=>K e' s' next (snoc s' hist) rds)
   (cond q.reads (gP q C e s fun v _=>w4 dst v e fun e'=>K e' s next hist (aEP C q lo hi e v::rds))
    (gP q C e s fun v _=>w4 dst v e fun e'=>K e' s next hist rds)))
def I1(C:CC)(ds:List ADOper):Tre->SS->Nat->List SS->List RD->KE->RR :=
 List.rec (motive:=fun _=>Tre->SS->Nat->List SS->List RD->KE->RR) (fun e s _ hist rds K=>cond (CP rds hist) (K e s) none)
  (fun d _ ih e s next hist rds K=>ADOper.rec (fun o lo hi=>AOper.rec (fun dst q g=>I0q g e (fun _=>aB7 C dst q lo hi e s next hist rds fun e s next hist rds=>ih e s next hist rds K)
  (fun _=>w4 dst (.tuple []) e fun e'=>ih e' s (cond q.allocs (Nat.add next 1) next) (cond q.acts (snoc s hist) hist) rds K)) o) d) ds
theorem JQ{σ σ':St}{l:Nat}(h:KeepS σ σ' l):KeepS σ σ' 0:=h.weak (Nat.zero_le _)
theorem pW{σ σ1 σ2:St}(h:KeepS σ σ1 0)(k:KeepS σ1 σ2 0):KeepS σ σ2 0:=JQ (h.trans k)
def xU(T:FuncId->Option AFunc)(C:CC):Prop:=∀ f args σ s v s',dI σ s->C f args s=some (v,s')->∃ σ',dI σ' s'/\KeepS σ σ' 0/\Run T (.callv f args σ) fun r=>r.v=v/\r.σ=σ'
theorem A5{C:CC}(hC:xU T C):∀ {os:List AOper} {env:Env} {e:Tre} {σ:St} {s:SS} {K:KE} {r:AV×SS},lH env e->dI σ s->aEE C os e s K=some r ->
  ∃ env' e' σ' s',KeepS σ σ' 0/\Run T (.ops os env σ) (fun o=>o=⟨none,env',σ',.undef⟩)/\lH env' e'/\dI σ' s'/\K e' s'=some r
 |[],env,e,σ,s,K,r,h,hs,hr=>⟨env,e,σ,s,.refl _ _,.nil rfl,h,hs,hr⟩
 |o::os,env,e,σ,s,K,r,h,hs,hr=>by
  obtain⟨dst,q,g⟩:=o;have hr':I0q g e (fun _=>gP q C e s fun v s'=>w4 dst v e fun e'=>aEE C os e' s' K) (fun _=>w4 dst (.tuple []) e fun e'=>aEE C os e' s K)=some r:=hr;rcases IB (o:=⟨dst,q,g⟩) h hr' with⟨hw,h1⟩|⟨hw,h1⟩
  ·by_cases hc:∃ f args,q = .call f args
   ·obtain⟨f,args,rfl⟩:=hc;simp only[gP,ZK,hJ h,w8 h] at h1;obtain⟨v,s1,h2,h3⟩:=NJ h1;obtain⟨σ1,q1,k1,r1⟩:=hC _ _ _ _ _ _ hs h2;obtain⟨e',he',h4⟩:=lY h h3;obtain⟨env2,e2,σ2,s2,k2,r2,l2,y2,x2⟩:=A5 hC he' q1 h4;exact⟨env2,e2,σ2,s2,pW k1 k2,.stepc hw rfl r1 (fun r' hr'=>by rw[hr'.1,hr'.2];exact r2),l2,y2,x2⟩
   ·obtain⟨v,σ1,s1,h2,q1,h3⟩:=tL h hs (fun f args e=>hc ⟨f,args,e⟩) h1;obtain⟨e',he',h4⟩:=lY h h3;obtain⟨env2,e2,σ2,s2,k2,r2,l2,y2,x2⟩:=A5 hC he' q1 h4;exact⟨env2,e2,σ2,s2,pW (JQ (KZ h2)) k2,.step hw h2 r2,l2,y2,x2⟩
  ·obtain⟨e',he',h4⟩:=lY h h1;obtain⟨env2,e2,σ2,s2,k2,r2,l2,y2,x2⟩:=A5 hC he' hs h4;exact⟨env2,e2,σ2,s2,k2,.off hw r2,l2,y2,x2⟩
theorem oQ{C:CC}(hC:xU T C):∀ {ds:List ADOper} {env:Env} {e:Tre} {σ:St} {s:SS} {next:Nat} {hist:List St} {hss:List SS} {rds:List RD} {rs:List ARead} {K:KE} {r:AV×SS},lH env e->dI σ s->zB hist hss->YS rds rs ->
  I1 C ds e s next hss rds K=some r->∃ env' e' σ' s',KeepS σ σ' 0/\Run T (.dops ds env σ next hist rs) (fun o=>o=⟨none,env',σ',.undef⟩)/\lH env' e'/\dI σ' s'/\K e' s'=some r
 |[],env,e,σ,s,next,hist,hss,rds,rs,K,r,h,hs,hh,hrd,hr=>by
  have hr':cond (CP rds hss) (K e s) none=some r:=hr;cases hk:CP rds hss with
  |false=>rw[hk] at hr';cases hr'
  |true=>rw[hk] at hr';exact⟨env,e,σ,s,.refl _ _,.dnil (E3 hh hrd hk) rfl,h,hs,hr'⟩
 |d::ds,env,e,σ,s,next,hist,hss,rds,rs,K,r,h,hs,hh,hrd,hr=>by
  obtain⟨⟨dst,q,g⟩,lo,hi⟩:=d;have hr':I0q g e (fun _=>aB7 C dst q lo hi e s next hss rds fun e s next hist rds=>I1 C ds e s next hist rds K)
   (fun _=>w4 dst (.tuple []) e fun e'=>I1 C ds e' s (cond q.allocs (Nat.add next 1) next) (cond q.acts (snoc s hss) hss) rds K)=some r:=hr
  rcases IB (o:=⟨dst,q,g⟩) h hr' with⟨hw,h1⟩|⟨hw,h1⟩
  ·unfold aB7 at h1;cases hal:q.allocs with
   |true =>
    rw[hal] at h1;simp only[cond_true] at h1;obtain⟨e',he',h4⟩:=lY h h1;obtain⟨env2,e2,σ2,s2,k2,r2,l2,y2,x2⟩:=oQ hC he' hs hh hrd h4;cases q<;>first|(cases hal;done)|skip
    exact⟨env2,e2,σ2,s2,k2,.dalloc hw rfl r2,l2,y2,x2⟩
   |false =>
    rw[hal] at h1;cases hac:q.acts with
    |true =>
     rw[hac] at h1;simp only[cond_true,cond_false] at h1;by_cases hc:∃ f args,q = .call f args
     ·obtain⟨f,args,rfl⟩:=hc;simp only[gP,ZK,hJ h,w8 h] at h1;obtain⟨v,s1,h2,h3⟩:=NJ h1;obtain⟨σ1,q1,k1,r1⟩:=hC _ _ _ _ _ _ hs h2;obtain⟨e',he',h4⟩:=lY h h3;obtain⟨env2,e2,σ2,s2,k2,r2,l2,y2,x2⟩:=oQ hC he' q1 (hh.snoc q1) hrd h4;exact⟨env2,e2,σ2,s2,pW k1 k2,.dcall hw rfl r1 r2,l2,y2,x2⟩
     ·obtain⟨v,σ1,s1,h2,q1,h3⟩:=tL h hs (fun f args e=>hc ⟨f,args,e⟩) h1;obtain⟨e',he',h4⟩:=lY h h3;obtain⟨env2,e2,σ2,s2,k2,r2,l2,y2,x2⟩:=oQ hC he' q1 (hh.snoc q1) hrd h4;exact⟨env2,e2,σ2,s2,pW (JQ (KZ h2)) k2,.dact hw hac h2 r2,l2,y2,x2⟩
    |false =>
     rw[hac] at h1;have hnc:∀ f args,q≠.call f args:=fun f args e=>by subst e;cases hac
     cases hre:q.reads with
     |true =>
      rw[hre] at h1;simp only[cond_true,cond_false] at h1;obtain⟨v,σ1,s1,h2,q1,h3⟩:=tL h hs hnc h1;obtain⟨e',he',h4⟩:=lY h h3;have hs1:=E9 hre h2;subst hs1;obtain⟨env2,e2,σ2,s2,k2,r2,l2,y2,x2⟩:=oQ hC he' hs hh (rds:=aEP C q lo hi e v::rds) (rs:=⟨lo,hi,q,env,v⟩::rs) ⟨aDL h hre,hrd⟩ h4;exact⟨env2,e2,σ2,s2,k2,.dread hw hre h2 r2,l2,y2,x2⟩
     |false =>
      rw[hre] at h1;simp only[cond_false] at h1;obtain⟨v,σ1,s1,h2,q1,h3⟩:=tL h hs hnc h1;obtain⟨e',he',h4⟩:=lY h h3;have hs1:=FZ h2 hac hal;subst hs1;obtain⟨env2,e2,σ2,s2,k2,r2,l2,y2,x2⟩:=oQ hC he' hs hh hrd h4;exact⟨env2,e2,σ2,s2,k2,.dpure hw (by rw[hac,hal,hre];rfl) h2 r2,l2,y2,x2⟩
  ·obtain⟨e',he',h4⟩:=lY h h1;have e1:(cond q.allocs (Nat.add next 1) next)=if q.allocs then next+1 else next:=by cases q.allocs<;>rfl
   have hh':zB (if q.acts then hist++[σ] else hist) (cond q.acts (snoc s hss) hss):=by
    cases q.acts with
    |true=>exact hh.snoc hs
    |false=>exact hh
   rw[e1] at h4;obtain⟨env2,e2,σ2,s2,k2,r2,l2,y2,x2⟩:=oQ hC he' hs hh' hrd h4;exact⟨env2,e2,σ2,s2,k2,.doff hw r2,l2,y2,x2⟩
def HO(v:AV):Bool:=AV.rec (motive_1:=fun _=>Bool) (motive_2:=fun _=>PUnit) true (fun _ _=>false) (fun _=>false) (fun _=>false) (fun _ _ _ _ _=>false) false (fun _=>false) (fun _ _=>false) false (fun _ _ _ _ _=>false) (fun _ _ _ _=>false) (fun _ _ _ _=>false) (fun _=>false) false (fun _ _=>false) (fun _ _=>false) ⟨⟩ (fun _ _ _ _=>⟨⟩) v
def CW(e:Tre)(n:Nat):Env:=Nat.rec [] (fun t ih=>cond (HO (Tre.get e t)) ih ((t,Tre.get e t)::ih)) n
theorem BH(e:Tre)(t:Nat):∀ n,Env.get (CW e n) t=if t<n then Tre.get e t else .undef
 |0=>rfl
 |n+1=>by
  have ih:=BH e t n;have e1:CW e (n+1)=cond (HO (Tre.get e n)) (CW e n) ((n,Tre.get e n)::CW e n):=rfl;rw[e1];cases hu:HO (Tre.get e n) with
  |true =>
   have hv:Tre.get e n = .undef:=by
    cases hg:Tre.get e n<;>first|rfl|(rw[hg] at hu;cases hu)
   simp only[cond_true,ih];by_cases h1:t<n
   ·rw[if_pos h1,if_pos (by omega)]
   ·rw[if_neg h1];by_cases h2:t=n
    ·subst h2;rw[if_pos (by omega),hv]
    ·rw[if_neg (by omega)]
  |false =>
   simp only[cond_false,Env.get,ih];by_cases h2:n=t
   ·subst h2;rw[if_pos rfl,if_pos (by omega)]
   ·rw[if_neg h2];by_cases h1:t<n
    ·rw[if_pos h1,if_pos (by omega)]
    ·rw[if_neg h1,if_neg (by omega)]
def RC(e:Tre):Env:=CW e 256
theorem vT(e:Tre):lH (RC e) e:=fun t=>by
 unfold RC;rw[BH];split
 ·rfl
 ·rename_i h;unfold Tre.get;cases hb:Nat.ble t 255 with
  |true=>have:=Nat.le_of_ble_eq_true hb;omega
  |false=>rfl
def GV(env:Env):Bool:=List.rec true (fun p _ ih=>cond (Nat.ble p.1 255) ih false) env
def aHL(env:Env):Tre:=List.rec Tre.none (fun p _ ih=>Tre.put ih p.1 p.2) env
theorem B2:∀ {env:Env},GV env=true->lH env (aHL env)
 |[],_=>fun t=>(Tre.get_none t).symm
 |(k,v)::env,h=>by
  have h':cond (Nat.ble k 255) (GV env) false=true:=h;cases hk:Nat.ble k 255 with
  |false=>rw[hk] at h';cases h'
  |true=>rw[hk] at h';exact (B2 h').put k v hk
def nQ(args:List AV):Nat->Tre:=List.rec (motive:=fun _=>Nat->Tre) (fun _=>Tre.none) (fun v _ ih k=>Tre.put (ih (Nat.add k 1)) k v) args
theorem sZ:∀ {args:List AV} {k:Nat},k+args.length<=256->lH (eI k args) (nQ args k)
 |[],k,_=>fun t=>(Tre.get_none t).symm
 |v::args,k,h=>by
  have h1:k+1+args.length<=256:=by simp only[List.length_cons] at h;omega
  exact (sZ h1).put k v (Nat.ble_eq_true_of_le (by simp only[List.length_cons] at h;omega))
def YW(ps:List Nat):List AV->Tre->(Tre->RR)->RR:=List.rec (motive:=fun _=>List AV->Tre->(Tre->RR)->RR) (fun _ e K=>K e) (fun p _ ih args e K=>List.rec (K e) (fun v vs _=>w4 (some p) v e fun e'=>ih vs e' K) args) ps
theorem I2:∀ {ps:List Nat} {args:List AV} {env:Env} {e:Tre} {K:Tre->RR} {r:AV×SS},lH env e->YW ps args e K=some r->∃ e',lH (iQ env ps args) e'/\K e'=some r
 |[],args,env,e,K,r,h,hr=>⟨e,h,hr⟩
 |p::ps,[],env,e,K,r,h,hr=>⟨e,h,hr⟩
 |p::ps,v::vs,env,e,K,r,h,hr=>by
  have hr':w4 (some p) v e (fun e'=>YW ps vs e' K)=some r:=hr;obtain⟨e',he',h1⟩:=lY h hr';simp only[iQ];exact I2 he' h1
abbrev KJ2:=Option AJump->Tre->SS->RR
abbrev CF:=FuncId->List AV->SS->RR
abbrev vO:=CC->CF->Tre->SS->KJ2->RR
def aNS:vO:=fun _ _ e s K=>K none e s
def aVA(os:List AOper):vO:=fun C _ e s K=>aEE C os e s (K none)
def aPT(ds:List ADOper):vO:=fun C _ e s K=>KO (dC ds) s fun s1=>I1 C ds e s1 s.len [s1] [] (K none)
def ZZ(A B:KJ2):KJ2:=fun j e s=>Option.rec (A none e s) (fun j=>B (some j) e s) j
def aTT(iha ihb:vO):vO:=fun C F e s K=>iha C F e s (ZZ (fun _ e s=>ihb C F e s K) K)
def aQO(c:AOpd)(iha ihb:vO):vO:=fun C F e s K=>EX (odv c e) (fun t=>cond t (iha C F e s K) (ihb C F e s K)) none
def aOR(id:Nat)(K:KJ2):KJ2:=fun j e s=>Option.rec (K none e s) (fun q=>AJump.rec (K (some .ret) e s) (fun i=>cond (Nat.beq i id) (K none e s) (K (some (.exit i)) e s)) q) j
def aI6(id:Nat)(ihb:vO):vO:=fun C F e s K=>ihb C F e s (aOR id K)
def PH(B:Tre->SS->KJ2->RR)(K:KJ2)(n:Nat):Tre->SS->RR:=Nat.rec (motive:=fun _=>Tre->SS->RR) (fun _ _=>none) (fun _ ih e s=>B e s (ZZ (fun _ e s=>ih e s) K)) n
def aRZ(ihb:vO):vO:=fun C F e s K=>PH (ihb C F) K 1000000 e s
def lsK(s:LS)(A:RR):RR:=LS.rec A none A s
def NP(f:AOpd)(ps:List Nat)(a b:ACode):vO:=fun _ F e s K =>
 QJ (odv f e) (fun g first cap=>oS s.len fun n=>CU none s (.loop .ready none (RC e) ps a b) fun s0=>bnd (F g (NH (NH first [.yield n]) cap) s0) fun _ s1 =>
  eW none (s1.get n) fun blk=>FR blk (fun st pend _ _ _ _=>lsK st (K pend e (s1.set n .dead))) none) none
def aPI(j:AJump):vO:=fun _ _ e s K=>K (some j) e s
def BV(c:ACode):vO:=ACode.rec (motive:=fun _=>vO) aNS aVA aPT (fun _ _ iha ihb=>aTT iha ihb) (fun c _ _ iha ihb=>aQO c iha ihb) (fun id _ ihb=>aI6 id ihb) (fun _ ihb=>aRZ ihb) (fun f ps a b _ _=>NP f ps a b) aPI (fun _ ihb=>ihb) c
def FOk(T:FuncId->Option AFunc)(F:CF):Prop:=∀ f args σ s v s',dI σ s->F f args s=some (v,s')->∃ σ',dI σ' s'/\KeepS σ σ' 0/\Run T (.call f args σ) fun r=>r.v=v/\r.σ=σ'
def aNA(T:FuncId->Option AFunc)(c:ACode)(env:Env)(σ:St)(K:KJ2)(r:AV×SS):Prop :=
 ∃ j env' e' σ' s',KeepS σ σ' 0/\Run T (.code c env σ) (fun o=>o=⟨j,env',σ',.undef⟩)/\lH env' e'/\dI σ' s'/\K j e' s'=some r
theorem YI{C:CC}{F:CF}(hC:xU T C)(hF:FOk T F):∀ (c:ACode) {env:Env} {e:Tre} {σ:St} {s:SS} {K:KJ2} {r:AV×SS},lH env e->dI σ s->BV c C F e s K=some r->aNA T c env σ K r:=by
 intro c
 induction c with
 |skip=>intro env e σ s K r h hs hr;exact⟨none,env,e,σ,s,.refl _ _,.skip rfl,h,hs,hr⟩
 |reg os =>
  intro env e σ s K r h hs hr;obtain⟨env2,e2,σ2,s2,k2,r2,l2,y2,x2⟩:=A5 hC h hs hr;exact⟨none,env2,e2,σ2,s2,k2,.reg r2,l2,y2,x2⟩
 |dreg ds =>
  intro env e σ s K r h hs hr;have hr':KO (dC ds) s (fun s1=>I1 C ds e s1 s.len [s1] [] (K none))=some r:=hr;obtain⟨s1,q1,q2⟩:=xW hs hr';rw[<-hs.1] at q2
  obtain⟨env2,e2,σ2,s2,k2,r2,l2,y2,x2⟩:=oQ hC h q1 (hist:=[σ++dC ds]) ⟨rfl,fun j τ hj=>by
   cases j with
   |zero=>simp only[List.getElem?_cons_zero,Option.some.injEq] at hj;subst hj;exact⟨s1,rfl,q1⟩
   |succ j=>simp at hj⟩ (rds:=[]) (rs:=[]) trivial q2
  exact⟨none,env2,e2,σ2,s2,pW (.app _ _ _) k2,.dreg r2,l2,y2,x2⟩
 |seq a b iha ihb =>
  intro env e σ s K r h hs hr;obtain⟨j,env1,e1,σ1,s1,k1,r1,l1,y1,x1⟩:=iha h hs hr;cases j with
  |none =>
   obtain⟨j,env2,e2,σ2,s2,k2,r2,l2,y2,x2⟩:=ihb l1 y1 x1;exact⟨j,env2,e2,σ2,s2,pW k1 k2,.seq r1 (fun o ho _=>by subst ho;exact r2) fun o ho hj=>by subst ho;exact absurd rfl hj,l2,y2,x2⟩
  |some j=>exact⟨some j,env1,e1,σ1,s1,k1,.seq r1 (fun o ho hj=>by subst ho;cases hj) fun o ho hj=>ho,l1,y1,x1⟩
 |cond x a b iha ihb =>
  intro env e σ s K r h hs hr;have hr':EX (odv x e) (fun t=>cond t (BV a C F e s K) (BV b C F e s K)) none=some r:=hr;rw[wN,hJ h] at hr';split at hr'
  ·rename_i t hx;cases t with
   |true =>
    obtain⟨j,env2,e2,σ2,s2,k2,r2,l2,y2,x2⟩:=iha h hs hr';exact⟨j,env2,e2,σ2,s2,k2,.cond true hx r2,l2,y2,x2⟩
   |false =>
    obtain⟨j,env2,e2,σ2,s2,k2,r2,l2,y2,x2⟩:=ihb h hs hr';exact⟨j,env2,e2,σ2,s2,k2,.cond false hx r2,l2,y2,x2⟩
  ·cases hr'
 |block id b ihb =>
  intro env e σ s K r h hs hr;obtain⟨j,env',e',σ',s',k,r1,he',hs',h1⟩:=ihb h hs hr;cases j with
  |none=>exact⟨none,env',e',σ',s',k,.block r1 fun o ho=>by subst ho;simp,he',hs',h1⟩
  |some q =>
   cases q with
   |ret=>exact⟨some .ret,env',e',σ',s',k,.block r1 fun o ho=>by subst ho;simp,he',hs',h1⟩
   |exit i =>
    have h1':cond (Nat.beq i id) (K none e' s') (K (some (.exit i)) e' s')=some r:=h1;cases hi:Nat.beq i id with
    |true =>
     have:=Nat.eq_of_beq_eq_true hi;subst this;rw[hi] at h1';exact⟨none,env',e',σ',s',k,.block r1 fun o ho=>by subst ho;simp,he',hs',h1'⟩
    |false =>
     have:=Nat.ne_of_beq_eq_false hi;rw[hi] at h1';exact⟨some (.exit i),env',e',σ',s',k,.block r1 fun o ho=>by subst ho;simp[this],he',hs',h1'⟩
 |loop b ihb =>
  intro env e σ s K r h hs hr;have key:∀ n {env:Env} {e:Tre} {σ:St} {s:SS},lH env e->dI σ s->PH (BV b C F) K n e s=some r->aNA T (.loop b) env σ K r:=by
   intro n
   induction n with
   |zero=>intro env e σ s h hs hr;cases hr
   |succ n ih =>
    intro env e σ s h hs hr;obtain⟨j,env1,e1,σ1,s1,k1,r1,l1,y1,x1⟩:=ihb (K:=ZZ (fun _ e s=>PH (BV b C F) K n e s) K) h hs hr;cases j with
    |none =>
     obtain⟨j,env2,e2,σ2,s2,k2,r2,l2,y2,x2⟩:=ih l1 y1 x1;exact⟨j,env2,e2,σ2,s2,pW k1 k2,.loop r1 (fun o ho _=>by subst ho;exact r2) fun o ho hj=>by subst ho;exact absurd rfl hj,l2,y2,x2⟩
    |some j=>exact⟨some j,env1,e1,σ1,s1,k1,.loop r1 (fun o ho hj=>by subst ho;cases hj) fun o ho hj=>ho,l1,y1,x1⟩
  exact key 1000000 h hs (show PH (BV b C F) K 1000000 e s=some r from hr)
 |rangeFunc f ps a b _ _ =>
  intro env e σ s K r h hs hr;have hr':NP f ps a b C F e s K=some r:=hr;unfold NP at hr';rw[BT,hJ (vT e)] at hr';split at hr'
  ·rename_i g first cap hf
   rw[kE] at hr';obtain⟨s0,q0,hr'⟩:=sM hs hr';obtain⟨v,s1,h1,h2⟩:=NJ hr';rw[rU,rU,<-hs.1] at h1;obtain⟨σ1,q1,k1,r1⟩:=hF _ _ _ _ _ _ q0 h1;simp only[<-hs.1,cU,J2,<-q1.2] at h2;split at h2
   ·rename_i blk hb;split at h2
    ·rename_i st pend env' ps' a' b';have hst:st≠.busy:=fun hst=>by subst hst;cases h2
     have h3:K pend e (s1.set σ.length .dead)=some r:=by cases st<;>first|exact h2|exact absurd rfl hst
     refine⟨pend,RC e,e,σ1.set σ.length .dead,s1.set σ.length .dead,⟨?_,fun i hi=>absurd hi (Nat.not_lt_zero _),fun i st2 pe2 env2 ps2 x y hlt q=>?_⟩,.reenv (fun t=>by rw[h t,vT e t]) (.rangeFunc hf r1 fun o ho=>?_),vT e,q1.set hb _,h3⟩
     ·have:=k1.len;simp at this ⊢;omega
     ·rw[List.getElem?_set_ne (by omega)] at q;obtain⟨st',pe',q'⟩:=k1.loops i st2 pe2 env2 ps2 x y (by simp;omega) q;rw[List.getElem?_append_left hlt] at q';exact⟨st',pe',q'⟩
     ·obtain⟨rfl,hσ⟩:=ho;subst hσ;exact⟨st,pend,env',ps',a',b',hb,hst,rfl⟩
    ·cases h2
   ·cases h2
  ·cases hr'
 |jump j=>intro env e σ s K r h hs hr;exact⟨some j,env,e,σ,s,.refl _ _,.jump rfl,h,hs,hr⟩
 |scope b ihb =>
  intro env e σ s K r h hs hr;obtain⟨j,env2,e2,σ2,s2,k2,r2,l2,y2,x2⟩:=ihb h hs hr;exact⟨j,env2,e2,σ2,s2,k2,.scope r2,l2,y2,x2⟩
def aKR:AV->Bool:=AV.rec (motive_1:=fun _=>Bool) (motive_2:=fun _=>Bool) true (fun _ _=>true) (fun _=>true) (fun _=>true) (fun _ _ _ x y=>cond x y false) true (fun _=>false) (fun _ _=>false) true (fun _ _ _ tk x=>Option.rec x (fun _=>false) tk) (fun _ _ tk x=>Option.rec x (fun _=>false) tk) (fun _ _ _ _=>false) (fun _=>false) true (fun _ x=>x) (fun _ x=>x) true (fun _ _ x y=>cond x y false)
def vC:List AV->Bool:=AV.rec_1 (motive_1:=fun _=>Bool) (motive_2:=fun _=>Bool) true (fun _ _=>true) (fun _=>true) (fun _=>true) (fun _ _ _ x y=>cond x y false) true (fun _=>false) (fun _ _=>false) true (fun _ _ _ tk x=>Option.rec x (fun _=>false) tk) (fun _ _ tk x=>Option.rec x (fun _=>false) tk) (fun _ _ _ _=>false) (fun _=>false) true (fun _ x=>x) (fun _ x=>x) true (fun _ _ x y=>cond x y false)
mutual
theorem datA_ok:∀ v:AV,aKR v=true->okV 0 v
 |.undef,_|.int _ _,_|.bool _,_|.str _,_|.nilFunc,_|.nilPtr,_|.nilMap,_=>trivial
 |.func f a b,h=>by
  have h':cond (vC a) (vC b) false=true:=h;cases ha:vC a with
  |false=>rw[ha] at h';cases h'
  |true=>rw[ha] at h';exact⟨datAs_ok a ha,datAs_ok b h'⟩
 |.yield i,h|.ptr i _,h|.ref i _ _ _,h|.map i,h=>by cases h
 |.lptr xs i o tk,h=>by
  cases tk with
  |none=>exact⟨fun t e=>(by cases e),datAs_ok xs h⟩
  |some t=>cases h
 |.lit xs fl tk,h=>by
  cases tk with
  |none=>exact⟨fun t e=>(by cases e),datAs_ok xs h⟩
  |some t=>cases h
 |.agg cs,h=>datAs_ok cs h
 |.tuple cs,h=>datAs_ok cs h
theorem datAs_ok:∀ vs:List AV,vC vs=true->okVs 0 vs
 |[],_=>trivial
 |v::vs,h=>by
  have h':cond (aKR v) (vC vs) false=true:=h;cases ha:aKR v with
  |false=>rw[ha] at h';cases h'
  |true=>rw[ha] at h';exact⟨datA_ok v ha,datAs_ok vs h'⟩
end
def aEC(σ:St)(rf:List AV->Option (List AV))(id off len sz:Nat):Option AV :=
 eW none (kS σ (.ref id off len sz)) fun xs=>cond (decide (0<sz)&&aH sz xs) (eW none (rf xs) fun ys=>some (.lit ys false none)) none
def aJI(σ:St)(rf:List AV->Option (List AV)):AV->Option AV:=AV.rec (motive_1:=fun _=>Option AV) (motive_2:=fun _=>Option (List AV))
 (some .undef) (fun k n=>some (.int k n)) (fun b=>some (.bool b)) (fun s=>some (.str s)) (fun f _ _ x y=>eW none x fun x=>eW none y fun y=>some (.func f x y)) (some .nilFunc) (fun _=>none) (fun _ _=>none) (some .nilPtr)
 (fun _ i o _ x=>eW none x fun x=>some (.lptr x i o none)) (fun _ fl _ x=>eW none x fun x=>some (.lit x fl none)) (fun id off len sz=>aEC σ rf id off len sz) (fun _=>none) (some .nilMap) (fun _ x=>eW none x fun x=>some (.agg x)) (fun _ x=>eW none x fun x=>some (.tuple x)) (some []) (fun _ _ x y=>eW none x fun x=>eW none y fun y=>some (x::y))
def w6(σ:St)(rf:List AV->Option (List AV)):List AV->Option (List AV):=AV.rec_1 (motive_1:=fun _=>Option AV) (motive_2:=fun _=>Option (List AV))
 (some .undef) (fun k n=>some (.int k n)) (fun b=>some (.bool b)) (fun s=>some (.str s)) (fun f _ _ x y=>eW none x fun x=>eW none y fun y=>some (.func f x y)) (some .nilFunc) (fun _=>none) (fun _ _=>none) (some .nilPtr)
 (fun _ i o _ x=>eW none x fun x=>some (.lptr x i o none)) (fun _ fl _ x=>eW none x fun x=>some (.lit x fl none)) (fun id off len sz=>aEC σ rf id off len sz) (fun _=>none) (some .nilMap) (fun _ x=>eW none x fun x=>some (.agg x)) (fun _ x=>eW none x fun x=>some (.tuple x)) (some []) (fun _ _ x y=>eW none x fun x=>eW none y fun y=>some (x::y))
def aFX(σ:St)(d:Nat):List AV->Option (List AV):=Nat.rec (fun _=>none) (fun _ ih=>w6 σ ih) d
def snp(σ:St)(d:Nat):AV->Option AV:=aJI σ (aFX σ d)
mutual
theorem snpV_ok (σ:St) (d:Nat) (rf:List AV->Option (List AV)) (hrf:∀ xs ys,rf xs=some ys->∃ d',d=d'+1/\snaps σ 0 d' xs=some ys):∀ v v':AV,aJI σ rf v=some v'->snap σ 0 d v=some v'
 |.undef,v',h=>by simp only[snap];exact h
 |.int _ _,v',h=>by simp only[snap];exact h
 |.bool _,v',h=>by simp only[snap];exact h
 |.str _,v',h=>by simp only[snap];exact h
 |.nilFunc,v',h=>by simp only[snap];exact h
 |.nilPtr,v',h=>by simp only[snap];exact h
 |.nilMap,v',h=>by simp only[snap];exact h
 |.func f a b,v',h=>by
  have h':(eW none (w6 σ rf a) fun x=>eW none (w6 σ rf b) fun y=>some (AV.func f x y))=some v':=h;rw[cU] at h';split at h'
  ·rename_i x hx;rw[cU] at h';split at h'
   ·rename_i y hy;simp only[snap,snpVs_ok σ d rf hrf a _ hx,snpVs_ok σ d rf hrf b _ hy];exact h'
   ·cases h'
  ·cases h'
 |.yield _,v',h=>by cases h
 |.ptr _ _,v',h=>by cases h
 |.map _,v',h=>by cases h
 |.lptr xs i o tk,v',h=>by
  have h':(eW none (w6 σ rf xs) fun x=>some (AV.lptr x i o none))=some v':=h;rw[cU] at h';split at h'
  ·rename_i x hx;simp only[snap,snpVs_ok σ d rf hrf xs _ hx];cases tk<;>exact h'
  ·cases h'
 |.lit xs fl tk,v',h=>by
  have h':(eW none (w6 σ rf xs) fun x=>some (AV.lit x fl none))=some v':=h;rw[cU] at h';split at h'
  ·rename_i x hx;simp only[snap,snpVs_ok σ d rf hrf xs _ hx];cases tk<;>exact h'
  ·cases h'
 |.ref id off len sz,v',h=>by
  have h':aEC σ rf id off len sz=some v':=h;unfold aEC at h';rw[cU] at h';split at h'
  ·rename_i xs hv;cases hc:decide (0<sz)&&aH sz xs with
   |false=>rw[hc] at h';cases h'
   |true =>
    rw[hc,cond_true,cU] at h';split at h'
    ·rename_i ys hy;obtain⟨d',rfl,hs⟩:=hrf _ _ hy;simp only[snap];rw[if_neg (Nat.not_lt_zero _)];simp only[hv,hc,if_true,hs];exact h'
    ·cases h'
  ·cases h'
 |.agg cs,v',h=>by
  have h':(eW none (w6 σ rf cs) fun x=>some (AV.agg x))=some v':=h;rw[cU] at h';split at h'
  ·rename_i x hx;simp only[snap,snpVs_ok σ d rf hrf cs _ hx];exact h'
  ·cases h'
 |.tuple cs,v',h=>by
  have h':(eW none (w6 σ rf cs) fun x=>some (AV.tuple x))=some v':=h;rw[cU] at h';split at h'
  ·rename_i x hx;simp only[snap,snpVs_ok σ d rf hrf cs _ hx];exact h'
  ·cases h'
theorem snpVs_ok (σ:St) (d:Nat) (rf:List AV->Option (List AV)) (hrf:∀ xs ys,rf xs=some ys->∃ d',d=d'+1/\snaps σ 0 d' xs=some ys):∀ vs vs':List AV,w6 σ rf vs=some vs'->snaps σ 0 d vs=some vs'
 |[],vs',h=>by simp only[snaps];exact h
 |v::vs,vs',h=>by
  have h':(eW none (aJI σ rf v) fun x=>eW none (w6 σ rf vs) fun y=>some (x::y))=some vs':=h;rw[cU] at h';split at h'
  ·rename_i x hx;rw[cU] at h';split at h'
   ·rename_i y hy;simp only[snaps,snpV_ok σ d rf hrf v _ hx,snpVs_ok σ d rf hrf vs _ hy];exact h'
   ·cases h'
  ·cases h'
end
theorem O3(σ:St):∀ (d:Nat) (xs ys:List AV),aFX σ d xs=some ys->∃ d',d=d'+1/\snaps σ 0 d' xs=some ys
 |0,xs,ys,h=>by cases h
 |d+1,xs,ys,h=>⟨d,rfl,snpVs_ok σ d (aFX σ d) (O3 σ d) xs ys h⟩
theorem aAL{σ:St}{d:Nat}{v v':AV}(h:snp σ d v=some v'):snap σ 0 d v=some v':=snpV_ok σ d (aFX σ d) (O3 σ d) v v' h
def RB(r:ARes):Nat:=ARes.rec (fun t=>t) (fun t _=>t) r
theorem sW{env env':Env}{σ:St}:∀ {rs:List ARes},(∀ t∈rs.map RB,Env.get env t=Env.get env' t)->iW env σ rs=iW env' σ rs
 |[],_=>rfl
 |.tmp t::rs,h=>by
  simp only[iW];rw[sW (rs:=rs) fun t ht=>h t (List.mem_cons_of_mem _ ht),h t (by simp[RB])]
 |.cell t sh::rs,h=>by
  simp only[iW];rw[sW (rs:=rs) fun t ht=>h t (List.mem_cons_of_mem _ ht),h t (by simp[RB])]
def aGH(rs:List ARes)(e:Tre)(σ:St):Option AV:=eY rs (I4 e (aP0 RB rs)) σ
theorem GE{env:Env}{e:Tre}(h:lH env e)(rs:List ARes)(σ:St):aGH rs e σ=eY rs env σ:=by
 unfold aGH eY;rw[O6,sW fun t ht=>zE h _ t ht]
def aJF(j:Option AJump)(A:RR):RR:=Option.rec A (fun q=>AJump.rec A (fun _=>none) q) j
theorem GX{j:Option AJump}{A:RR}{r:AV×SS}(h:aJF j A=some r):(j=none\/j=some .ret)/\A=some r:=by
 cases j with
 |none=>exact⟨.inl rfl,h⟩
 |some q =>
  cases q with
  |ret=>exact⟨.inr rfl,h⟩
  |exit i=>cases h
def aF3(rs:List ARes):KJ2:=fun j e s=>aJF j (eW none (aGH rs e (TK s)) fun v=>eW (some (.undef,.mk 1 (.all (.all (.all none))))) (snp (TK s) 20 v) fun w=>some (w,SS.new))
def aDU(rs:List ARes):KJ2:=fun j e s=>aJF j (eW none (aGH rs e (TK s)) fun v=>some (v,s))
def aPW(r:RR)(s:SS)(alt:Unit->RR):RR:=Option.rec none (fun p=>Prod.rec (fun v s1=>SS.rec (fun n _=>cond (Nat.beq n 0) (some (v,s)) (alt ())) s1) p) r
abbrev Bdy:=ACode->Tre->SS->KJ2->RR
def goF(q:Bool)(B:Bdy)(args:List AV)(s:SS)(n:Nat)(rs:List ARes)(b:ACode):RR :=
 cond (cond (Nat.ble (oW args) 255) (Nat.ble (oW args) n) false)
  (cond (cond q false (vC args)) (aPW (B b (nQ args 0) SS.new (aF3 rs)) s fun _=>B b (nQ args 0) s (aDU rs)) (B b (nQ args 0) s (aDU rs))) none
def O1(T:FuncId->Option AFunc)(N:FuncId->Bool)(B:Bdy):CF:=fun f args s=>eW none (T f) fun af=>AFunc.rec (fun n rs b=>goF (N f) B args s n rs b) af
def HA(s:LS)(p:Option AJump)(A:RR):RR:=LS.rec (Option.rec A (fun _=>none) p) none none s
def UU(s:LS)(p:Option AJump)(A:RR):RR:=LS.rec none (Option.rec A (fun _=>none) p) none s
def M1(B:Bdy)(id:Nat)(args:List AV)(s:SS):RR :=
 eW none (s.get id) fun blk=>FR blk (fun st pe env ps a b=>HA st pe (cond (Nat.beq (oW ps) (oW args)) (cond (GV env) (YW ps args (aHL env) fun e1 =>
  B a e1 s fun j e2 s1=>Option.rec (eW none (s1.get id) fun blk1=>FR blk1 (fun st1 pe1 _ _ _ _=>HA st1 pe1 (B b e2 (s1.set id (.loop .busy none env ps a b)) fun j2 _ s2 =>
   eW none (s2.get id) fun blk2=>FR blk2 (fun st2 pe2 _ _ _ _=>UU st2 pe2 (Option.rec (some (.bool true,s2.set id (.loop .ready none env ps a b))) (fun q=>some (.bool false,s2.set id (.loop .done (some q) env ps a b))) j2)) none)) none) (fun _=>none) j) none) none)) none
def MG(T:FuncId->Option AFunc)(N:FuncId->Bool)(B:Bdy):CC:=fun f args s=>QJ f (fun g first cap=>O1 T N B g (NH (NH first args) cap) s) (OM f (fun id=>M1 B id args s) none)
def VI(T:FuncId->Option AFunc)(N:FuncId->Bool)(k:Nat):Bdy:=Nat.rec (fun _ _ _ _=>none) (fun _ ih c=>BV c (MG T N ih) (O1 T N ih)) k
def BOk(T:FuncId->Option AFunc)(B:Bdy):Prop:=∀ c {env:Env} {e:Tre} {σ:St} {s:SS} {K:KJ2} {r:AV×SS},lH env e->dI σ s->B c e s K=some r->aNA T c env σ K r
theorem K4{N:FuncId->Bool}{B:Bdy}(hB:BOk T B):FOk T (O1 T N B):=by
 intro f args σ s v s' hs h;unfold O1 at h;rw[cU] at h;split at h
 ·rename_i af haf;obtain⟨n,rs,b⟩:=af;have h':goF (N f) B args s n rs b=some (v,s'):=h;unfold goF at h';rw[iY] at h';cases h1:Nat.ble args.length 255 with
  |false=>rw[h1] at h';cases h'
  |true =>
   rw[h1] at h';cases h2:Nat.ble args.length n with
   |false=>rw[h2] at h';cases h'
   |true =>
    rw[h2] at h';simp only[cond_true] at h';have hl:args.length<=n:=Nat.le_of_ble_eq_true h2;have hL:lH (eI 0 args) (nQ args 0):=sZ (by have:=Nat.le_of_ble_eq_true h1;omega);have opn:B b (nQ args 0) s (aDU rs)=some (v,s')->∃ σ',dI σ' s'/\KeepS σ σ' 0/\Run T (.call f args σ) fun r=>r.v=v/\r.σ=σ':=by
     intro hb;obtain⟨j,env2,e2,σ2,s2,k2,r2,l2,y2,x2⟩:=hB b hL hs hb;obtain⟨hj,h4⟩:=GX x2;rw[cU,GE l2,A8 y2] at h4;split at h4
     ·rename_i w hw;cases h4;exact⟨σ2,y2,k2,.call haf hl r2 fun o ho=>by subst ho;exact⟨hj,v,hw,.inl ⟨rfl,rfl⟩⟩⟩
     ·cases h4
    cases hq:cond (N f) false (vC args) with
    |false=>rw[hq] at h';exact opn h'
    |true =>
     rw[hq] at h';have hd:vC args=true:=by
      cases hn:N f with
      |true=>rw[hn] at hq;cases hq
      |false=>rw[hn] at hq;exact hq
     simp only[cond_true] at h';cases hp:B b (nQ args 0) SS.new (aF3 rs) with
     |none=>rw[hp] at h';cases h'
     |some p =>
      obtain⟨w,s1⟩:=p;obtain⟨n1,t1⟩:=s1;rw[hp] at h';have h3:cond (Nat.beq n1 0) (some (w,s)) (B b (nQ args 0) s (aDU rs))=some (v,s'):=h';cases hn:Nat.beq n1 0 with
      |false=>rw[hn] at h3;exact opn h3
      |true =>
       rw[hn] at h3;simp only[cond_true,Option.some.injEq,Prod.mk.injEq] at h3;obtain⟨rfl,rfl⟩:=h3;have hn0:n1=0:=Nat.eq_of_beq_eq_true hn;obtain⟨j,env2,e2,σ2,s2,k2,r2,l2,y2,x2⟩:=hB b hL dI.new hp;obtain⟨hj,h4⟩:=GX x2;rw[cU,GE l2,A8 y2] at h4;split at h4
       ·rename_i u hu;rw[cU] at h4;split at h4
        ·rename_i u' hu';simp only[Option.some.injEq,Prod.mk.injEq] at h4;obtain⟨rfl,_⟩:=h4;refine⟨σ,hs,.refl _ _,.frame (datAs_ok _ hd) (.inl rfl) (R:=fun o=>o.v=u'/\o.σ=[]) (.call haf hl r2 fun o ho=>?_) fun o ho=>⟨ho.2,ho.1,rfl⟩⟩;subst ho;exact⟨hj,u,hu,.inr ⟨20,u',u',aAL hu',.inl rfl,fun i hi=>absurd hi (Nat.not_lt_zero _),Nat.zero_le _,rfl,rfl⟩⟩
        ·simp only[Option.some.injEq,Prod.mk.injEq,SS.mk.injEq] at h4;omega
       ·cases h4
 ·cases h
theorem DB{s:LS}{p:Option AJump}{A:RR}{r:AV×SS}(h:HA s p A=some r):s = .ready/\p=none/\A=some r:=by
 cases s<;>cases p<;>first|exact⟨rfl,rfl,h⟩|(cases h;done)
theorem T9{s:LS}{p:Option AJump}{A:RR}{r:AV×SS}(h:UU s p A=some r):s = .busy/\p=none/\A=some r:=by
 cases s<;>cases p<;>first|exact⟨rfl,rfl,h⟩|(cases h;done)
theorem MB{σ:St}{s:SS}(hs:dI σ s){id:Nat}{r:AV×SS}{K:LS->Option AJump->Env->List Nat->ACode->ACode->RR}(h:(eW none (s.get id) fun blk=>FR blk K none)=some r):
  ∃ st pe env ps a b,σ[id]? = some (.loop st pe env ps a b)/\K st pe env ps a b=some r:=by
 rw[cU,<-hs.2] at h;split at h
 ·rename_i blk hb;rw[J2] at h;split at h
  ·rename_i st pe env ps a b;exact⟨st,pe,env,ps,a,b,hb,h⟩
  ·cases h
 ·cases h
theorem S7{B:Bdy}(hB:BOk T B){id:Nat}{args:List AV}{σ:St}{s:SS}{v:AV}{s':SS}(hs:dI σ s)(h:M1 B id args s=some (v,s')):∃ σ',dI σ' s'/\KeepS σ σ' 0/\Run T (.callv (.yield id) args σ) fun r=>r.v=v/\r.σ=σ':=by
 unfold M1 at h;obtain⟨st,pe,env,ps,a,b,hl,h⟩:=MB hs h;obtain⟨rfl,rfl,h⟩:=DB h;rw[iY,iY] at h;cases hn:Nat.beq ps.length args.length with
 |false=>rw[hn] at h;cases h
 |true =>
  rw[hn,cond_true] at h;have hn':ps.length=args.length:=Nat.eq_of_beq_eq_true hn;cases hk:GV env with
  |false=>rw[hk] at h;cases h
  |true =>
   rw[hk,cond_true] at h;obtain⟨e1,he1,h⟩:=I2 (B2 hk) h;obtain⟨j1,env1,e1',σ1,s1,k1,r1,l1,y1,x1⟩:=hB a he1 hs h;cases j1 with
   |some q=>cases x1
   |none =>
    obtain⟨st1,pe1,env1',ps1,a1,b1,hl1,x1⟩:=MB y1 x1;obtain⟨rfl,rfl,x1⟩:=DB x1;have hid:id<σ.length:=(List.getElem?_eq_some_iff.1 hl).1;obtain⟨st0,pe0,q0⟩:=k1.loops id _ _ _ _ _ _ hid hl1;rw[hl] at q0;cases q0;obtain⟨j2,env2,e2,σ2,s2,k2,r2,l2,y2,x2⟩:=hB b l1 (y1.set hl1 _) x1;obtain⟨st2,pe2,env2',ps2,a2,b2,hl2,x2⟩:=MB y2 x2;obtain⟨rfl,rfl,x2⟩:=T9 x2;have kb:KeepS σ1 (σ1.set id (.loop .busy none env ps a b)) id:=.setLoop hl1;have hid1:id<σ1.length:=(List.getElem?_eq_some_iff.1 hl1).1;obtain⟨st1,pe1,q1⟩:=k2.loops id _ _ _ _ _ _ (by simpa using hid1) hl2;rw[List.getElem?_set_self hid1] at q1;cases q1;have kk:∀ st pe,KeepS σ (σ2.set id (.loop st pe env ps a b)) 0:=fun st pe=>pW (pW (pW k1 (JQ kb)) k2) (JQ (KeepS.setLoop (st:=st) (pe:=pe) hl2))
    have fin:∀ Q:Out->Prop,Q ⟨none,[],σ2.set id (.loop (if j2=none then .ready else .done) j2 env ps a b),.bool (decide (j2=none))⟩->Run T (.callv (.yield id) args σ) Q:=fun Q hq =>
     .round hl hn' r1 (fun o ho=>by subst ho;exact⟨rfl,hl1⟩) (fun o ho=>by subst ho;exact r2) fun o ho=>by subst ho;exact⟨hl2,hq⟩
    cases j2 with
    |none =>
     have x3:some (AV.bool true,s2.set id (.loop .ready none env ps a b))=some (v,s'):=x2;cases x3;exact⟨_,y2.set hl2 _,kk _ _,fin _ ⟨rfl,rfl⟩⟩
    |some q =>
     have x3:some (AV.bool false,s2.set id (.loop .done (some q) env ps a b))=some (v,s'):=x2;cases x3;exact⟨_,y2.set hl2 _,kk _ _,fin _ ⟨rfl,rfl⟩⟩
theorem TM{N:FuncId->Bool}{B:Bdy}(hB:BOk T B):xU T (MG T N B):=by
 intro f args σ s v s' hs h;unfold MG at h;rw[BT] at h;split at h
 ·rename_i g first cap
  rw[rU,rU] at h;obtain⟨σ',q,k,r⟩:=K4 hB _ _ _ _ _ _ hs h;exact⟨σ',q,k,.callf r⟩
 ·rw[EK] at h;split at h
  ·exact S7 hB hs h
  ·cases h
theorem DH{N:FuncId->Bool}:∀ k,BOk T (VI T N k)
 |0=>fun c env e σ s K r h hs hr=>by cases hr
 |k+1=>fun c env e σ s K r h hs hr=>YI (TM (DH k)) (K4 (DH k)) c h hs hr
end Go.Am.Ex
noncomputable section
namespace Go.Am
end Go.Am
namespace Go.Am.Ex
variable {T:FuncId->Option AFunc} {N:FuncId->Bool}
def aBV(r:RR):Option AV:=Option.rec none (fun p=>Prod.rec (fun v s=>SS.rec (fun n _=>cond (Nat.beq n 0) (some v) none) s) p) r
theorem Y3{r:RR}{v:AV}(h:aBV r=some v):∃ t,r=some (v,.mk 0 t):=by
 cases r with
 |none=>cases h
 |some p =>
  obtain⟨w,n,t⟩:=p;have h':cond (Nat.beq n 0) (some w) none=some v:=h;cases hn:Nat.beq n 0 with
  |false=>rw[hn] at h';cases h'
  |true =>
   rw[hn] at h';cases h';have:=Nat.eq_of_beq_eq_true hn;subst this;exact⟨t,rfl⟩
def VF(T:FuncId->Option AFunc)(N:FuncId->Bool)(k:Nat)(f:FuncId)(args:List AV):Option AV :=
 cond (vC args) (eW none (T f) fun af=>AFunc.rec (fun n rs b=>cond (cond (Nat.ble (oW args) 255) (Nat.ble (oW args) n) false) (aBV (VI T N k b (nQ args 0) SS.new (aF3 rs))) none) af) none
theorem aF0{k:Nat}{f:FuncId}{args:List AV}{v w:AV}(h:VF T N k f args=some v)(hw:w=v\/w=clr v)(σ:St):Run T (.call f args σ) fun o=>o.v=w/\o.σ=σ:=by
 unfold VF at h;cases hd:vC args with
 |false=>rw[hd] at h;cases h
 |true =>
  rw[hd,cond_true,cU] at h;split at h
  ·rename_i af haf;obtain⟨n,rs,b⟩:=af;have h:cond (cond (Nat.ble (oW args) 255) (Nat.ble (oW args) n) false) (aBV (VI T N k b (nQ args 0) SS.new (aF3 rs))) none=some v:=h;rw[iY] at h;cases h1:Nat.ble args.length 255 with
   |false=>rw[h1] at h;cases h
   |true =>
    cases h2:Nat.ble args.length n with
    |false=>rw[h1,h2] at h;cases h
    |true =>
     rw[h1,h2] at h;simp only[cond_true] at h;have hl:args.length<=n:=Nat.le_of_ble_eq_true h2;have hL:lH (eI 0 args) (nQ args 0):=sZ (by have:=Nat.le_of_ble_eq_true h1;omega);obtain⟨t,hr⟩:=Y3 h;obtain⟨j,env2,e2,σ2,s2,k2,r2,l2,y2,x2⟩:=DH k b hL dI.new hr;obtain⟨hj,h4⟩:=GX x2;rw[cU,GE l2,A8 y2] at h4;split at h4
     ·rename_i u hu;rw[cU] at h4;split at h4
      ·rename_i u' hu';simp only[Option.some.injEq,Prod.mk.injEq] at h4;obtain⟨rfl,_⟩:=h4;refine .frame (datAs_ok _ hd) (.inl rfl) (R:=fun o=>o.v=w/\o.σ=[]) (.call haf hl r2 fun o ho=>?_) fun o ho=>⟨ho.2,ho.1,rfl⟩
       subst ho;exact⟨hj,u,hu,.inr ⟨20,u',w,aAL hu',hw,fun i hi=>absurd hi (Nat.not_lt_zero _),Nat.zero_le _,rfl,rfl⟩⟩
      ·simp only[Option.some.injEq,Prod.mk.injEq,SS.mk.injEq] at h4;omega
     ·cases h4
  ·cases h
theorem RY{k:Nat}{f:FuncId}{args:List AV}{v:AV}(h:VF T N k f args=some v):cY T f args (clr v):=fun σ=>aF0 h (.inr rfl) σ
end Go.Am.Ex
set_option maxRecDepth 100000
namespace Go.Am.Room.Tu
open Ex
def np(f:FuncId):Bool:=cond (Nat.beq f 143) true (cond (Nat.beq f 288) true (Nat.beq f 275))
theorem D1{k:Nat}{f:FuncId}{args:List AV}{w:AV}(h:(VF T np k f args).map clr=some w):cY T f args w:=by
 cases hr:VF T np k f args with
 |none=>rw[hr] at h;cases h
 |some v =>
  rw[hr] at h;injection h with h
  subst h;exact RY hr
theorem aKE:cY T 131 [.int .i64 (-1)] (encCar (exC [])):=D1 (k:=60) (by kernel_rfl)
theorem aMR:cY T 131 [.int .i64 3] (encCar (exC [⟨0,3,false⟩])):=D1 (k:=60) (by kernel_rfl)
theorem aI4:cY T 131 [.int .i64 4] (encCar (exC [⟨0,4,false⟩])):=D1 (k:=60) (by kernel_rfl)
theorem aFZ:cY T 134 [encCar (exC []),.int .i64 1,.int .i64 1] (.tuple [.int .i64 0,.int .i64 2]):=D1 (k:=60) (by kernel_rfl)
theorem aO5:cY T 132 [encCar (exC []),.int .i64 3] (.tuple [ints [1,2],.int .i64 0]):=D1 (k:=60) (by kernel_rfl)
theorem aMG:cY T 133 [encCar (exC []),.int .i64 0] (.tuple [ints [0],.int .i64 0]):=D1 (k:=60) (by kernel_rfl)
end Go.Am.Room.Tu
namespace Go.Am.Room.Tu
open Ex
theorem aJU:cY T 134 [encCar (exC []),.int .i64 0,.int .i64 1] (.tuple [.int .i64 1,.int .i64 0]):=D1 (k:=60) (by kernel_rfl)
theorem aTQ:cY T 135 [encCar (exC []),eR ⟨8,8⟩,.int .i64 1,.int .i64 5] (.tuple [ints [1],.int .i64 0]):=D1 (k:=60) (by kernel_rfl)
theorem aWC:cY T 137 [encCar (exC []),.int .i64 0,.int .i64 4] (.tuple [ints [0],.int .i64 0]):=D1 (k:=60) (by kernel_rfl)
theorem aL2:cY T 138 [encCar (exC [⟨0,4,false⟩])] (.tuple [ints [0],.int .i64 0]):=D1 (k:=60) (by kernel_rfl)
end Go.Am.Room.Tu
set_option maxRecDepth 8000
namespace Go.Am.Room.Tu
def TD:=zz @aN (@List.length_append.{0})
theorem i6(a b:Int):cY T 136 [.int .i64 a,.int .i64 b] (eR ⟨a,b⟩):=by
 refine aV (af:=aAR) rfl (by simp[aAR]) dd ?_;try simp only[↓QA,QB,seval,TD,aAR]
end Go.Am.Room.Tu
namespace Go.Am.Room.Tu
def dW:=zz @aN (zz @eM (zz @dM (zz @dK (zz @dR (@List.length_append.{0})))))
theorem dG(l:List Seen)(hl:l.length<=4):Fits (exC l):=⟨by simp[exC],by simp[exC],by simp[exC],by simp[exC];omega⟩
theorem datas_car(c:Car):kY (carCells c):=aD (iN _) (aD (aR _ _) (aD (dP uD _) (aD (dP sU _) (aD (dP qO _) cL))))
instance (c:Car):Dats (carCells c):=⟨datas_car c⟩
theorem S_car(c:Car)(σ:St)(m d:Nat):cB σ m d (carCells c)=some (carCells c):=iG (datas_car c) σ m d
theorem carC_len(c:Car):(carCells c).length=5:=rfl
theorem carC_take(c:Car):(carCells c).take 5=carCells c:=rfl
theorem carC_drop(c:Car):(carCells c).drop 5=[]:=rfl
theorem carC_cell(c:Car):aY (carCells c)=true:=by simp[aY,carCells,AV.cell]
set_option maxHeartbeats 4000000 in
theorem awake_ok:cY T 31 [] (.bool true):=by
 refine aV (af:=a31) rfl (by simp[a31]) cL ?_;have t1:=pturns_ok (exC []) 0 (dG _ (by simp));have t2:=pturns_ok (exC []) 1 (dG _ (by simp));have t3:=pturns_ok (exC []) 2 (dG _ (by simp));have t4:=pturns_ok (exC [⟨0,3,false⟩]) 1 (dG _ (by simp));have t5:=pturns_ok (exC [⟨0,4,false⟩]) 0 (dG _ (by simp));rw[x1] at t1;rw[x2] at t2;rw[x3] at t3;rw[x4] at t4;rw[x5] at t5;have c0:=aKE;have c3:=aMR;have c4:=aI4;have s1:=aFZ;have s2:=aO5;have s3:=aMG;have s4:=aJU;have s5:=aTQ;have s6:=aWC;have s7:=aL2;simp only[encCar_eq,encSNE] at c0 c3 c4 s1 s2 s3 s4 s5 s6 s7 t1 t2 t3 t4 t5
 (repeat (first|simp only[↓QA,QB,seval,dW,S_car,carC_len,carC_take,carC_drop,carC_cell,a31]|refine rd0 rfl ?_))
 ((first|refine aC (c0) rfl dd ?_|refine aJ (c0) rfl dd ?_);(repeat (first|simp only[↓QA,QB,seval,dW,S_car,carC_len,carC_take,carC_drop,carC_cell]|refine rd0 rfl ?_)))
 ((first|refine aC (c3) rfl dd ?_|refine aJ (c3) rfl dd ?_);(repeat (first|simp only[↓QA,QB,seval,dW,S_car,carC_len,carC_take,carC_drop,carC_cell]|refine rd0 rfl ?_)))
 ((first|refine aC (c4) rfl dd ?_|refine aJ (c4) rfl dd ?_);(repeat (first|simp only[↓QA,QB,seval,dW,S_car,carC_len,carC_take,carC_drop,carC_cell]|refine rd0 rfl ?_)))
 ((first|refine aC (t1) rfl dd ?_|refine aJ (t1) rfl dd ?_);(repeat (first|simp only[↓QA,QB,seval,dW,S_car,carC_len,carC_take,carC_drop,carC_cell]|refine rd0 rfl ?_)))
 ((first|refine aC (t2) rfl dd ?_|refine aJ (t2) rfl dd ?_);(repeat (first|simp only[↓QA,QB,seval,dW,S_car,carC_len,carC_take,carC_drop,carC_cell]|refine rd0 rfl ?_)))
 ((first|refine aC (t3) rfl dd ?_|refine aJ (t3) rfl dd ?_);(repeat (first|simp only[↓QA,QB,seval,dW,S_car,carC_len,carC_take,carC_drop,carC_cell]|refine rd0 rfl ?_)))
 ((first|refine aC (t4) rfl dd ?_|refine aJ (t4) rfl dd ?_);(repeat (first|simp only[↓QA,QB,seval,dW,S_car,carC_len,carC_take,carC_drop,carC_cell]|refine rd0 rfl ?_)))
 ((first|refine aC (s2) rfl dd ?_|refine aJ (s2) rfl dd ?_);(repeat (first|simp only[↓QA,QB,seval,dW,S_car,carC_len,carC_take,carC_drop,carC_cell]|refine rd0 rfl ?_)))
 ((first|refine aC (s3) rfl dd ?_|refine aJ (s3) rfl dd ?_);(repeat (first|simp only[↓QA,QB,seval,dW,S_car,carC_len,carC_take,carC_drop,carC_cell]|refine rd0 rfl ?_)))
 ((first|refine aC (s4) rfl dd ?_|refine aJ (s4) rfl dd ?_);(repeat (first|simp only[↓QA,QB,seval,dW,S_car,carC_len,carC_take,carC_drop,carC_cell]|refine rd0 rfl ?_)))
 ((first|refine aC (i6 8 8) rfl dd ?_|refine aJ (i6 8 8) rfl dd ?_);(repeat (first|simp only[↓QA,QB,seval,dW,S_car,carC_len,carC_take,carC_drop,carC_cell]|refine rd0 rfl ?_)))
 ((first|refine aC (s5) rfl dd ?_|refine aJ (s5) rfl dd ?_);(repeat (first|simp only[↓QA,QB,seval,dW,S_car,carC_len,carC_take,carC_drop,carC_cell]|refine rd0 rfl ?_)))
 ((first|refine aC (s6) rfl dd ?_|refine aJ (s6) rfl dd ?_);(repeat (first|simp only[↓QA,QB,seval,dW,S_car,carC_len,carC_take,carC_drop,carC_cell]|refine rd0 rfl ?_)))
 ((first|refine aC (s7) rfl dd ?_|refine aJ (s7) rfl dd ?_);(repeat (first|simp only[↓QA,QB,seval,dW,S_car,carC_len,carC_take,carC_drop,carC_cell]|refine rd0 rfl ?_)))
 ((first|refine aC (t5) rfl dd ?_|refine aJ (t5) rfl dd ?_);(repeat (first|simp only[↓QA,QB,seval,dW,S_car,carC_len,carC_take,carC_drop,carC_cell]|refine rd0 rfl ?_)))
 ((first|refine aC (s1) rfl dd ?_|refine aJ (s1) rfl dd ?_);(repeat (first|simp only[↓QA,QB,seval,dW,S_car,carC_len,carC_take,carC_drop,carC_cell]|refine rd0 rfl ?_)))
 ((first|refine aC (i6 2 4) rfl dd ?_|refine aJ (i6 2 4) rfl dd ?_);(repeat (first|simp only[↓QA,QB,seval,dW,S_car,carC_len,carC_take,carC_drop,carC_cell]|refine rd0 rfl ?_)))
 ((first|refine aC (i6 4 6) rfl dd ?_|refine aJ (i6 4 6) rfl dd ?_);(repeat (first|simp only[↓QA,QB,seval,dW,S_car,carC_len,carC_take,carC_drop,carC_cell]|refine rd0 rfl ?_)))
 ((first|refine aC (i6 6 6) rfl dd ?_|refine aJ (i6 6 6) rfl dd ?_);(repeat (first|simp only[↓QA,QB,seval,dW,S_car,carC_len,carC_take,carC_drop,carC_cell]|refine rd0 rfl ?_)))
 ((first|refine bH (eK [1,2] [1,2] (by simp) (by simp)) (by simp[clr,clrs,ints]) (by simp[okV,okVs]) ?_|refine fX (eK [1,2] [1,2] (by simp) (by simp)) (by simp[clr,clrs,ints]) (by simp[okV,okVs]) ?_);(repeat (first|simp only[↓QA,QB,seval,dW,S_car,carC_len,carC_take,carC_drop,carC_cell,eq_self]|refine rd0 rfl ?_)))
 ((first|refine bH (eK [0] [0] (by simp) (by simp)) (by simp[clr,clrs,ints]) (by simp[okV,okVs]) ?_|refine fX (eK [0] [0] (by simp) (by simp)) (by simp[clr,clrs,ints]) (by simp[okV,okVs]) ?_);(repeat (first|simp only[↓QA,QB,seval,dW,S_car,carC_len,carC_take,carC_drop,carC_cell,eq_self]|refine rd0 rfl ?_)))
 ((first|refine bH (eK [1] [1] (by simp) (by simp)) (by simp[clr,clrs,ints]) (by simp[okV,okVs]) ?_|refine fX (eK [1] [1] (by simp) (by simp)) (by simp[clr,clrs,ints]) (by simp[okV,okVs]) ?_);(repeat (first|simp only[↓QA,QB,seval,dW,S_car,carC_len,carC_take,carC_drop,carC_cell,eq_self]|refine rd0 rfl ?_)))
 ((first|refine bH (eK [0] [0] (by simp) (by simp)) (by simp[clr,clrs,ints]) (by simp[okV,okVs]) ?_|refine fX (eK [0] [0] (by simp) (by simp)) (by simp[clr,clrs,ints]) (by simp[okV,okVs]) ?_);(repeat (first|simp only[↓QA,QB,seval,dW,S_car,carC_len,carC_take,carC_drop,carC_cell,eq_self]|refine rd0 rfl ?_)))
 ((first|refine bH (eK [0] [0] (by simp) (by simp)) (by simp[clr,clrs,ints]) (by simp[okV,okVs]) ?_|refine fX (eK [0] [0] (by simp) (by simp)) (by simp[clr,clrs,ints]) (by simp[okV,okVs]) ?_);(repeat (first|simp only[↓QA,QB,seval,dW,S_car,carC_len,carC_take,carC_drop,carC_cell,eq_self]|refine rd0 rfl ?_)))
end Go.Am.Room.Tu
set_option maxRecDepth 4000
namespace Go.Am.Room.Do
def enc3(x:Int×Int×Int):AV:=.tuple [.int .i64 x.1,.int .i64 x.2.1,.int .i64 x.2.2]
theorem rW{v:Voy}{i:Nat}(hi:i<v.keepers.length):frmAt v i=v.keepers[i].frm:=by simp[frmAt,hi]
theorem HX{v:Voy}(hv:Vd v){n:Nat}(hn:n<v.lots.toNat){a:Int}:a∈vA v (truths v []) n↔∃ w∈turnsIn (truths v []) n,w.hour=a:=by
 simp only[vA,List.mem_filter,bC,VK,List.any_eq_true,decide_eq_true_eq];constructor
 ·exact fun h=>h.2
 ·rintro⟨w,hw,rfl⟩;refine⟨?_,w,hw,rfl⟩;rcases yH hn hw with e|e
  ·have:=hv.hours;rw[e];simp only;omega
  ·omega
theorem wS(hs:List Int):∀ k:Nat,(0<=dF hs k/\dF hs k<=k)/\∀ j:Nat,j<=k->fW hs (dF hs k)<=fW hs j/\(fW hs (dF hs k)=fW hs j->dF hs k<=j)
 |0=>⟨⟨Int.le_refl _,Int.le_refl _⟩,fun j hj=>by
   have:j=0:=by omega
   subst this;simp[dF]⟩
 |k+1=>by
  obtain⟨h1,h2⟩:=wS hs k;simp only[dF];split
  ·rename_i hlt;refine⟨by omega,fun j hj=>?_⟩;by_cases e:j=k+1
   ·subst e;exact⟨by simp,fun _=>by simp⟩
   ·have:=h2 j (by omega);exact⟨by omega,fun h=>by omega⟩
  ·rename_i hlt;refine⟨by omega,fun j hj=>?_⟩;by_cases e:j=k+1
   ·subst e;rw[show (((k+1:Nat)):Int)=(k:Int)+1 by omega];exact⟨by omega,fun h=>by omega⟩
   ·exact h2 j (by omega)
end Go.Am.Room.Do
namespace Go.Am.Room
theorem xD{n s:Nat}{x:Int}:x∈lst n s↔(0<=x/\x<n)/\s.testBit x.toNat=true:=by
 simp only[lst,List.mem_filter,bC,jK];constructor
 ·rintro⟨h1,h2⟩;exact⟨by omega,h2⟩
 ·rintro⟨h1,h2⟩;exact⟨by omega,h2⟩
theorem F1{n s i:Nat}(h:i<n):(lst n s).contains (i:Int)=s.testBit i:=by
 rw[Bool.eq_iff_iff,List.contains_iff_mem,xD];simp only[Int.toNat_natCast];constructor
 ·rintro⟨_,h2⟩;exact h2
 ·intro h2;exact⟨⟨by omega,by omega⟩,h2⟩
theorem I0(n s:Nat):lst (n+1) s=lst n s++(if s.testBit n=true then [(n:Int)] else []):=by
 simp only[lst,jR,List.filter_append,Int.zero_add]
 congr 1
 simp only[List.filter_cons,List.filter_nil,Int.toNat_natCast,jK]
theorem aDO{n s t:Nat}(h:∀ i,i<n->s.testBit i=t.testBit i):lst n s=lst n t:=by
 simp only[lst];refine List.filter_congr fun x hx=>?_
 have:=(bC _ _ _).1 hx;rw[<-jK,<-jK,h x.toNat (by omega)]
theorem aAG{n s:Nat}(h:s<2^n):lst (n+1) s=lst n s:=by
 rw[I0,Nat.testBit_lt_two_pow h];simp
theorem YH{n s:Nat}(h:s<2^n):lst (n+1) (s|||2^n)=lst n s++[(n:Int)]:=by
 rw[I0,aDO (t:=s)]
 ·simp[Nat.testBit_or,Nat.testBit_two_pow_self]
 ·intro i hi;rw[Nat.testBit_or,Nat.testBit_two_pow_of_ne (by omega),Bool.or_false]
theorem P8(a:Nat):((a:Int)==0)=decide (a=0):=by rw[Bool.eq_iff_iff];simp
structure ButIs (b:Nat) (bl:List Int):Prop where
 lt:b<9223372036854775808
 bit:∀ i:Nat,i<5->(((b/2^i%2:Nat):Int)==0) = !bl.contains (i:Int)
theorem MM:ButIs 0 []:=⟨by omega,fun i hi=>by simp⟩
theorem aES{n set:Nat}(hn:n<=5)(hs:set<2^n):ButIs set (lst n set):=by
 have hp:2^n<=2^5:=Nat.pow_le_pow_right (by omega) hn;refine⟨by omega,fun i hi=>?_⟩;have e:(((set/2^i%2:Nat):Int)==0) = !set.testBit i:=by
  rw[jK,P8,Bool.eq_iff_iff];simp
 rw[e];by_cases h:i<n
 ·rw[F1 h]
 ·have h1:set.testBit i=false:=Nat.testBit_lt_two_pow (Nat.lt_of_lt_of_le hs (Nat.pow_le_pow_right (by omega) (by omega)));have h2:(lst n set).contains (i:Int)=false:=by
   rw[Bool.eq_false_iff];intro hc;rw[List.contains_iff_mem,xD] at hc;omega
  rw[h1,h2]
end Go.Am.Room
namespace Go.Am.Room.Do
def iM:List Door->Nat->Nat->List Nat
 |[],_,set=>[set]
 |x::xs,h,set=>(if x.sure=true then [] else iM xs (h+1) set)++iM xs (h+1) (set|||2^h)
theorem BU:∀ (xs:List Door) (h set:Nat),set<2^h->∀ a∈iM xs h set,a<2^(h+xs.length)
 |[],h,set,hs,a,ha=>by simp[iM] at ha;subst ha;simpa using hs
 |x::xs,h,set,hs,a,ha=>by
  simp only[iM,List.mem_append] at ha;have e:h+(x::xs).length=(h+1)+xs.length:=by simp;omega
  have h1:set<2^(h+1):=by rw[Nat.pow_succ];omega
  have h2:set|||2^h<2^(h+1):=Nat.or_lt_two_pow h1 (by rw[Nat.pow_succ];have:=Nat.two_pow_pos h;omega);rw[e];rcases ha with ha|ha
  ·split at ha
   ·simp at ha
   ·exact BU xs (h+1) set h1 a ha
  ·exact BU xs (h+1) _ h2 a ha
theorem aE1{v:Voy}(hv:Vd v):∀ a∈iM v.doors 0 0,a<16/\a<2^v.doors.length:=by
 intro a ha;have:=BU v.doors 0 0 (by simp) a ha;rw[Nat.zero_add] at this;have hno:=hv.ndr;exact⟨Nat.lt_of_lt_of_le this (show 2^v.doors.length<=2^4 from Nat.pow_le_pow_right (by omega) hno),this⟩
def goL:List Door->Nat->List Int->List (List Int)
 |[],_,l=>[l]
 |x::xs,h,l=>(grow x h l).flatMap (goL xs (h+1))
theorem JH{v:Voy}{h:Nat}(hh:h<v.doors.length):setsUp v (h+1)=(setsUp v h).flatMap (grow v.doors[h] h):=by
 simp only[setsUp,List.getElem?_eq_getElem hh]
theorem KC(v:Voy):∀ (k h:Nat),h+k=v.doors.length->(setsUp v h).flatMap (goL (v.doors.drop h) h)=setsOf v
 |0,h,hk=>by
  have hh:h=v.doors.length:=by omega
  rw[hh,List.drop_length];have:goL [] v.doors.length=fun l=>[l]:=by funext l;rfl
  rw[this];simp[setsOf]
 |k+1,h,hk=>by
  have hh:h<v.doors.length:=by omega
  rw[<-KC v k (h+1) (by omega),JH hh,List.flatMap_assoc,List.drop_eq_getElem_cons hh];rfl
theorem CV:∀ (xs:List Door) (h set:Nat),set<2^h->goL xs h (lst h set)=(iM xs h set).map (lst (h+xs.length))
 |[],h,set,hs=>by simp[goL,iM]
 |x::xs,h,set,hs=>by
  have h1:set<2^(h+1):=by rw[Nat.pow_succ];omega
  have h2:set|||2^h<2^(h+1):=Nat.or_lt_two_pow h1 (by rw[Nat.pow_succ];have:=Nat.two_pow_pos h;omega);have i1:=CV xs (h+1) set h1;have i2:=CV xs (h+1) (set|||2^h) h2;rw[aAG hs] at i1;rw[YH hs] at i2;have e:h+(x::xs).length=h+1+xs.length:=by simp;omega
  rw[e];simp only[goL,grow,iM,List.flatMap_append,List.map_append]
  congr 1
  ·split
   ·rfl
   ·simp[i1]
  ·simp[i2]
theorem RZ(v:Voy):setsOf v=(iM v.doors 0 0).map (lst v.doors.length):=by
 rw[<-KC v v.doors.length 0 (by omega),List.drop_zero];have:=CV v.doors 0 0 (by simp);rw[Nat.zero_add] at this;rw[<-this];simp[setsUp,lst,aM]
def hAt(i:Nat):Int:=if i=25 then -1 else (i:Int)
def m7(v:Voy)(op d i:Nat):Bool:=op.testBit d&&inR ((i:Int)-doorHour v d) v.delay.lo v.delay.hi&&decide ((i:Int)<=v.hours)
def mU(v:Voy)(op:Nat):Nat->Nat->Nat
 |0,i=>if i=25 then 16 else 0
 |d+1,i=>mU v op d i|||(if m7 v op d i=true then 2^d else 0)
theorem J1(v:Voy)(op i:Nat):∀ (k d:Nat),(mU v op k i).testBit d=((decide (d<k)&&m7 v op d i)||(decide (i=25)&&decide (d=4)))
 |0,d=>by
  simp only[mU];by_cases h:i=25
  ·simp only[h,if_true];rw[show (16:Nat)=2^4 from rfl,Nat.testBit_two_pow];simp;exact eq_comm
  ·simp[h]
 |k+1,d=>by
  simp only[mU,Nat.testBit_or,J1 v op i k d];by_cases h1:d=k
  ·subst h1;cases h2:m7 v op d i
   ·simp[h2]
   ·simp[h2,Nat.testBit_two_pow_self]
  ·have h3:(if m7 v op k i=true then 2^k else 0).testBit d=false:=by
    split
    ·exact Nat.testBit_two_pow_of_ne (fun e=>h1 e.symm)
    ·simp
   have h4:decide (d<k+1)=decide (d<k):=by rw[decide_eq_decide];omega
   rw[h3,h4,Bool.or_false]
theorem GK(v:Voy)(op i:Nat):∀ k,k<=4->mU v op k i<32
 |0,_=>by simp only[mU];split<;>omega
 |k+1,hk=>by
  simp only[mU];have h1:=GK v op i k (by omega);refine Nat.or_lt_two_pow (n:=5) h1 ?_;split
  ·have:2^k<=2^3:=Nat.pow_le_pow_right (by omega) (by omega);omega
  ·omega
def okL(v:Voy)(bl:List Int)(n i:Nat):Bool:=turnOk v (n:Int) bl ⟨hAt i,0⟩
def tF(v:Voy)(bl:List Int)(n op i:Nat):Nat:=if okL v bl n i=true then mU v op v.doors.length i else 0
theorem F8{v:Voy}{lot:Int}{but:List Int}{w u:Tn}(h:w.hour=u.hour):turnOk v lot but w=turnOk v lot but u:=by
 simp only[turnOk,lookOk,h]
theorem aH4{v:Voy}(hv:Vd v)(bl:List Int)(n op i:Nat):tF v bl n op i<32:=by
 unfold tF;split
 ·exact GK v op i _ hv.ndr
 ·omega
theorem aAS{v:Voy}(hv:Vd v)(op d:Nat):m7 v op d 25=false:=by
 have:=hv.hours;have h:decide (((25:Nat):Int)<=v.hours)=false:=by simp;omega
 simp only[m7,h,Bool.and_false]
theorem MU{v:Voy}(hv:Vd v){bl:List Int}{n op i d:Nat}(hi:i<25):(tF v bl n op i).testBit d=true↔d<v.doors.length/\(⟨(i:Int),(d:Int)⟩:Tn)∈turnsOf v (n:Int) (lst v.doors.length op) bl:=by
 have h25:decide (i=25)=false:=by simp;omega
 have ha:hAt i=(i:Int):=by simp only[hAt];rw[if_neg (by omega)]
 have hok:okL v bl n i=turnOk v (n:Int) bl ⟨(i:Int),(d:Int)⟩:=by unfold okL;exact F8 (by simp[ha])
 rw[mem_turns,mem_all];unfold tF;rw[hok];cases h:turnOk v (n:Int) bl ⟨(i:Int),(d:Int)⟩
 ·simp
 ·simp only[if_true,and_true,J1,h25,Bool.false_and,Bool.or_false,Bool.and_eq_true,decide_eq_true_eq];refine and_congr_right fun hd=>?_
  constructor
  ·intro ho;simp only[m7,Bool.and_eq_true,decide_eq_true_eq,aZ] at ho;refine .inr ⟨(d:Int),xD.2 ⟨by omega,by simpa using ho.1.1⟩,mem_ways.2 ⟨rfl,by simp only;omega,by simp only;omega⟩⟩
  ·rintro (e|⟨d',hd',hw⟩)
   ·simp only[Tn.mk.injEq] at e;omega
   ·obtain⟨e1,e2,e3⟩:=mem_ways.1 hw;simp only at e1 e2 e3;subst e1;have:=xD.1 hd';simp only[m7,Bool.and_eq_true,decide_eq_true_eq,aZ];exact⟨⟨by simpa using this.2,by omega⟩,by omega⟩
theorem HZ{v:Voy}(hv:Vd v){bl:List Int}{n op:Nat}:tF v bl n op 25=(if turnOk v (n:Int) bl ⟨-1,-1⟩=true then 16 else 0):=by
 have hok:okL v bl n 25=turnOk v (n:Int) bl ⟨-1,-1⟩:=by unfold okL;exact F8 rfl
 have hr:∀ k,mU v op k 25=16:=by
  intro k
  induction k with
  |zero=>rfl
  |succ k ih=>simp[mU,ih,aAS hv]
 simp only[tF,hok,hr]
theorem SI{v:Voy}{n:Nat}{op bl:List Int}:(⟨-1,-1⟩:Tn)∈turnsOf v (n:Int) op bl↔turnOk v (n:Int) bl ⟨-1,-1⟩=true:=by
 rw[mem_turns,mem_all];simp
theorem OB{a:Nat}(h:a≠0):∃ d,a.testBit d=true:=Nat.exists_testBit_of_ne_zero h
theorem IX{v:Voy}(hv:Vd v){bl:List Int}{n op i:Nat}(hi:i<26):tF v bl n op i≠0↔∃ w∈turnsOf v (n:Int) (lst v.doors.length op) bl,w.hour=hAt i:=by
 by_cases h:i=25
 ·subst h;rw[HZ hv];constructor
  ·intro h1;refine⟨⟨-1,-1⟩,SI.2 ?_,rfl⟩;by_cases h2:turnOk v (n:Int) bl ⟨-1,-1⟩=true
   ·exact h2
   ·rw[if_neg h2] at h1;exact absurd rfl h1
  ·rintro⟨w,hw,e⟩;have h2:=(mem_turns.1 hw).2;rw[F8 (u:=⟨-1,-1⟩) e] at h2;rw[if_pos h2];omega
 ·have hi2:i<25:=by omega
  have ha:hAt i=(i:Int):=by simp only[hAt];rw[if_neg h]
  rw[ha];constructor
  ·intro h1;obtain⟨d,hd⟩:=OB h1;exact⟨_,((MU hv hi2).1 hd).2,rfl⟩
  ·rintro⟨w,hw,e⟩ h0;rcases mem_all.1 (mem_turns.1 hw).1 with e2|⟨d,hd,hww⟩
   ·rw[e2] at e;simp only at e;omega
   ·have hl:=xD.1 hd;have hdw:=(mem_ways.1 hww).1
    have hb:(tF v bl n op i).testBit d.toNat=true:=(MU hv hi2).2 ⟨by omega,by
     have:(⟨(i:Int),((d.toNat:Nat):Int)⟩:Tn)=w:=by
      cases w;simp only at e hdw;rw[e,hdw];congr 1;omega
     rw[this];exact hw⟩
    rw[h0] at hb;simp at hb
def xA(f:Nat->Nat):Bool:=(List.range 26).all fun i=>decide (f i=0)
theorem WT{v:Voy}(hv:Vd v){bl:List Int}{n op:Nat}:xA (tF v bl n op)=(turnsOf v (n:Int) (lst v.doors.length op) bl).isEmpty:=by
 rw[Bool.eq_iff_iff,List.isEmpty_iff];simp only[xA,List.all_eq_true,List.mem_range,decide_eq_true_eq];constructor
 ·intro h;rw[List.eq_nil_iff_forall_not_mem];intro w hw;have hr:w.hour = -1\/(0<=w.hour/\w.hour<=24):=by
   rcases mem_all.1 (mem_turns.1 hw).1 with e|⟨d,hd,hww⟩
   ·left;rw[e]
   ·have:=(mem_ways.1 hww).2.2;have:=hv.hours;right;omega
  rcases hr with e|e
  ·exact (IX hv (by omega:25<26)).2 ⟨w,hw,e⟩ (h 25 (by omega))
  ·have ha:hAt w.hour.toNat=w.hour:=by simp only[hAt];rw[if_neg (by omega)];omega
   exact (IX hv (by omega:w.hour.toNat<26)).2 ⟨w,hw,ha.symm⟩ (h _ (by omega))
 ·intro h i hi;by_cases h0:tF v bl n op i=0
  ·exact h0
  ·obtain⟨w,hw,_⟩:=(IX hv hi).1 h0;rw[h] at hw;cases hw
def iA(v:Voy)(bl:List Int)(op:Nat):Bool:=(List.range v.lots.toNat).all fun n=>!xA (tF v bl n op)
def TL(v:Voy)(bl:List Int):List Nat:=(iM v.doors 0 0).filter (iA v bl)
def A7(v:Voy)(bl:List Int)(op:Nat):Truth:=⟨lst v.doors.length op,(List.range v.lots.toNat).map fun (n:Nat)=>turnsOf v (n:Int) (lst v.doors.length op) bl⟩
theorem lL{v:Voy}(hv:Vd v)(bl:List Int):truths v bl=(TL v bl).map (A7 v bl):=by
 simp only[truths,TL,RZ,List.filterMap_map]
 induction iM v.doors 0 0 with
 |nil=>rfl
 |cons op l ih =>
  have hl:iA v bl op=((List.range v.lots.toNat).map fun (n:Nat)=>turnsOf v (n:Int) (lst v.doors.length op) bl).all (fun x=>!x.isEmpty):=by
   rw[List.all_map];unfold iA
   congr 1
   funext n;simp only[Function.comp_apply,WT hv]
  simp only[List.filterMap_cons,Function.comp_apply,List.filter_cons];cases h:iA v bl op
  ·rw[h] at hl;simp only[AX,<-hl,Bool.false_eq_true,if_false];exact ih
  ·rw[h] at hl;simp only[AX,<-hl,if_true,List.map_cons];rw[ih];rfl
theorem GN{v:Voy}(hv:Vd v)(bl:List Int):(TL v bl).isEmpty=(truths v bl).isEmpty:=by
 rw[lL hv];simp
theorem aBM{v:Voy}(hv:Vd v){bl:List Int}:∀ t∈TL v bl,t<16/\t<2^v.doors.length:=fun t ht=>aE1 hv t (List.mem_filter.1 ht).1
def orF(f g:Nat->Nat)(i:Nat):Nat:=f i|||g i
def jZ(v:Voy)(n:Nat):Nat->Nat:=(TL v []).foldl (fun f op=>orF f (tF v [] n op)) fun _=>0
theorem sN(v:Voy)(n i d:Nat):∀ (l:List Nat) (f:Nat->Nat),((l.foldl (fun f op=>orF f (tF v [] n op)) f) i).testBit d=((f i).testBit d||l.any fun op=>(tF v [] n op i).testBit d)
 |[],f=>by simp
 |op::l,f=>by
  rw[List.foldl_cons,sN v n i d l,List.any_cons];simp only[orF,Nat.testBit_or,Bool.or_assoc]
theorem P9{v:Voy}(hv:Vd v){n i d:Nat}(hn:n<v.lots.toNat)(hi:i<25):(jZ v n i).testBit d=true↔d<v.doors.length/\(⟨(i:Int),(d:Int)⟩:Tn)∈turnsIn (truths v []) n:=by
 simp only[jZ,sN,Nat.zero_testBit,Bool.false_or,List.any_eq_true,MU hv hi];rw[mem_turnsIn hn,lL hv];simp only[List.mem_map];constructor
 ·rintro⟨op,ho,hd,hw⟩;exact⟨hd,_,⟨op,ho,rfl⟩,hw⟩
 ·rintro⟨hd,_,⟨op,ho,rfl⟩,hw⟩;exact⟨op,ho,hd,hw⟩
theorem vZ{v:Voy}(hv:Vd v){n i:Nat}(hn:n<v.lots.toNat)(hi:i<26):jZ v n i≠0↔∃ w∈turnsIn (truths v []) n,w.hour=hAt i:=by
 constructor
 ·intro h;obtain⟨d,hd⟩:=OB h;simp only[jZ,sN,Nat.zero_testBit,Bool.false_or,List.any_eq_true] at hd;obtain⟨op,ho,hb⟩:=hd;obtain⟨w,hw,e⟩:=(IX hv (bl:=[]) (n:=n) (op:=op) hi).1 (fun h0=>by rw[h0] at hb;simp at hb);exact⟨w,(mem_turnsIn hn).2 ⟨A7 v [] op,by rw[lL hv];exact List.mem_map.2 ⟨op,ho,rfl⟩,hw⟩,e⟩
 ·rintro⟨w,hw,e⟩ h0;obtain⟨t,ht,hw2⟩:=(mem_turnsIn hn).1 hw;rw[lL hv] at ht;obtain⟨op,ho,rfl⟩:=List.mem_map.1 ht;obtain⟨d,hd⟩:=OB ((IX hv hi).2 ⟨w,hw2,e⟩);have:(jZ v n i).testBit d=true:=by
   simp only[jZ,sN,Nat.zero_testBit,Bool.false_or,List.any_eq_true];exact⟨op,ho,hd⟩
  rw[h0] at this;simp at this
end Go.Am.Room.Do
namespace Go.Am.Room.Do
def encSNE(x:Span×Int×Int):AV:=.tuple [eR x.1,.int .i64 x.2.1,.int .i64 x.2.2]
def encLE(x:List Int×Int):AV:=.tuple [ints x.1,.int .i64 x.2]
def F4(x:List Int×List Int×Int):AV:=.tuple [ints x.1,ints x.2.1,.int .i64 x.2.2]
theorem tV{v:Voy}{n:Int}(h:errAsk v n=0):Vd v/\0<=n/\n<v.lots:=by
 unfold errAsk at h;split at h
 ·rename_i h0;split at h
  ·rename_i h1;have:=aZ.1 h1;exact⟨vd_of_check h0,by omega,by omega⟩
  ·omega
 ·rename_i h0;exact absurd h h0
theorem kC{v:Voy}{e:Int}(h:errKnown v e=0):e=0/\truths v []≠[]:=by
 unfold errKnown at h;split at h
 ·rename_i h0;split at h
  ·omega
  ·rename_i h1;exact⟨h0,by simpa using h1⟩
 ·rename_i h0;exact absurd h h0
end Go.Am.Room.Do
namespace Go.Am.Room.Do
def iC{α:Type}(p:α->Bool):List α->Nat->Int
 |[],_=>-1
 |x::xs,k=>if p x then k else iC p xs (k+1)
theorem nK{α:Type}(p:α->Bool):∀ (l:List α) (k:Nat),decide (0<=iC p l k)=l.any p
 |[],k=>by simp[iC]
 |x::xs,k=>by
  cases h:p x
  ·simp[iC,h,nK p xs (k+1)]
  ·simp[iC,h]
theorem zG(σ:St)(f:AV)(l:List Int)(p:Int->Bool)(hl:l.length<9223372036854775808)(hk:n4 σ f)(h:∀ x∈l,fZ T f [.int .i64 x] σ (.bool (p x))):fZ T (.func 257 [] []) [ints l,f] σ (.int .i64 (iC p l 0)):=by
 refine dH (af:=H6) rfl (by simp[H6]) ?_;have hk0:=hk.nil;try simp only[↓QA,QB,seval,H6]
 refine cI (S:=Nat) 0 (fun k=>k<=l.length/\iC p (l.drop k) k=iC p l 0) (fun k=>l.length-k) (fun k=>[(0,ints l),(1,f),(7,.int .i64 l.length),(8,.int .i64 k)]) (fun _=>σ) ⟨Nat.zero_le _,by simp⟩ rfl ?_ fun k hk1=>?_
 ·try simp only[aB,QE,seval]
  try simp
 ·obtain⟨hkl,hi⟩:=hk1;try simp only[↓QA,QB,seval,ON]
  refine aE (fun hd=>?_) fun hd=>?_
  ·have hlt:k<l.length:=by simpa using hd
   rw[List.drop_eq_getElem_cons hlt] at hi;simp only[iC] at hi;have hw:=bR hlt hl;try simp only[↓QA,QB,seval,hlt]
   refine bI (h l[k] (List.getElem_mem hlt)) ?_;try simp only[↓QA,QB,seval]
   cases hp:p l[k]
   ·try simp only[↓QA,QB,seval,hw]
    refine⟨k+1,⟨by omega,by rw[<-hi,hp];rfl⟩,by omega,?_⟩;try simp only[aB,QE,seval,hw,hk0,Nat.le_refl]
   ·try simp only[↓QA,QB,seval]
    refine cS [] (by first|rfl|simp) ?_;rw[<-hi,hp];try simp only[QS,QC,seval]
  ·have hlt:k=l.length:=by simp at hd;omega
   try simp only[↓QA,QB,seval]
   refine cS [] (by first|rfl|simp) ?_;rw[<-hi,hlt,List.drop_length];try simp only[QS,QC,seval,iC]
theorem m6(σ:St)(f:AV)(l:List Int)(p:Int->Bool)(hl:l.length<9223372036854775808)(hk:n4 σ f)(h:∀ x∈l,fZ T f [.int .i64 x] σ (.bool (p x))):fZ T (.func 356 [] []) [ints l,f] σ (.bool (l.any p)):=by
 refine dH (af:=LM) rfl (by simp[LM]) ?_;try simp only[↓QA,QB,seval,LM]
 refine bI (zG σ f l p hl hk h) ?_;try simp only[↓QA,QB,seval]
 refine cS [] (by first|rfl|simp) ?_;rw[<-nK p l 0];try simp only[QS,QC,seval]
def gV(lo hi n:Int):Bool:=decide (n<lo)||decide (hi<n)
theorem OW(lo hi n:Int):fZ T (.func 413 [] [.ptr 0 0,.ptr 1 0]) [.int .i64 n] [.cells [.int .i64 lo],.cells [.int .i64 hi]] (.bool (gV lo hi n)):=by
 refine dH (af:=aBG) rfl (by simp[aBG]) ?_;try simp only[↓QA,QB,seval,aBG]
 refine aE (fun h=>?_) fun h=>?_
 all_goals
  try simp only[↓QA,QB,seval,h]
  refine cS [] (by first|rfl|simp) ?_;try simp only[QS,QC,seval,gV,h]
  try simp
def j9(lo hi:Int)(ns:List Int):Bool:=ns.any (gV lo hi)
theorem gC(lo hi:Int)(ns:List Int)(hl:ns.length<9223372036854775808):cY T 295 [.int .i64 lo,.int .i64 hi,ints ns] (.bool (j9 lo hi ns)):=by
 refine aV (af:=X4) rfl (by simp[X4]) dd ?_;try simp only[↓QA,QB,seval,X4]
 refine bI (m6 _ _ ns (gV lo hi) hl (fun τ=>?_) fun x _=>OW lo hi x) ?_
 ·try simp only[QS,QC,seval]
 ·try simp only[↓QA,QB,seval,j9]
theorem G6(lo hi n:Int):fZ T (.func 378 [] [.ptr 0 0,.ptr 1 0]) [.int .i64 n] [.cells [.int .i64 lo],.cells [.int .i64 hi]] (.bool (gV lo hi n)):=by
 refine dH (af:=aAK) rfl (by simp[aAK]) ?_;try simp only[↓QA,QB,seval,aAK]
 refine aE (fun h=>?_) fun h=>?_
 all_goals
  try simp only[↓QA,QB,seval,h]
  refine cS [] (by first|rfl|simp) ?_;try simp only[QS,QC,seval,gV,h]
  try simp
theorem jE(lo hi:Int)(ns:List Int)(hl:ns.length<9223372036854775808):cY T 244 [.int .i64 lo,.int .i64 hi,ints ns] (.bool (j9 lo hi ns)):=by
 refine aV (af:=ZM) rfl (by simp[ZM]) dd ?_;try simp only[↓QA,QB,seval,ZM]
 refine bI (m6 _ _ ns (gV lo hi) hl (fun τ=>?_) fun x _=>G6 lo hi x) ?_
 ·try simp only[QS,QC,seval]
 ·try simp only[↓QA,QB,seval,j9]
theorem zU (s:ByteArray):∀ n k,k≤n→mV s k=false→mV s n=false
  | 0, k, h, h1 => by have : k = 0 := by omega
                      subst this;exact h1
  |n+1,k,h,h1=>by
    by_cases hk:k=n+1
    · subst hk;exact h1
    · simp [mV,zU s n k (by omega) h1]
theorem lE(lo hi n:Int):j9 lo hi [n] = !inR n lo hi:=by
 rw[Bool.eq_iff_iff];simp[j9,gV,inR]
theorem aFC(lo hi n m:Int):j9 lo hi [n,m]=(!inR n lo hi||!inR m lo hi):=by
 rw[Bool.eq_iff_iff];simp[j9,gV,inR]
theorem zI(s:ByteArray)(hs:s.size<9223372036854775808):cY T 111 [.str s] (.bool (yA s)):=by
 refine aV (af:=aC2) rfl (by simp[aC2]) dd ?_;try simp only[↓QA,QB,seval,aC2]
 refine cI (S:=Nat) 0 (fun k=>k<=s.size/\mV s k=true) (fun k=>s.size-k) (fun k=>[(0,.str s),(7,.ptr 0 0)]) (fun k=>[.siter s k]) ⟨Nat.zero_le _,rfl⟩ rfl ?_ fun k hk=>?_
 ·try simp only[aB,QE,seval]
  try simp
 ·obtain⟨hkl,hok⟩:=hk;by_cases hk1:k<s.size
  ·obtain⟨R,hR⟩:∃ R:Int,((Utf8.decode s k).1:Int)=R:=⟨_,rfl⟩;obtain⟨W,hW⟩:∃ W,(Utf8.decode s k).2=W:=⟨_,rfl⟩;have hstep:mV s (k+1)=HF k (iT s k):=by simp[mV,hok]
   have hbl:=TS s k;have key:(97<=R/\R<=122\/0<k/\(R=46\/48<=R/\R<=57))->W=1/\mV s (k+1)=true:=by
    intro h;by_cases hb:iT s k<128
    ·have:=wI hk1 hb;rw[this] at hR hW;have hR':R=iT s k:=by simp at hR;omega
     refine⟨hW.symm,?_⟩;rw[hstep,HF,<-hR'];simp[inR];omega
    ·have:=IL hk1 (by omega);omega
   have key2:¬(97<=R/\R<=122\/0<k/\(R=46\/48<=R/\R<=57))->yA s=false:=by
    intro h;have:mV s (k+1)=false:=by
     rw[hstep,HF];by_cases hb:iT s k<128
     ·have:=wI hk1 hb;rw[this] at hR hW;have hR':R=iT s k:=by simp at hR;omega
      rw[<-hR'];simp[inR];omega
     ·simp[inR];omega
    simp[yA,zU s s.size (k+1) (by omega) this]
   have go:∀ (e:Env),W=1/\mV s (k+1)=true->Env.get e 0 = .str s->Env.get e 7 = .ptr 0 0->∃ s',(s'<=s.size/\mV s s'=true)/\s.size-s'<s.size-k/\aB [.siter s k] e [.siter s (k+W)] [(0,.str s),(7,.ptr 0 0)] [.siter s s']:=by
    intro e h e0 e7;refine⟨k+1,⟨by omega,h.2⟩,by omega,?_⟩;try simp only[aB,QE,seval,e0,e7,h.1]
    try simp[aL]
   try simp only[↓QA,QB,seval,OE,VV hk1,hR,hW]
   cases h1:decide (97<=R)
   ·have h1':¬97<=R:=by simpa using h1
    try simp only[↓QA,QB,seval,h1]
    cases h3:((k:Int)==0)
    ·have h3':0<k:=by simp at h3;omega
     try simp only[↓QA,QB,seval,h3]
     cases h4:(R==46)
     ·have h4':R≠46:=by simpa using h4
      try simp only[↓QA,QB,seval,h4]
      cases h5:decide (R<48)
      ·have h5':¬R<48:=by simpa using h5
       try simp only[↓QA,QB,seval,h5]
       cases h6:decide (57<R)
       ·have h6':¬57<R:=by simpa using h6
        try simp only[↓QA,QB,seval,h6]
        exact go _ (key (by omega)) (by try simp only[aB,QE,seval]) (by try simp only[aB,QE,seval])
       ·have h6':57<R:=by simpa using h6
        rw[key2 (by omega)];try simp only[↓QA,QB,seval,h6]
      ·have h5':R<48:=by simpa using h5
       rw[key2 (by omega)];try simp only[↓QA,QB,seval,h5]
     ·have h4':R=46:=by simpa using h4
      try simp only[↓QA,QB,seval,h4]
      exact go _ (key (by omega)) (by try simp only[aB,QE,seval]) (by try simp only[aB,QE,seval])
    ·have h3':k=0:=by simp at h3;omega
     rw[key2 (by omega)];try simp only[↓QA,QB,seval,h3]
   ·have h1':97<=R:=by simpa using h1
    try simp only[↓QA,QB,seval,h1]
    cases h2:decide (R<=122)
    ·have h2':¬R<=122:=by simpa using h2
     try simp only[↓QA,QB,seval,h2]
     cases h3:((k:Int)==0)
     ·have h3':0<k:=by simp at h3;omega
      try simp only[↓QA,QB,seval,h3]
      cases h4:(R==46)
      ·have h4':R≠46:=by simpa using h4
       try simp only[↓QA,QB,seval,h4]
       cases h5:decide (R<48)
       ·have h5':¬R<48:=by simpa using h5
        try simp only[↓QA,QB,seval,h5]
        cases h6:decide (57<R)
        ·have h6':¬57<R:=by simpa using h6
         try simp only[↓QA,QB,seval,h6]
         exact go _ (key (by omega)) (by try simp only[aB,QE,seval]) (by try simp only[aB,QE,seval])
        ·have h6':57<R:=by simpa using h6
         rw[key2 (by omega)];try simp only[↓QA,QB,seval,h6]
       ·have h5':R<48:=by simpa using h5
        rw[key2 (by omega)];try simp only[↓QA,QB,seval,h5]
      ·have h4':R=46:=by simpa using h4
       try simp only[↓QA,QB,seval,h4]
       exact go _ (key (by omega)) (by try simp only[aB,QE,seval]) (by try simp only[aB,QE,seval])
     ·have h3':k=0:=by simp at h3;omega
      rw[key2 (by omega)];try simp only[↓QA,QB,seval,h3]
    ·have h2':R<=122:=by simpa using h2
     try simp only[↓QA,QB,seval,h2]
     exact go _ (key (by omega)) (by try simp only[aB,QE,seval]) (by try simp only[aB,QE,seval])
  ·have hk2:k=s.size:=by omega
   try simp only[↓QA,QB,seval,OE,aCJ hk1]
   (refine bH (jE 1 16 [(s.size:Int)] (by simp)) (by simp[clr,clrs,ints]) (by simp[okV,okVs]) ?_;try simp only[↓QA,QB,seval])
   rw[lE];try simp only[↓QA,QB,seval]
   simp[yA,<-hk2,hok]
def aQ{α:Type}(dJ most:Int)(of:Nat->α->Int)(l:List α):Int×Int:=if inR l.length dJ most=false then (0,3) else match aK of l 0 with|some (i,e)=>(i,e)|none=>(0,0)
def fT(x:Int×Int):AV:=.tuple [.int .i64 x.1,.int .i64 x.2]
theorem DK{α:Type}(f:α->ByteArray)(s:ByteArray):∀ l:List α,l.any (fun x=>decide (f x=s))=decide (zJ s (l.map f)≠(l.map f).length)
 |[]=>by simp[zJ]
 |x::xs=>by
  simp only[List.any_cons,DK f s xs,List.map_cons,zJ,List.length_cons];by_cases h:f x=s
  ·simp[h]
  ·simp[h]
end Go.Am.Room.Do
