/- A part of the proof of TopDoors: an abstract machine, or what functions come to on it. -/
import GoSem.Dispatch
import Derived.RangeFuncLeaves
import Derived.OrdersIn
import Derived.Laws.AppendOwn
import Derived.Laws.CopyRow
import Derived.Laws.Rows
import Derived.Below
import Derived.Laws.Entries
open Nat (reduceLT reduceEqDiff reduceAdd reduceLeDiff reduceMul)
set_option linter.unusedVariables false
set_option linter.unusedSimpArgs false
set_option linter.defProp false
namespace Go.Am
theorem zz {a b:Prop} (x:a) (y:b):a∧b:=⟨x,y⟩
inductive AV where
 |undef
 |int (k:IntKind) (n:Int)
 |bool (b:Bool)
 |str (s:ByteArray)
 |func (f:FuncId) (first cap:List AV)
 |nilFunc
 |yield (id:Nat)
 |ptr (id off:Nat)
 |nilPtr
 /-- into the i-th element of a list,of the token's block -/
 |lptr (xs:List AV) (i off:Nat) (tk:Option Nat)
 /-- a slice that reads az a list;'full': its capacity is its length;'tk': the token of its block,if it is known to have one -/
 |lit (xs:List AV) (full:Bool) (tk:Option Nat)
 |ref (id off len sz:Nat)
 |map (id:Nat)
 |nilMap
 |agg (cells:List AV)
 |tuple (vs:List AV)
 deriving Inhabited
def AV.cells:AV->List AV
 |.agg cs=>cs
 |v=>[v]
def AV.cell:AV->Bool
 |.undef|.agg _|.tuple _=>false
 |_=>true
inductive SK where
 |i|b|s
 deriving DecidableEq,Repr,Inhabited
inductive EqTy where
 |one (k:SK)
 |agg (ks:List SK)
 deriving DecidableEq,Repr,Inhabited
abbrev Env:=List (Nat×AV)
def Env.get:Env->Nat->AV
 |[],_=>.undef
 |(k,v)::e,t=>if k=t then v else Env.get e t
def Env.put(e:Env)(d:Option Nat)(v:AV):Env :=
 match d with
 |some d=>(d,v)::e
 |none=>e
inductive AOpd where
 |t (n:Nat)
 |c (v:AV)
 deriving Inhabited
def AOpd.ev(e:Env):AOpd->AV
 |.t n=>Env.get e n
 |.c v=>v
inductive AOp where
 |mov (x:AOpd)
 |pick (c a b:AOpd)
 |alloc (zero:List AV)
 |box (n:Nat) (x:AOpd)
 |build (zero:List AV) (parts:List (Nat×Nat×AOpd))
 |mklit (sz:Nat) (xs:List AOpd)
 |mkref (sz:Nat) (xs:List AOpd)
 |load (sh:Option Nat) (x:AOpd)
 |store (n:Nat) (a x:AOpd)
 |nilCheck (x:AOpd)
 |bin (op:BinOp) (x y:AOpd)
 |eql (sh:EqTy) (neg:Bool) (x y:AOpd)
 |not (x:AOpd)
 |neg (x:AOpd)
 |conv (k:IntKind) (x:AOpd)
 |mkfun (f:FuncId) (first cap:List AOpd)
 |mkmap
 |mkslice (zero:List AV) (bytes:Nat) (l c:AOpd)
 |slicev (sz:Nat) (x:AOpd) (lo hi mx:Option AOpd)
 |slicea (n sz:Nat) (x:AOpd) (lo hi:Option AOpd)
 |faddr (x:AOpd) (off:Nat)
 |field (x:AOpd) (off:Nat) (sh:Option Nat)
 |iaddr (arr:Option Nat) (sz:Nat) (x i:AOpd)
 |index (len sz:Nat) (sh:Option Nat) (x i:AOpd)
 |sindex (x i:AOpd)
 |lookup (sh:EqTy) (ok:Bool) (zero:AV) (m k:AOpd)
 |mapset (sh:EqTy) (m k v:AOpd)
 |srange (x:AOpd)
 |snext (x:AOpd)
 |mrange (x:AOpd)
 |mnext (x:AOpd)
 |entry (x:AOpd)
 |ext (x:AOpd) (i:Nat)
 /-- of a string (0),a slice (1),a map (2) -/
 |len (k:Nat) (x:AOpd)
 |append (sz bytes:Nat) (x y:AOpd)
 |apref (sz bytes:Nat) (x y:AOpd)
 |copy (sz:Nat) (x y:AOpd)
 |min (xs:List AOpd)
 |max (xs:List AOpd)
 |call (f:AOpd) (args:List AOpd)
 deriving Inhabited
structure AOper where
 dst:Option Nat
 op:AOp
 /-- the temporary that must hold this bool -/
 guard:Option (Nat×Bool)
 deriving Inhabited
structure ADOper where
 o:AOper
 lo:Nat
 hi:Nat
 deriving Inhabited
inductive AJump where
 |ret
 |exit (id:Nat)
 deriving DecidableEq,Repr,Inhabited
inductive ACode where
 |skip
 |reg (ops:List AOper)
 |dreg (ops:List ADOper)
 |seq (a b:ACode)
 |cond (c:AOpd) (a b:ACode)
 |block (id:Nat) (b:ACode)
 |loop (b:ACode)
 |rangeFunc (f:AOpd) (params:List Nat) (assign body:ACode)
 |jump (j:AJump)
 |scope (b:ACode)
 deriving Inhabited
inductive LS where
 |ready|busy|done
 deriving DecidableEq,Repr,Inhabited
inductive ABlk where
 |cells (cs:List AV)
 |map (es:List (AV×AV))
 /-- a token: the size of an element,how many elements the slice has that may sL,and whether its block is no one else's -/
 |tok (sz n:Nat) (excl:Bool)
 |siter (s:ByteArray) (pos:Nat)
 /-- an iterator over a map that had so many entries: the places of those that are to come,and of the last one -/
 |miter (m n:Nat) (left:List Nat) (last:Option Nat)
 |loop (st:LS) (pend:Option AJump) (env:Env) (params:List Nat) (assign body:ACode)
 |dead
 deriving Inhabited
abbrev St:=List ABlk
inductive ARes where
 |tmp (t:Nat)
 |cell (t:Nat) (sh:Option Nat)
 deriving Inhabited
structure AFunc where
 ntmps:Nat
 results:List ARes
 body:ACode
 deriving Inhabited
def cU(sh:Option Nat)(cs:List AV)(off:Nat):Option AV :=
 match sh with
 |none=>cs[off]?
 |some n=>if off+n<=cs.length then some (.agg ((cs.drop off).take n)) else none
def dF(cs:List AV)(off:Nat)(vs:List AV):Option (List AV) :=
 if off+vs.length<=cs.length then some (cs.take off++vs++cs.drop (off+vs.length)) else none
def eV:SK->AV->AV->Option Bool
 |.i,.int k a,.int k' b=>if k=k' then some (a==b) else none
 |.b,.bool a,.bool b=>some (a==b)
 |.s,.str a,.str b=>some (a.toList==b.toList)
 |_,_,_=>none
def aU:List SK->List AV->List AV->Option Bool
 |[],[],[]=>some true
 |k::ks,a::x,b::y =>
  match eV k a b,aU ks x y with
  |some p,some q=>some (p&&q)
  |_,_=>none
 |_,_,_=>none
def gK:EqTy->AV->AV->Option Bool
 |.one k,x,y=>eV k x y
 |.agg ks,.agg cs,.agg ds=>aU ks cs ds
 |_,_,_=>none
def bits(op:BinOp)(k:IntKind)(x y:Int):Int :=
 let a:=BitVec.ofInt k.bits x
 let b:=BitVec.ofInt k.bits y
 match op with
 |.and=>k.wrap (a &&& b).toNat
 |.or=>k.wrap (a|||b).toNat
 |.xor=>k.wrap (a ^^^ b).toNat
 |_=>k.wrap (a &&& ~~~b).toNat
def eJ(op:BinOp)(k:IntKind)(a b:Int):Option AV :=
 match op with
 |.add=>some (.int k (k.wrap (a+b)))
 |.sub=>some (.int k (k.wrap (a-b)))
 |.mul=>some (.int k (k.wrap (a*b)))
 |.quo=>if b=0 then none else some (.int k (k.wrap (a.tdiv b)))
 |.rem=>if b=0 then none else some (.int k (a.tmod b))
 |.and=>some (.int k (bits .and k a b))
 |.or=>some (.int k (bits .or k a b))
 |.xor=>some (.int k (bits .xor k a b))
 |.andNot=>some (.int k (bits .andNot k a b))
 |.lss=>some (.bool (decide (a<b)))
 |.leq=>some (.bool (decide (a<=b)))
 |.gtr=>some (.bool (decide (a > b)))
 |.geq=>some (.bool (decide (a>=b)))
 |_=>none
def cA(op:BinOp)(x y:AV):Option AV :=
 match x,y with
 |.int k a,.int k' b =>
  match op with
  |.shl=>if b<0 then none else some (.int k (k.wrap (a*2^(Nat.min b.toNat k.bits))))
  |.shr=>if b<0 then none else some (.int k (a.fdiv (2^(Nat.min b.toNat k.bits))))
  |op=>if k=k' then eJ op k a b else none
 |_,_=>none
def eE:AV->Option Int
 |.int _ n=>some n
 |_=>none
def bE(e:Env)(d:Nat):Option AOpd->Option Int
 |none=>some d
 |some x=>eE (x.ev e)
def aF(n:Nat)(xs:List AV):Bool:=xs.all fun x=>x.cells.length==n&&x.cells.all (·.cell)
def pW(n:Nat):AV->Bool
 |.ref _ _ _ sz=>sz==n
 |_=>true
def bQ(e:Env)(cs:List AV):List (Nat×Nat×AOpd)->Option (List AV)
 |[]=>some cs
 |(off,n,x)::rest =>
  if ((x.ev e).cells.length==n&&(x.ev e).cells.all (·.cell))=true then
   match dF cs off (x.ev e).cells with
   |some cs=>bQ e cs rest
   |none=>none
  else none
def aL(σ:St)(id:Nat):Option (List AV) :=
 match σ[id]? with
 |some (.cells cs)=>some cs
 |_=>none
def BL(sz:Nat):Nat->List AV->List AV
 |0,_=>[]
 |n+1,cs=>(if sz=1/\(cs.headD .undef).cell=true then cs.headD .undef else .agg (cs.take sz))::BL sz n (cs.drop sz)
def kT(σ:St):AV->Option (List AV)
 |.lit xs _ _=>some xs
 |.ref id off len sz =>
  match aL σ id with
  |some cs=>if off+len*sz<=cs.length then some (BL sz len (cs.drop off)) else none
  |none=>none
 |_=>none
def findKey(sh:EqTy)(k:AV):List (AV×AV)->Option (Option AV)
 |[]=>some none
 |(k',v)::es =>
  match gK sh k k' with
  |some true=>some (some v)
  |some false=>findKey sh k es
  |none=>none
def mE(sh:EqTy)(k v:AV):List (AV×AV)->Option (List (AV×AV))
 |[]=>some [(k,v)]
 |(k',v')::es =>
  match gK sh k k' with
  |some true=>some ((k,v)::es)
  |some false=>(mE sh k v es).map ((k',v')::·)
  |none=>none
def tR(sh:EqTy)(σ:St)(m k:AV):Option (Option AV) :=
 match m with
 |.nilMap=>if (gK sh k k).isSome=true then some none else none
 |.map id =>
  match σ[id]? with
  |some (.map es)=>if (gK sh k k).isSome=true then findKey sh k es else none
  |_=>none
 |_=>none
def gZ(sh:Option Nat)(σ:St):AV->Option AV
 |.ptr id off =>
  match aL σ id with
  |some cs=>cU sh cs off
  |none=>none
 |.lptr xs i off _ =>
  match xs[i]? with
  |some x=>cU sh x.cells off
  |none=>none
 |_=>none
def i5(n:Nat)(σ:St)(a v:AV):Option St :=
 match a with
 |.ptr id off =>
  if (v.cells.length==n&&v.cells.all (·.cell))=true then
   match aL σ id with
   |some cs =>
    match dF cs off v.cells with
    |some cs'=>some (σ.set id (.cells cs'))
    |none=>none
   |none=>none
  else none
 |_=>none
def yN(sz:Nat)(xs:List AV)(l h:Int):Bool :=
 decide (l=h)||(match xs[l.toNat]? with|some x=>x.cells.length==sz|none=>false)
def kV(sz:Nat)(x:AV)(l h:Int)(full:Bool):Option AV :=
 match x with
 |.lit xs fl tk =>
  if 0<=l/\l<=h/\h<=xs.length/\yN sz xs l h=true then
   some (.lit ((xs.drop l.toNat).take (h.toNat-l.toNat)) (full||(fl&&decide (h=xs.length))) tk)
  else none
 |.ref id off len sz' =>
  if 0<=l/\l<=h/\h<=len/\sz'=sz then some (.ref id (off+l.toNat*sz) (h.toNat-l.toNat) sz) else none
 |_=>none
def gD(k:Nat)(σ:St)(x:AV):Option Nat :=
 match k,x with
 |0,.str s=>some s.size
 |1,.lit xs _ _=>some xs.length
 |1,.ref _ _ len _=>some len
 |2,.nilMap=>some 0
 |2,.map id=>match σ[id]? with|some (.map es)=>some es.length|_=>none
 |_,_=>none
def room:Nat:=2^47
def bT(sz bytes:Nat)(σ:St)(x y:AV):Option (AV×St) :=
 match x,kT σ y with
 |.lit xs full tk,some ys =>
  if ys.length=0 then some (.lit xs full tk,σ) else
  if (pW sz y&&aF sz xs&&aF sz ys&&decide ((xs.length+ys.length)*bytes<=room)&&decide (xs.length+ys.length<=room))=true then
   if full=true then some (.lit (xs++ys) false (some σ.length),σ++[.tok sz (xs.length+ys.length) true])
   else
    match tk with
    |some t =>
     match σ[t]? with
     |some (.tok sz' n _)=>if sz'=sz/\n=xs.length then some (.lit (xs++ys) false (some t),σ.set t (.tok sz (xs.length+ys.length) true)) else none
     |_=>none
    |none=>none
  else none
 |_,_=>none
def pC(sz bytes:Nat)(σ:St)(x y:AV):Option (AV×St) :=
 match x,kT σ y with
 |.lit xs full tk,some ys =>
  if ys.length=0 then some (.lit xs full tk,σ) else
  if (full&&pW sz y&&aF sz (xs++ys)&&decide ((xs.length+ys.length)*bytes<=room)&&decide (xs.length+ys.length<=room))=true then
   some (.ref σ.length 0 (xs.length+ys.length) sz,σ++[.cells ((xs++ys).flatMap AV.cells)])
  else none
 |_,_=>none
def pH(sz:Nat)(σ:St)(x y:AV):Option (AV×St) :=
 match x,kT σ y with
 |.ref id off len sz',some ys =>
  let zs:=ys.take len
  if (decide (sz'=sz)&&pW sz y&&aF sz ys)=true then
   match aL σ id with
   |some cs =>
    match dF cs off (zs.flatMap AV.cells) with
    |some cs'=>some (.int .i64 (Nat.min ys.length len),σ.set id (.cells cs'))
    |none=>none
   |none=>none
  else none
 |_,_=>none
def sI(k:IntKind)(a:Int):List AV->Option AV
 |[]=>some (.int k a)
 |.int k' b::rest=>if k'=k then sI k (if b<a then b else a) rest else none
 |_=>none
def xB:List AV->Option AV
 |.int k a::rest=>sI k a rest
 |_=>none
def rX(k:IntKind)(a:Int):List AV->Option AV
 |[]=>some (.int k a)
 |.int k' b::rest=>if k'=k then rX k (if b > a then b else a) rest else none
 |_=>none
def w4:List AV->Option AV
 |.int k a::rest=>rX k a rest
 |_=>none
def aop(op:AOp)(e:Env)(σ:St):Option (AV×St) :=
 match op with
 |.mov x=>some (x.ev e,σ)
 |.pick c a b=>match c.ev e with|.bool true=>some (a.ev e,σ)|.bool false=>some (b.ev e,σ)|_=>none
 |.alloc zero=>some (.ptr σ.length 0,σ++[.cells zero])
 |.box n x=>if ((x.ev e).cells.length==n&&(x.ev e).cells.all (·.cell))=true then some (.ptr σ.length 0,σ++[.cells (x.ev e).cells]) else none
 |.build zero parts=>match bQ e zero parts with|some cs=>some (.agg cs,σ)|none=>none
 |.mklit sz xs=>if aF sz (xs.map (·.ev e))=true then some (.lit (xs.map (·.ev e)) true none,σ) else none
 |.mkref sz xs=>if aF sz (xs.map (·.ev e))=true then some (.ref σ.length 0 xs.length sz,σ++[.cells ((xs.map (·.ev e)).flatMap AV.cells)]) else none
 |.load sh x=>match gZ sh σ (x.ev e) with|some v=>some (v,σ)|none=>none
 |.store n a x=>match i5 n σ (a.ev e) (x.ev e) with|some σ'=>some (.tuple [],σ')|none=>none
 |.nilCheck x=>match x.ev e with|.ptr i o=>some (.ptr i o,σ)|.lptr xs i o t=>some (.lptr xs i o t,σ)|.func f a b=>some (.func f a b,σ)|.yield i=>some (.yield i,σ)|_=>none
 |.bin op x y=>match cA op (x.ev e) (y.ev e) with|some v=>some (v,σ)|none=>none
 |.eql sh neg x y=>match gK sh (x.ev e) (y.ev e) with|some b=>some (.bool (if neg then !b else b),σ)|none=>none
 |.not x=>match x.ev e with|.bool b=>some (.bool !b,σ)|_=>none
 |.neg x=>match x.ev e with|.int k n=>some (.int k (k.wrap (0-n)),σ)|_=>none
 |.conv k x=>match x.ev e with|.int _ n=>some (.int k (k.wrap n),σ)|_=>none
 |.mkfun f first cap=>some (.func f (first.map (·.ev e)) (cap.map (·.ev e)),σ)
 |.mkmap=>some (.map σ.length,σ++[.map []])
 |.mkslice zero bytes l c =>
  match l.ev e,c.ev e with
  |.int _ n,.int _ m=>if 0<=n/\n=m/\n*bytes<=room/\n<=room then some (.ref σ.length 0 n.toNat zero.length,σ++[.cells (List.replicate n.toNat zero).flatten]) else none
  |_,_=>none
 |.slicev sz x lo hi mx =>
  match gD 1 σ (x.ev e) with
  |none=>none
  |some n =>
   match bE e 0 lo,bE e n hi,mx.map (fun m=>eE (m.ev e)) with
   |some l,some h,none=>(match kV sz (x.ev e) l h false with|some v=>some (v,σ)|none=>none)
   |some l,some h,some (some m)=>if m=h/\hi.isSome=true then (match kV sz (x.ev e) l h true with|some v=>some (v,σ)|none=>none) else none
   |_,_,_=>none
 |.slicea n sz x lo hi =>
  match x.ev e,bE e 0 lo,bE e n hi with
  |.ptr id off,some l,some h=>if 0<=l/\l<=h/\h<=n then some (.ref id (off+l.toNat*sz) (h.toNat-l.toNat) sz,σ) else none
  |_,_,_=>none
 |.faddr x off=>match x.ev e with|.ptr id o=>some (.ptr id (o+off),σ)|.lptr xs i o t=>some (.lptr xs i (o+off) t,σ)|_=>none
 |.field x off sh=>match x.ev e with|.agg cs=>(match cU sh cs off with|some v=>some (v,σ)|none=>none)|_=>none
 |.iaddr arr sz x i =>
  match eE (i.ev e),arr,x.ev e with
  |some j,some n,.ptr id off=>if 0<=j/\j<n then some (.ptr id (off+j.toNat*sz),σ) else none
  |some j,some n,.lptr xs q off t=>if 0<=j/\j<n then some (.lptr xs q (off+j.toNat*sz) t,σ) else none
  |some j,none,.lit xs _ t =>
   match xs[j.toNat]? with
   |some y=>if 0<=j/\y.cells.length=sz then some (.lptr xs j.toNat 0 t,σ) else none
   |none=>none
  |some j,none,.ref id off len sz'=>if 0<=j/\j<len/\sz'=sz then some (.ptr id (off+j.toNat*sz),σ) else none
  |_,_,_=>none
 |.index n sz sh x i =>
  match eE (i.ev e),x.ev e with
  |some j,.agg cs=>if 0<=j/\j<n then (match cU sh cs (j.toNat*sz) with|some v=>some (v,σ)|none=>none) else none
  |_,_=>none
 |.sindex x i =>
  match eE (i.ev e),x.ev e with
  |some j,.str s=>if 0<=j then (match s[j.toNat]? with|some b=>some (.int .u8 b.toNat,σ)|none=>none) else none
  |_,_=>none
 |.lookup sh ok zero m k =>
  match tR sh σ (m.ev e) (k.ev e) with
  |some (some v)=>some (if ok then .tuple [v,.bool true] else v,σ)
  |some none=>some (if ok then .tuple [zero,.bool false] else zero,σ)
  |none=>none
 |.mapset sh m k v =>
  match m.ev e with
  |.map id =>
   if (gK sh (k.ev e) (k.ev e)).isSome=false then none else
   match σ[id]? with
   |some (.map es)=>(match mE sh (k.ev e) (v.ev e) es with|some es'=>some (.tuple [],σ.set id (.map es'))|none=>none)
   |_=>none
  |_=>none
 |.srange x=>match x.ev e with|.str s=>some (.ptr σ.length 0,σ++[.siter s 0])|_=>none
 |.snext x =>
  match x.ev e with
  |.ptr id 0 =>
   match σ[id]? with
   |some (.siter s pos) =>
    if pos<s.size then
     some (.tuple [.bool true,.int .i64 pos,.int .i32 (Utf8.decode s pos).1],σ.set id (.siter s (pos+(Utf8.decode s pos).2)))
    else some (.tuple [.bool false],σ)
   |_=>none
  |_=>none
 |.mrange x =>
  match x.ev e with
  |.map id=>(match σ[id]? with|some (.map es)=>some (.ptr σ.length 0,σ++[.miter id es.length (List.range es.length) none])|_=>none)
  |_=>none
 |.mnext _=>none
 |.entry x =>
  match x.ev e with
  |.ptr id 0 =>
   match σ[id]? with
   |some (.miter m n _ (some i)) =>
    match σ[m]? with
    |some (.map es) =>
     if es.length=n then
      match es[i]? with
      |some (k,v)=>some (.tuple [k,v],σ)
      |none=>none
     else none
    |_=>none
   |_=>none
  |_=>none
 |.ext x i=>match x.ev e with|.tuple vs=>(match vs[i]? with|some v=>some (v,σ)|none=>none)|_=>none
 |.len k x=>match gD k σ (x.ev e) with|some n=>some (.int .i64 n,σ)|none=>none
 |.append sz bytes x y=>bT sz bytes σ (x.ev e) (y.ev e)
 |.apref sz bytes x y=>pC sz bytes σ (x.ev e) (y.ev e)
 |.copy sz x y=>pH sz σ (x.ev e) (y.ev e)
 |.min xs=>match xB (xs.map (·.ev e)) with|some v=>some (v,σ)|none=>none
 |.max xs=>match w4 (xs.map (·.ev e)) with|some v=>some (v,σ)|none=>none
 |.call _ _=>none
mutual
def okV (m:Nat):AV->Prop
 |.func _ first cap=>okVs m first/\okVs m cap
 |.yield id|.ptr id _|.ref id _ _ _|.map id=>id<m
 |.lptr xs _ _ tk|.lit xs _ tk=>(∀ t,tk=some t->t<m)/\okVs m xs
 |.agg cs=>okVs m cs
 |.tuple vs=>okVs m vs
 |_=>True
def okVs (m:Nat):List AV->Prop
 |[]=>True
 |v::vs=>okV m v/\okVs m vs
end
def aO(m:Nat):ABlk->Prop
 |.cells cs=>okVs m cs
 |.map es=>∀ p∈es,okV m p.1/\okV m p.2
 |.tok _ _ _|.siter _ _|.dead=>True
 |.miter id _ _ _=>id<m
 |.loop _ _ _ _ _ _=>False
mutual
def snap (σ:St) (m:Nat):Nat->AV->Option AV
 |d,.func f first cap=>match snaps σ m d first,snaps σ m d cap with|some a,some b=>some (.func f a b)|_,_=>none
 |_,.yield id=>if id<m then some (.yield id) else none
 |_,.ptr id off=>if id<m then some (.ptr id off) else none
 |_,.map id=>if id<m then some (.map id) else none
 |0,.ref id off len sz=>if id<m then some (.ref id off len sz) else none
 |d+1,.ref id off len sz =>
  if id<m then some (.ref id off len sz) else
  match kT σ (.ref id off len sz) with
  |some xs=>if (decide (0<sz)&&aF sz xs)=true then (match snaps σ m d xs with|some ys=>some (.lit ys false none)|none=>none) else none
  |none=>none
 |d,.lit xs full tk =>
  match snaps σ m d xs with
  |some ys=>some (.lit ys full (tk.filter (· < m)))
  |none=>none
 |d,.agg cs=>match snaps σ m d cs with|some ys=>some (.agg ys)|none=>none
 |d,.tuple vs=>match snaps σ m d vs with|some ys=>some (.tuple ys)|none=>none
 |d,.lptr xs i off tk=>match snaps σ m d xs with|some ys=>some (.lptr ys i off (tk.filter (· < m)))|none=>none
 |_,v=>some v
termination_by d v=>(d,SizeOf.sizeOf v)
def snaps (σ:St) (m:Nat):Nat->List AV->Option (List AV)
 |_,[]=>some []
 |d,v::vs=>match snap σ m d v,snaps σ m d vs with|some a,some b=>some (a::b)|_,_=>none
termination_by d vs=>(d,SizeOf.sizeOf vs)
end
structure Out where
 j:Option AJump
 env:Env
 σ:St
 v:AV
structure ARead where
 lo:Nat
 hi:Nat
 op:AOp
 env:Env
 v:AV
inductive Task where
 |code (c:ACode) (env:Env) (σ:St)
 |ops (os:List AOper) (env:Env) (σ:St)
 |dops (os:List ADOper) (env:Env) (σ:St) (next:Nat) (hist:List St) (reads:List ARead)
 |call (f:FuncId) (args:List AV) (σ:St)
 |callv (f:AV) (args:List AV) (σ:St)
 |chain (az:List ACode) (env:Env) (σ:St)
def AOper.wanted(o:AOper)(env:Env):Option Bool :=
 match o.guard with
 |none=>some true
 |some (t,want) =>
  match Env.get env t with
  |.bool b=>some (b==want)
  |.tuple []=>some false
  |_=>none
def cG(os:List ADOper):List ABlk :=
 os.filterMap fun o=>match o.o.op with|.alloc z=>some (.cells z)|_=>none
def ARead.ok(r:ARead)(hist:List St):Prop :=
 ∀ j s,r.lo<=j->j<=r.hi->hist[j]? = some s->aop r.op r.env s=some (r.v,s)
def AOp.reads:AOp->Bool
 |.load ..|.lookup ..|.len ..|.slicev ..|.entry _=>true
 |_=>false
def AOp.allocs:AOp->Bool
 |.alloc _=>true
 |_=>false
def AOp.calls:AOp->Bool
 |.call ..|.mnext _=>true
 |_=>false
def AOp.acts:AOp->Bool
 |.store ..|.append ..|.apref ..|.mkref ..|.copy ..|.box ..|.mkmap|.mkslice ..|.mapset ..|.srange _|.snext _|.mrange _|.mnext _|.call ..=>true
 |_=>false
def dX:Nat->List AV->Env
 |_,[]=>[]
 |k,v::vs=>(k,v)::dX (k+1) vs
def gX(env:Env)(σ:St):List ARes->Option (List AV)
 |[]=>some []
 |.tmp t::rs=>(gX env σ rs).map (Env.get env t::·)
 |.cell t sh::rs =>
  match gZ sh σ (Env.get env t),gX env σ rs with
  |some v,some vs=>some (v::vs)
  |_,_=>none
def eQ(rs:List ARes)(env:Env)(σ:St):Option AV :=
 match gX env σ rs with
 |some [v]=>some v
 |some vs=>some (.tuple vs)
 |none=>none
def dN(σ σ':St)(m i:Nat):Prop :=
 σ'[i]? = σ[i]?\/(∃ b,σ'[i]? = some b/\aO m b) \/
  ∃ st pe st' pe' env ps a b,σ[i]? = some (.loop st pe env ps a b)/\σ'[i]? = some (.loop st' pe' env ps a b)
mutual
def clr:AV->AV
 |.func f a b=>.func f (clrs a) (clrs b)
 |.lptr xs i off tk=>.lptr (clrs xs) i off tk
 |.lit xs full tk=>.lit (clrs xs) (full&&tk.isSome) tk
 |.agg cs=>.agg (clrs cs)
 |.tuple vs=>.tuple (clrs vs)
 |.undef=>.undef
 |.int k n=>.int k n
 |.bool b=>.bool b
 |.str s=>.str s
 |.nilFunc=>.nilFunc
 |.yield i=>.yield i
 |.ptr i o=>.ptr i o
 |.nilPtr=>.nilPtr
 |.ref i o l s=>.ref i o l s
 |.map i=>.map i
 |.nilMap=>.nilMap
def clrs:List AV->List AV
 |[]=>[]
 |v::vs=>clr v::clrs vs
end
def G5(σ σ':St)(v:AV)(Q:Out->Prop):Prop :=
 Q ⟨none,[],σ',v⟩ \/
 ∃ d v' v'',snap σ' σ.length d v=some v'/\(v''=v'\/v''=clr v')/\(∀ i,i<σ.length->dN σ σ' σ.length i)/\σ.length<=σ'.length/\Q ⟨none,[],σ'.take σ.length,v''⟩
def aBL(σ:St)(env':Env)(σ':St)(env'':Env)(m:Nat):Prop :=
 σ.length<=m/\m<=σ'.length/\(∀ p∈env'',p.2=Env.get env' p.1/\okV m p.2) /\
 ∀ i,i<m->(i<σ.length/\dN σ σ' m i)\/∃ b,σ'[i]? = some b/\aO m b
def iH(env:Env):List Nat->List AV->Env
 |p::ps,v::vs=>iH (Env.put env (some p) v) ps vs
 |_,_=>env
mutual
def Scal:AV->Prop
 |.int _ _|.bool _|.str _=>True
 |.lit [] _ none=>True
 |.agg cs=>Scals cs
 |.tuple vs=>Scals vs
 |_=>False
def Scals:List AV->Prop
 |[]=>True
 |v::vs=>Scal v/\Scals vs
end
def V0(σ:St)(m:Nat)(v v':AV):Prop:=(v'=v/\okV m v)\/∃ d v1,snap σ m d v=some v1/\(v'=v1\/v'=clr v1)
def TK(σ:St)(m:Nat):List AV->List AV->Prop
 |[],[]=>True
 |a::az,b::bs=>V0 σ m a b/\TK σ m az bs
 |_,_=>False
def LV(σ:St)(m:Nat)(env:Env):Env->Prop
 |[]=>True
 |(t,v)::e=>V0 σ m (Env.get env t) v/\LV σ m env e
def aA7(σ:St)(env':Env)(σ':St)(m i:Nat)(b:ABlk):Prop :=
 (i<σ.length/\dN σ σ' m i/\σ'[i]? = some b)\/(σ'[i]? = some b/\aO m b) \/
  ∃ cs cs',σ'[i]? = some (.cells cs)/\b = .cells cs'/\TK σ' m cs cs'/\(σ.length<=i\/∃ t off,Env.get env' t = .ptr i off)
def zD(σ:St)(env':Env)(σ':St)(env'':Env)(σ'':St):Prop :=
 σ.length<=σ''.length/\σ''.length<=σ'.length/\LV σ' σ''.length env' env''/\∀ i,i<σ''.length->∃ b,σ''[i]? = some b/\aA7 σ env' σ' σ''.length i b
mutual
def noTok (t:Nat):AV->Prop
 |.func _ first cap=>noToks t first/\noToks t cap
 |.lptr xs _ _ tk|.lit xs _ tk=>tk≠some t/\noToks t xs
 |.agg cs=>noToks t cs
 |.tuple vs=>noToks t vs
 |_=>True
def noToks (t:Nat):List AV->Prop
 |[]=>True
 |v::vs=>noTok t v/\noToks t vs
end
def aGV(t:Nat):ABlk->Prop
 |.cells cs=>noToks t cs
 |.map es=>∀ p∈es,noTok t p.1/\noTok t p.2
 |.loop _ _ _ _ _ _=>False
 |_=>True
def MU:List ACode->ACode->ACode
 |[],c=>c
 |a::az,c=>.seq a (MU az c)
def TN(n0:Nat)(env:Env)(σ:St)(env':Env)(σ':St):Prop :=
 ∃ t p xs sz,n0<=t/\aF sz xs=true/\σ[t]? = some (.tok sz xs.length true)/\env=(p,.lit xs false (some t))::env.tail/\noToks t xs/\(∀ q∈env.tail,noTok t q.2)/\(∀ i b,i≠t->σ[i]? = some b->aGV t b) /\
  env'=(p,.ref t 0 xs.length sz)::env.tail/\σ'=σ.set t (.cells (xs.flatMap AV.cells))
inductive Run (T:FuncId->Option AFunc):Task->(Out->Prop)->Prop where
 |mono {t Q R} (h:Run T t R) (hq:∀ o,R o->Q o):Run T t Q
 |skip {env σ Q} (h:Q ⟨none,env,σ,.undef⟩):Run T (.code .skip env σ) Q
 |jump {j env σ Q} (h:Q ⟨some j,env,σ,.undef⟩):Run T (.code (.jump j) env σ) Q
 |seq {a b env σ Q R} (h:Run T (.code a env σ) R) (h1:∀ o,R o->o.j=none->Run T (.code b o.env o.σ) Q) (h2:∀ o,R o->o.j≠none->Q o) :
   Run T (.code (.seq a b) env σ) Q
 |cond {c x y env σ Q} (b:Bool) (hc:c.ev env = .bool b) (h:Run T (.code (if b then x else y) env σ) Q):Run T (.code (.cond c x y) env σ) Q
 |block {id b env σ Q R} (h:Run T (.code b env σ) R) (h1:∀ o,R o->Q (if o.j=some (.exit id) then { o with j:=none } else o)) :
   Run T (.code (.block id b) env σ) Q
 |loop {b env σ Q R} (h:Run T (.code b env σ) R) (h1:∀ o,R o->o.j=none->Run T (.code (.loop b) o.env o.σ) Q) (h2:∀ o,R o->o.j≠none->Q o) :
   Run T (.code (.loop b) env σ) Q
 |scope {b env σ Q} (h:Run T (.code b env σ) Q):Run T (.code (.scope b) env σ) Q
 |reg {os env σ Q} (h:Run T (.ops os env σ) Q):Run T (.code (.reg os) env σ) Q
 |dreg {os env σ Q} (h:Run T (.dops os env (σ++cG os) σ.length [σ++cG os] []) Q):Run T (.code (.dreg os) env σ) Q
 |rangeFunc {f g first cap ps a b env σ Q R} (hf:f.ev env = .func g first cap)
   (h:Run T (.call g (first++[.yield σ.length]++cap) (σ++[.loop .ready none env ps a b])) R)
   (h1:∀ o,R o->∃ st pend env' ps' a' b',o.σ[σ.length]? = some (.loop st pend env' ps' a' b')/\st≠.busy/\Q ⟨pend,env,o.σ.set σ.length .dead,.undef⟩) :
   Run T (.code (.rangeFunc f ps a b) env σ) Q
 /-- What the code has made and nobody needs is forgotten. -/
 |trim {c env σ Q R} (h:Run T (.code c env σ) R) (h1:∀ o,R o->∃ env' m,aBL σ o.env o.σ env' m/\Q ⟨o.j,env',o.σ.take m,o.v⟩):Run T (.code c env σ) Q
 |trim2 {c env σ Q R} (h:Run T (.code c env σ) R) (h1:∀ o,R o->Q o\/∃ env'' σ'',zD σ o.env o.σ env'' σ''/\Q ⟨o.j,env'',σ'',o.v⟩):Run T (.code c env σ) Q
 /-- A call that needs nothing of the state. -/
 |frame {f args args0 σ Q R} (hf:okVs 0 args) (h0:args0=args\/args0=clrs args) (h:Run T (.call f args0 []) R) (h1:∀ o,R o->o.σ=[]/\Q ⟨none,[],σ,o.v⟩):Run T (.call f args σ) Q
 |frameS {f args args0 as1 d σ Q R} (hf:snaps σ 0 d args=some as1) (h0:args0=as1\/args0=clrs as1) (h:Run T (.call f args0 []) R) (h1:∀ o,R o->o.σ=[]/\Scal o.v/\Q ⟨none,[],σ,o.v⟩):Run T (.call f args σ) Q
 |chainNil {env σ Q} (h:Q ⟨none,env,σ,.undef⟩):Run T (.chain [] env σ) Q
 |chainCons {a az env σ Q R} (h:Run T (.code a env σ) R) (h1:∀ o,R o->o.j=none->Run T (.chain az o.env o.σ) Q) (h2:∀ o,R o->o.j≠none->Q o):Run T (.chain (a::az) env σ) Q
 |chain {a0 az c env σ Q R} {S:Env->St->Prop} (h:Run T (.chain (a0::az) env σ) R) (h1:∀ o,R o->o.j≠none->Q o)
   (h2:∀ o,R o->o.j=none->∃ env1 σ1 env2 σ2,zD σ o.env o.σ env1 σ1/\((env2=env1/\σ2=σ1)\/TN σ.length env1 σ1 env2 σ2)/\S env2 σ2)
   (h3:∀ env2 σ2,S env2 σ2->Run T (.code c env2 σ2) Q):Run T (.code (MU (a0::az) c) env σ) Q
 /-- A full slice is given a token. -/
 |ghost {c env σ Q} (t sz:Nat) (xs:List AV) (ht:Env.get env t = .lit xs true none)
   (h:Run T (.code c ((t,.lit xs false (some σ.length))::env) (σ++[.tok sz xs.length false])) Q):Run T (.code c env σ) Q
 /-- An environment stands for what it has at each temporary. -/
 |reenv {c env env' σ Q} (he:∀ t,Env.get env t=Env.get env' t) (h:Run T (.code c env' σ) Q):Run T (.code c env σ) Q
 /-- Less may be known of the temporaries. -/
 |weak {c env env' σ Q} (he:∀ t,Env.get env' t = .undef\/Env.get env' t=Env.get env t\/Env.get env' t=clr (Env.get env t)) (h:Run T (.code c env' σ) Q):Run T (.code c env σ) Q
 |reops {os env env' σ Q} (he:∀ t,Env.get env t=Env.get env' t) (h:Run T (.ops os env' σ) Q):Run T (.ops os env σ) Q
 |nil {env σ Q} (h:Q ⟨none,env,σ,.undef⟩):Run T (.ops [] env σ) Q
 |off {o os env σ Q} (hw:o.wanted env=some false) (h:Run T (.ops os (Env.put env o.dst (.tuple [])) σ) Q):Run T (.ops (o::os) env σ) Q
 |step {o os env σ v σ' Q} (hw:o.wanted env=some true) (ha:aop o.op env σ=some (v,σ')) (h:Run T (.ops os (Env.put env o.dst v) σ') Q) :
   Run T (.ops (o::os) env σ) Q
 |stepc {o os env σ f args Q R} (hw:o.wanted env=some true) (ho:o.op = .call f args) (hc:Run T (.callv (f.ev env) (args.map (·.ev env)) σ) R)
   (h:∀ r,R r->Run T (.ops os (Env.put env o.dst r.v) r.σ) Q):Run T (.ops (o::os) env σ) Q
 |stepm {o os env σ x id m n es left last Q} (hw:o.wanted env=some true) (ho:o.op = .mnext x) (hx:x.ev env = .ptr id 0) (hl:σ[id]? = some (.miter m n left last))
   (he:σ[m]? = some (.map es)) (hn:es.length=n)
   (h0:left=[]->Run T (.ops os (Env.put env o.dst (.tuple [.bool false])) σ) Q)
   (h1:∀ i k v,i∈left->es[i]? = some (k,v)->Run T (.ops os (Env.put env o.dst (.tuple [.bool true,k,v])) (σ.set id (.miter m n (left.filter (·≠i)) (some i)))) Q) :
   Run T (.ops (o::os) env σ) Q
 |dnil {env σ next hist reads Q} (hr:∀ r∈reads,ARead.ok r hist) (h:Q ⟨none,env,σ,.undef⟩):Run T (.dops [] env σ next hist reads) Q
 |doff {o os env σ next hist reads Q} (hw:o.o.wanted env=some false)
   (h:Run T (.dops os (Env.put env o.o.dst (.tuple [])) σ (if o.o.op.allocs then next+1 else next) (if o.o.op.acts then hist++[σ] else hist) reads) Q) :
   Run T (.dops (o::os) env σ next hist reads) Q
 |dalloc {o os env σ next hist reads z Q} (hw:o.o.wanted env=some true) (ho:o.o.op = .alloc z)
   (h:Run T (.dops os (Env.put env o.o.dst (.ptr next 0)) σ (next+1) hist reads) Q):Run T (.dops (o::os) env σ next hist reads) Q
 |dpure {o os env σ next hist reads v Q} (hw:o.o.wanted env=some true) (hk:(o.o.op.acts||o.o.op.allocs||o.o.op.reads)=false) (ha:aop o.o.op env σ=some (v,σ))
   (h:Run T (.dops os (Env.put env o.o.dst v) σ next hist reads) Q):Run T (.dops (o::os) env σ next hist reads) Q
 |dread {o os env σ next hist reads v Q} (hw:o.o.wanted env=some true) (hk:o.o.op.reads=true) (ha:aop o.o.op env σ=some (v,σ))
   (h:Run T (.dops os (Env.put env o.o.dst v) σ next hist (⟨o.lo,o.hi,o.o.op,env,v⟩::reads)) Q):Run T (.dops (o::os) env σ next hist reads) Q
 |dact {o os env σ next hist reads v σ' Q} (hw:o.o.wanted env=some true) (hk:o.o.op.acts=true) (ha:aop o.o.op env σ=some (v,σ'))
   (h:Run T (.dops os (Env.put env o.o.dst v) σ' next (hist++[σ']) reads) Q):Run T (.dops (o::os) env σ next hist reads) Q
 |dcall {o os env σ next hist reads f args v σ' Q} (hw:o.o.wanted env=some true) (ho:o.o.op = .call f args)
   (hc:Run T (.callv (f.ev env) (args.map (·.ev env)) σ) fun r=>r.v=v/\r.σ=σ')
   (h:Run T (.dops os (Env.put env o.o.dst v) σ' next (hist++[σ']) reads) Q):Run T (.dops (o::os) env σ next hist reads) Q
 |callf {f first cap args σ Q} (h:Run T (.call f (first++args++cap) σ) Q):Run T (.callv (.func f first cap) args σ) Q
 |round {id args σ env ps a b Q R S} (hl:σ[id]? = some (.loop .ready none env ps a b)) (hn:ps.length=args.length)
   (h:Run T (.code a (iH env ps args) σ) R)
   (h0:∀ o,R o->o.j=none/\o.σ[id]? = some (.loop .ready none env ps a b))
   (h1:∀ o,R o->Run T (.code b o.env (o.σ.set id (.loop .busy none env ps a b))) S)
   (h2:∀ o,S o->o.σ[id]? = some (.loop .busy none env ps a b) /\
    Q ⟨none,[],o.σ.set id (.loop (if o.j=none then .ready else .done) o.j env ps a b),.bool (decide (o.j=none))⟩) :
   Run T (.callv (.yield id) args σ) Q
 |call {f args σ af Q R} (hf:T f=some af) (hn:args.length<=af.ntmps) (h:Run T (.code af.body (dX 0 args) σ) R)
   (h1:∀ o,R o->(o.j=none\/o.j=some .ret)/\∃ v,eQ af.results o.env o.σ=some v/\G5 σ o.σ v Q):Run T (.call f args σ) Q
def top:Nat:=2^60
def Env.has:Env->Nat->Bool
 |[],_=>false
 |(k,_)::e,t=>if k=t then true else Env.has e t
def Env.tidyTo(acc:Env):Env->Env
 |[]=>acc
 |(k,v)::e=>if Env.has acc k then Env.tidyTo acc e else Env.tidyTo (acc++[(k,v)]) e
def Env.tidy(e:Env):Env:=Env.tidyTo [] e
def wS(q:AOp)(e:Env):Nat :=
 match q with
 |.store _ a _=>match a.ev e with|.ptr id _=>id|_=>top
 |.mapset _ m _ _=>match m.ev e with|.map id=>id|_=>top
 |.copy _ x _=>match x.ev e with|.ref id _ _ _=>id|_=>top
 |.snext x=>match x.ev e with|.ptr id _=>id|_=>top
 |.append _ _ x _=>match x.ev e with|.lit _ false (some t)=>t|_=>top
 |_=>top
mutual
def okVB (m:Nat):Nat->AV->Bool
 |0,_=>false
 |d+1,v =>
  match v with
  |.func _ a b=>okVBs m d a&&okVBs m d b
  |.yield id|.ptr id _|.ref id _ _ _|.map id=>decide (id<m)
  |.lptr xs _ _ tk|.lit xs _ tk=>(match tk with|some t=>decide (t<m)|none=>true)&&okVBs m d xs
  |.agg cs=>okVBs m d cs
  |.tuple vs=>okVBs m d vs
  |_=>true
def okVBs (m:Nat):Nat->List AV->Bool
 |0,_=>false
 |_+1,[]=>true
 |d+1,v::vs=>okVB m d v&&okVBs m d vs
end
def aGN(m:Nat):ABlk->Bool
 |.cells cs=>okVBs m 10000 cs
 |.map es=>es.all fun p=>okVB m 10000 p.1&&okVB m 10000 p.2
 |.miter id _ _ _=>decide (id<m)
 |_=>true
def aBD(m:Nat):List ABlk->Nat->Nat->Bool
 |[],_,_=>true
 |b::bs,i,lo=>if i<m then (decide (i<lo)||aGN m b)&&aBD m bs (i+1) lo else true
mutual
def snapF (σ:St) (m:Nat):Nat->Nat->AV->Option AV
 |0,_,_=>none
 |k+1,d,v =>
  match v with
  |.func f first cap=>match snapsF σ m k d first,snapsF σ m k d cap with|some a,some b=>some (.func f a b)|_,_=>none
  |.yield id=>if id<m then some (.yield id) else none
  |.ptr id off=>if id<m then some (.ptr id off) else none
  |.map id=>if id<m then some (.map id) else none
  |.ref id off len sz =>
   if id<m then some (.ref id off len sz) else
   match d with
   |0=>none
   |d+1 =>
    match kT σ (.ref id off len sz) with
    |some xs=>if (decide (0<sz)&&aF sz xs)=true then (match snapsF σ m k d xs with|some ys=>some (.lit ys false none)|none=>none) else none
    |none=>none
  |.lit xs full tk=>match snapsF σ m k d xs with|some ys=>some (.lit ys full (tk.filter (· < m)))|none=>none
  |.agg cs=>match snapsF σ m k d cs with|some ys=>some (.agg ys)|none=>none
  |.tuple vs=>match snapsF σ m k d vs with|some ys=>some (.tuple ys)|none=>none
  |.lptr xs i off tk=>match snapsF σ m k d xs with|some ys=>some (.lptr ys i off (tk.filter (· < m)))|none=>none
  |.undef=>some .undef
  |.int k n=>some (.int k n)
  |.bool b=>some (.bool b)
  |.str s=>some (.str s)
  |.nilFunc=>some .nilFunc
  |.nilPtr=>some .nilPtr
  |.nilMap=>some .nilMap
def snapsF (σ:St) (m:Nat):Nat->Nat->List AV->Option (List AV)
 |0,_,_=>none
 |_+1,_,[]=>some []
 |k+1,d,v::vs=>match snapF σ m k d v,snapsF σ m k d vs with|some a,some b=>some (a::b)|_,_=>none
end
mutual
def eqVF:Nat->AV->AV->Bool
 |0,_,_=>false
 |k+1,a,b =>
  match a,b with
  |.undef,.undef|.nilFunc,.nilFunc|.nilPtr,.nilPtr|.nilMap,.nilMap=>true
  |.int k n,.int l m=>decide (k=l)&&decide (n=m)
  |.bool x,.bool y=>x==y
  |.str x,.str y=>decide (x=y)
  |.func f a b,.func g c d=>decide (f=g)&&eqVsF k a c&&eqVsF k b d
  |.yield i,.yield j|.map i,.map j=>decide (i=j)
  |.ptr i o,.ptr j p=>decide (i=j)&&decide (o=p)
  |.lptr xs i o t,.lptr ys j p u=>eqVsF k xs ys&&decide (i=j)&&decide (o=p)&&decide (t=u)
  |.lit xs f t,.lit ys g u=>eqVsF k xs ys&&(f==g)&&decide (t=u)
  |.ref a b c d,.ref e f g h=>decide (a=e)&&decide (b=f)&&decide (c=g)&&decide (d=h)
  |.agg xs,.agg ys=>eqVsF k xs ys
  |.tuple xs,.tuple ys=>eqVsF k xs ys
  |_,_=>false
def eqVsF:Nat->List AV->List AV->Bool
 |0,_,_=>false
 |_+1,[],[]=>true
 |k+1,a::x,b::y=>eqVF k a b&&eqVsF k x y
 |_+1,_,_=>false
end
def V1(r:ARead):List St->Nat->Bool
 |[],_=>true
 |s::ss,j =>
  (if decide (r.lo<=j)&&decide (j<=r.hi) then (match aop r.op r.env s with|some (v,_)=>eqVF 100000 v r.v|none=>false) else true)&&V1 r ss (j+1)
def aSI(x:AOpd)(e:Env)(σ:St):Option (AV×St):=some (x.ev e,σ)
def aHZ(c a b:AOpd)(e:Env)(σ:St):Option (AV×St):=match c.ev e with|.bool true=>some (a.ev e,σ)|.bool false=>some (b.ev e,σ)|_=>none
def aC8(zero:List AV)(σ:St):Option (AV×St):=some (.ptr σ.length 0,σ++[.cells zero])
def aQD(n:Nat)(v:AV)(σ:St):Option (AV×St):=if (v.cells.length==n&&v.cells.all (·.cell))=true then some (.ptr σ.length 0,σ++[.cells v.cells]) else none
def aET(zero:List AV)(parts:List (Nat×Nat×AOpd))(e:Env)(σ:St):Option (AV×St):=match bQ e zero parts with|some cs=>some (.agg cs,σ)|none=>none
def aCX(sz:Nat)(vs:List AV)(σ:St):Option (AV×St):=if aF sz vs=true then some (.lit vs true none,σ) else none
def aJN(sh:Option Nat)(σ:St)(v:AV):Option (AV×St):=match gZ sh σ v with|some v=>some (v,σ)|none=>none
def aGO(n:Nat)(σ:St)(a v:AV):Option (AV×St):=match i5 n σ a v with|some σ'=>some (.tuple [],σ')|none=>none
def aRQ(σ:St)(x y:AV):Option (AV×St):=match x,y with|.int k a,.int k' b=>if k=k' then some (.int k (k.wrap (a+b)),σ) else none|_,_=>none
def aPB(σ:St)(x y:AV):Option (AV×St):=match x,y with|.int k a,.int k' b=>if k=k' then some (.int k (k.wrap (a-b)),σ) else none|_,_=>none
def aQR(σ:St)(x y:AV):Option (AV×St):=match x,y with|.int k a,.int k' b=>if k=k' then some (.int k (k.wrap (a*b)),σ) else none|_,_=>none
def aRH(σ:St)(x y:AV):Option (AV×St):=match x,y with|.int k a,.int k' b=>if k=k' then some (.bool (decide (a<b)),σ) else none|_,_=>none
def aQP(σ:St)(x y:AV):Option (AV×St):=match x,y with|.int k a,.int k' b=>if k=k' then some (.bool (decide (a<=b)),σ) else none|_,_=>none
def aO2(σ:St)(x y:AV):Option (AV×St):=match x,y with|.int k a,.int k' b=>if k=k' then some (.bool (decide (a > b)),σ) else none|_,_=>none
def aQL(σ:St)(x y:AV):Option (AV×St):=match x,y with|.int k a,.int k' b=>if k=k' then some (.bool (decide (a>=b)),σ) else none|_,_=>none
def aM0(op:BinOp)(σ:St)(x y:AV):Option (AV×St):=match cA op x y with|some v=>some (v,σ)|none=>none
def aTL(op:BinOp)(σ:St)(x y:AV):Option (AV×St) :=
 match op with
 |.add=>aRQ σ x y
 |.sub=>aPB σ x y
 |.mul=>aQR σ x y
 |.lss=>aRH σ x y
 |.leq=>aQP σ x y
 |.gtr=>aO2 σ x y
 |.geq=>aQL σ x y
 |op=>aM0 op σ x y
def aO1(sh:EqTy)(neg:Bool)(σ:St)(x y:AV):Option (AV×St):=match gK sh x y with|some b=>some (.bool (if neg then !b else b),σ)|none=>none
def aO4(σ:St)(x:AV):Option (AV×St):=match x with|.bool b=>some (.bool !b,σ)|_=>none
def aGD(off:Nat)(σ:St)(x:AV):Option (AV×St):=match x with|.ptr id o=>some (.ptr id (o+off),σ)|.lptr xs i o t=>some (.lptr xs i (o+off) t,σ)|_=>none
def aFA(off:Nat)(sh:Option Nat)(σ:St)(x:AV):Option (AV×St):=match x with|.agg cs=>(match cU sh cs off with|some v=>some (v,σ)|none=>none)|_=>none
def aPP(i:Nat)(σ:St)(x:AV):Option (AV×St):=match x with|.tuple vs=>(match vs[i]? with|some v=>some (v,σ)|none=>none)|_=>none
def aP5(k:Nat)(σ:St)(x:AV):Option (AV×St):=match gD k σ x with|some n=>some (.int .i64 n,σ)|none=>none
def aQK(σ:St)(x:AV):Option (AV×St):=match x with|.ptr i o=>some (.ptr i o,σ)|.lptr xs i o t=>some (.lptr xs i o t,σ)|.func f a b=>some (.func f a b,σ)|.yield i=>some (.yield i,σ)|_=>none
def aNU(op:AOp)(e:Env)(σ:St):Option (AV×St) :=
 match op with
 |.mov x=>aSI x e σ
 |.pick c a b=>aHZ c a b e σ
 |.alloc z=>aC8 z σ
 |.box n x=>aQD n (x.ev e) σ
 |.build z ps=>aET z ps e σ
 |.mklit n xs=>aCX n (xs.map (·.ev e)) σ
 |.load sh x=>aJN sh σ (x.ev e)
 |.store n a x=>aGO n σ (a.ev e) (x.ev e)
 |.nilCheck x=>aQK σ (x.ev e)
 |.bin op x y=>aTL op σ (x.ev e) (y.ev e)
 |.eql sh n x y=>aO1 sh n σ (x.ev e) (y.ev e)
 |.not x=>aO4 σ (x.ev e)
 |.faddr x o=>aGD o σ (x.ev e)
 |.field x o sh=>aFA o sh σ (x.ev e)
 |.ext x i=>aPP i σ (x.ev e)
 |.len k x=>aP5 k σ (x.ev e)
 |.append sz b x y=>bT sz b σ (x.ev e) (y.ev e)
 |op=>aop op e σ
section
variable (callv:AV->List AV->St->Option (AV×St×Nat))
def xX:List AOper->Env->St->Nat->Option (Env×St×Nat)
 |[],e,σ,lo=>some (e,σ,lo)
 |o::os,e,σ,lo =>
  match o.wanted e with
  |some true =>
   match o.op with
   |.call f args =>
    match callv (f.ev e) (args.map (·.ev e)) σ with
    |some (v,σ',l)=>xX os (Env.put e o.dst v) σ' (Nat.min lo l)
    |none=>none
   |op =>
    match aNU op e σ with
    |some (v,σ')=>xX os (Env.put e o.dst v) σ' (Nat.min lo (wS op e))
    |none=>none
  |some false=>xX os (Env.put e o.dst (.tuple [])) σ lo
  |none=>none
def zN:List ADOper->Env->St->Nat->List St->List ARead->Nat->Option (Env×St×Nat)
 |[],e,σ,_,hist,reads,lo=>if reads.all (fun r=>V1 r hist 0)=true then some (e,σ,lo) else none
 |d::ds,e,σ,next,hist,reads,lo =>
  match d.o.wanted e with
  |some true =>
   match d.o.op with
   |.call f args =>
    match callv (f.ev e) (args.map (·.ev e)) σ with
    |some (v,σ',l)=>zN ds (Env.put e d.o.dst v) σ' next (hist++[σ']) reads (Nat.min lo l)
    |none=>none
   |.alloc _=>zN ds (Env.put e d.o.dst (.ptr next 0)) σ (next+1) hist reads lo
   |op =>
    match aNU op e σ with
    |some (v,σ') =>
     if op.acts=true then zN ds (Env.put e d.o.dst v) σ' next (hist++[σ']) reads (Nat.min lo (wS op e))
     else if op.reads=true then zN ds (Env.put e d.o.dst v) σ next hist (⟨d.lo,d.hi,op,e,v⟩::reads) lo
     else zN ds (Env.put e d.o.dst v) σ next hist reads lo
    |none=>none
  |some false=>zN ds (Env.put e d.o.dst (.tuple [])) σ (if d.o.op.allocs then next+1 else next) (if d.o.op.acts then hist++[σ] else hist) reads lo
  |none=>none
end
def aNL:Option AJump->Bool
 |none|some .ret=>true
 |_=>false
section
variable (T:FuncId->Option AFunc) (M:FuncId->List AV->Option AV) (E:ACode->Env->St->Option (Option AJump×Env×St×Nat))
def aBA(f:FuncId)(args:List AV)(σ:St):Option (AV×St×Nat) :=
 match M f args with
 |some v=>some (v,σ,top)
 |none =>
 match T f with
 |some af =>
  if args.length<=af.ntmps then
   match E af.body (dX 0 args) σ with
   |some (j,e,σ1,lo) =>
    if aNL j=true then
     match eQ af.results e σ1 with
     |some v =>
      match snapF σ1 σ.length 100000 20 v with
      |some v'=>if aBD σ.length σ1 0 lo=true then some (v',σ1.take σ.length,lo) else some (v,σ1,lo)
      |none=>some (v,σ1,lo)
     |none=>none
    else none
   |none=>none
  else none
 |none=>none
def aBI(f:AV)(args:List AV)(σ:St):Option (AV×St×Nat) :=
 match f with
 |.func f first cap=>aBA T M E f (first++args++cap) σ
 |.yield id =>
  match σ[id]? with
  |some (.loop .ready none env ps a b) =>
   if ps.length=args.length then
    match E a (iH env ps args) σ with
    |some (none,e1,σ1,l1) =>
     match σ1[id]? with
     |some (.loop .ready none _ _ _ _) =>
      match E b e1 (σ1.set id (.loop .busy none env ps a b)) with
      |some (j,_,σ2,l2) =>
       match σ2[id]? with
       |some (.loop .busy none _ _ _ _) =>
        match j with
        |none=>some (.bool true,σ2.set id (.loop .ready none env ps a b),Nat.min id (Nat.min l1 l2))
        |some j=>some (.bool false,σ2.set id (.loop .done (some j) env ps a b),Nat.min id (Nat.min l1 l2))
       |_=>none
      |none=>none
     |_=>none
    |_=>none
   else none
  |_=>none
 |_=>none
end
def aNV(id:Nat):Option AJump->Option AJump
 |some (.exit i)=>if i=id then none else some (.exit i)
 |j=>j
abbrev Res:=Option (Option AJump×Env×St×Nat)
def aJ0(r:Option (Env×St×Nat)):Res:=match r with|some (e',σ',lo)=>some (none,e',σ',lo)|none=>none
def aIH(lo:Nat)(r:Res):Res:=match r with|some (j,e2,σ2,l2)=>some (j,e2,σ2,Nat.min lo l2)|none=>none
def aOU(E:ACode->Env->St->Res)(b:ACode)(r:Res):Res :=
 match r with
 |some (none,e1,σ1,lo)=>aIH lo (E b e1 σ1)
 |r=>r
def aIZ(E:ACode->Env->St->Res)(b:ACode)(r:Res):Res :=
 match r with
 |some (none,e1,σ1,lo)=>aIH lo (E (.loop b) (Env.tidy e1) σ1)
 |r=>r
def aKK(x:AV)(r q:Res):Res:=match x with|.bool true=>r|.bool false=>q|_=>none
def aFX(id:Nat)(r:Res):Res:=match r with|some (j,e1,σ1,lo)=>some (aNV id j,e1,σ1,lo)|none=>none
def MV(e:Env)(n:Nat)(r:Option (AV×St×Nat)):Res :=
 match r with
 |some (_,σ1,lo) =>
  match σ1[n]? with
  |some (.loop .ready pend _ _ _ _)=>some (pend,e,σ1.set n .dead,lo)
  |some (.loop .done pend _ _ _ _)=>some (pend,e,σ1.set n .dead,lo)
  |_=>none
 |none=>none
def aDU(T:FuncId->Option AFunc)(M:FuncId->List AV->Option AV)(E:ACode->Env->St->Res)(f:AV)(ps:List Nat)(a b:ACode)(e:Env)(σ:St):Res :=
 match f with
 |.func g first cap=>MV e σ.length (aBA T M E g (first++[.yield σ.length]++cap) (σ++[.loop .ready none e ps a b]))
 |_=>none
def VR(T:FuncId->Option AFunc)(M:FuncId->List AV->Option AV)(E:ACode->Env->St->Res)(c:ACode)(e:Env)(σ:St):Res :=
 match c with
 |.skip=>some (none,e,σ,top)
 |.jump j=>some (some j,e,σ,top)
 |.reg os=>aJ0 (xX (aBI T M E) os e σ top)
 |.dreg ds=>aJ0 (zN (aBI T M E) ds e (σ++cG ds) σ.length [σ++cG ds] [] top)
 |.seq a b=>aOU E b (E a e σ)
 |.cond c a b=>aKK (c.ev e) (E a e σ) (E b e σ)
 |.block id b=>aFX id (E b e σ)
 |.loop b=>aIZ E b (E b e σ)
 |.scope b=>E b e σ
 |.rangeFunc f ps a b=>aDU T M E (f.ev e) ps a b e σ
def exec(T:FuncId->Option AFunc)(M:FuncId->List AV->Option AV):Nat->ACode->Env->St->Res
 |0=>fun _ _ _=>none
 |k+1=>VR T M (exec T M k)
end Go.Am
namespace Go.Am.Room
abbrev o0(d:Nat)(x:AOp):AOper:=⟨some d,x,none⟩
abbrev o1(x:AOp):AOper:=⟨none,x,none⟩
abbrev o2(d:Nat)(x:AOp)(t:Nat)(b:Bool):AOper:=⟨some d,x,some (t,b)⟩
abbrev o3(d:Nat)(x:AOp)(i j:Nat):ADOper:=⟨⟨some d,x,none⟩,i,j⟩
abbrev o4(d t:Nat):AOper:=⟨some d,.mov (.t t),none⟩
abbrev o5(n:Int):AOpd:=.c (.int .i64 n)
abbrev o6(f:FuncId):AOpd:=.c (.func f [] [])
abbrev o7(t:Nat):AOp:=.load none (.t t)
abbrev o8(t k:Nat):AOp:=.faddr (.t t) k
abbrev o9(t:Nat):AOp:=.mov (.t t)
abbrev oA(n:Int):AOp:=.mov (.c (.int .i64 n))
abbrev oB(n t:Nat):AOp:=.load (some n) (.t t)
abbrev oC(n t u:Nat):AOp:=.iaddr none n (.t t) (.t u)
abbrev oD(t k:Nat):AOp:=.ext (.t t) k
abbrev oF(t:Nat):AOp:=.len 1 (.t t)
abbrev oH(x y:Nat):AOp:=.bin .lss (.t x) (.t y)
abbrev oI(x:Nat)(n:Int):AOp:=.bin .add (.t x) (.c (.int .i64 n))
abbrev oK(f:FuncId)(l:List AOpd):AOp:=.call (.c (.func f [] [])) l
abbrev oL:ACode:=.jump .ret
abbrev oM(n:Nat):ACode:=.jump (.exit n)
abbrev oN(l:List AOper)(c:ACode):ACode:=.seq (.reg l) c
abbrev oG(n:Bool)(x y:AOpd):AOp:=.eql (.one .i) n x y
def a2:AFunc:=⟨1,[],
 .reg [o0 0 (oK 1 [])]⟩
def aR6:ACode:=.seq (oN [o4 191 26,o4 192 20,o0 193 (oF 192),o0 194 (oH 191 193)]
 (.cond (.t 194) .skip
 (oM 0)))
 (.seq (.block 1 (.seq (.seq (.dreg [o3 197 (o9 20) 0 0,o3 198 (o9 26) 0 0,o3 199 (oC 1 197 198) 0 0,o3 200 (o7 199) 0 0,o3 201 (o8 4 3) 0 0,o3 202 (o7 201) 0 0,o3 203 (oF 202) 0 0,o3 204 (.bin .sub (.t 203) (o5 1)) 0 0,o3 205 (oK 20 [(.t 200),(o5 0),(.t 204)]) 0 1,o3 206 (.not (.t 205)) 1 1])
 (.cond (.t 206) (oN [o0 6 (.mov (.c (.bool false)))]
 oL)
 .skip))
 (.dreg [o3 207 (o9 25) 0 2,o3 208 (o8 4 3) 0 1,o3 209 (o7 208) 0 1,o3 210 (o9 20) 0 1,o3 211 (o9 26) 0 1,o3 212 (oC 1 210 211) 0 1,o3 213 (o7 212) 0 1,o3 214 (oC 3 209 213) 0 1,o3 215 (o8 214 1) 0 1,o3 216 (oB 2 215) 0 1,o3 217 (o8 5 4) 0 0,o3 218 (o7 217) 0 0,o3 219 (o9 26) 0 0,o3 220 (.bin .add (o5 3) (.t 219)) 0 0,o3 221 (oK 17 [.t 218,.t 220]) 0 1,o3 222 (oK 19 [.t 216,.t 221]) 1 2,o3 223 (.bin .add (.t 207) (.t 222)) 2 2,o3 25 (o9 223) 2 2])))
 (.reg [o4 195 26,o0 196 (oI 195 1),o4 26 196]))
def a3:AFunc:=⟨234,[.tmp 6],
 oN [o0 3 (.box 7 (.t 0)),o0 4 (.box 7 (.t 1)),o0 5 (.box 5 (.t 2)),o0 6 (.mov (.c (.bool false)))]
 (oN [o0 27 (o8 4 5),o1 (.store 1 (.t 27) (.c (.lit [] true none))),o0 28 (o8 4 6),o1 (.store 1 (.t 28) (.c (.lit [] true none)))]
 (oN [o0 30 (oB 7 3),o0 31 (oK 10 [.t 30]),o4 29 31,o0 32 (oD 29 0),o0 33 (oD 29 1),o0 34 (oD 29 2),o4 7 32,o4 8 33,o4 9 34]
 (oN [o0 36 (oB 7 4),o0 37 (oK 11 [.t 36]),o4 35 37,o0 38 (oD 35 0),o0 39 (oD 35 1),o0 40 (oD 35 2),o4 10 38,o4 11 39,o4 12 40]
 (.seq (oN [o4 41 9,o0 42 (oG true (.t 41) (o5 0)),o4 43 42,o2 44 (o9 12) 43 false,o2 45 (oG true (.t 44) (o5 0)) 43 false,o0 46 (.pick (.t 43) (.c (.bool true)) (.t 45)),o4 47 46,o2 48 (o8 3 5) 47 false,o2 49 (o7 48) 47 false,o2 50 (oF 49) 47 false,o2 51 (oG false (.t 50) (o5 0)) 47 false,o0 52 (.pick (.t 47) (.c (.bool true)) (.t 51))]
 (.cond (.t 52) (oN [o0 53 (oK 12 []),o4 54 53,o2 55 (oK 13 []) 54 true,o0 56 (.pick (.t 54) (.t 55) (.c (.bool false))),o4 6 56]
 oL)
 .skip))
 (.seq (.reg [o0 57 (oB 7 3),o0 58 (oK 14 [(.t 57),(.c (.lit [] true none))]),o4 13 58])
 (.seq (oN [o4 59 13,o0 60 (oF 59),o0 61 (oG false (.t 60) (o5 0))]
 (.cond (.t 61) (oN [o0 62 (oK 12 []),o4 63 62,o2 64 (oK 13 []) 63 true,o0 65 (.pick (.t 63) (.t 64) (.c (.bool false))),o4 6 65]
 oL)
 .skip))
 (.seq (.dreg [o3 66 (o8 5 0) 0 0,o3 67 (o7 66) 0 0,o3 68 (.conv .i64 (.t 67)) 0 0,o3 69 (o8 3 5) 0 0,o3 70 (o7 69) 0 0,o3 71 (oF 70) 0 0,o3 72 (.bin .rem (.t 68) (.t 71)) 0 0,o3 73 (o8 5 1) 0 0,o3 74 (o7 73) 0 0,o3 75 (.conv .i64 (.t 74)) 0 0,o3 76 (o8 3 0) 0 0,o3 77 (o7 76) 0 0,o3 78 (oF 77) 0 0,o3 79 (oI 78 1) 0 0,o3 80 (.bin .rem (.t 75) (.t 79)) 0 0,o3 14 (o9 72) 0 0,o3 15 (o9 80) 0 0])
 (oN [o0 82 (oB 7 3),o4 83 14,o4 84 15,o0 85 (oK 15 [.t 82,.t 83,.t 84]),o4 81 85,o0 86 (oD 81 0),o0 87 (oD 81 1),o0 16 (.alloc [.int .i64 0,.int .i64 0]),o1 (.store 2 (.t 16) (.t 86)),o4 17 87]
 (oN [o0 88 (o8 16 0),o0 89 (o7 88),o0 90 (o8 3 3),o0 91 (o8 90 0),o0 92 (o7 91),o0 93 (.bin .add (.t 89) (.t 92)),o0 94 (o8 16 1),o0 95 (o7 94),o0 96 (o8 3 3),o0 97 (o8 96 1),o0 98 (o7 97),o0 99 (.bin .add (.t 95) (.t 98)),o0 100 (.build [.int .i64 0,.int .i64 0] [(0,1,(.t 93)),(1,1,(.t 99))]),o0 101 (o8 4 1),o1 (.store 2 (.t 101) (.t 100))]
 (oN [o0 103 (oB 7 4),o0 104 (oK 11 [.t 103]),o4 102 104,o0 105 (oD 102 0),o0 106 (oD 102 1),o0 107 (oD 102 2),o4 12 107]
 (.seq (oN [o4 108 17,o0 109 (oG true (.t 108) (o5 0)),o4 110 109,o2 111 (o9 12) 110 false,o2 112 (oG true (.t 111) (o5 0)) 110 false,o0 113 (.pick (.t 110) (.c (.bool true)) (.t 112))]
 (.cond (.t 113) (oN [o0 6 (.mov (.c (.bool false)))]
 oL)
 .skip))
 (.seq (.dreg [o3 114 (o8 5 2) 0 0,o3 115 (o7 114) 0 0,o3 116 (.conv .i64 (.t 115)) 0 0,o3 117 (o8 4 0) 0 0,o3 118 (o7 117) 0 0,o3 119 (oI 118 1) 0 0,o3 120 (.bin .rem (.t 116) (.t 119)) 0 0,o3 121 (o8 5 3) 0 0,o3 122 (o7 121) 0 0,o3 123 (.conv .i64 (.t 122)) 0 0,o3 124 (.bin .rem (.t 123) (o5 7)) 0 0,o3 125 (.bin .add (o5 1) (.t 124)) 0 0,o3 18 (o9 120) 0 0,o3 19 (o9 125) 0 0])
 (oN [o0 127 (oB 7 4),o4 128 18,o4 129 19,o0 130 (oK 16 [.t 127,.t 128,.t 129]),o4 126 130,o0 131 (oD 126 0),o0 132 (oD 126 1),o0 133 (oD 126 2),o4 20 131,o4 21 132,o4 22 133]
 (.seq (oN [o4 134 22,o0 135 (oG true (.t 134) (o5 0))]
 (.cond (.t 135) (oN [o4 136 22,o0 137 (oG false (.t 136) (o5 9)),o4 138 137,o2 139 (o9 20) 138 true,o2 140 (oF 139) 138 true,o2 141 (oG false (.t 140) (o5 0)) 138 true,o0 142 (.pick (.t 138) (.t 141) (.c (.bool false))),o4 143 142,o2 144 (oK 12 []) 143 true,o0 145 (.pick (.t 143) (.t 144) (.c (.bool false))),o4 146 145,o2 147 (oK 13 []) 146 true,o0 148 (.pick (.t 146) (.t 147) (.c (.bool false))),o4 6 148]
 oL)
 .skip))
 (.seq (.reg [o4 149 13,o0 150 (o8 5 4),o0 151 (o7 150),o0 152 (oK 17 [(.t 151),(o5 0)]),o4 153 13,o0 154 (oF 153),o0 155 (.bin .rem (.t 152) (.t 154)),o0 156 (oC 2 149 155),o0 157 (oB 2 156),o0 23 (.alloc [.lit [] true none,.lit [] true none]),o1 (.store 2 (.t 23) (.t 157))])
 (.seq (.dreg [o3 158 (o8 23 1) 0 1,o3 159 (o7 158) 0 1,o3 160 (o9 14) 0 1,o3 161 (oC 1 159 160) 0 1,o3 162 (o7 161) 0 1,o3 163 (o8 5 4) 0 0,o3 164 (o7 163) 0 0,o3 165 (oK 17 [(.t 164),(o5 1)]) 0 1,o3 166 (o8 23 1) 0 1,o3 167 (o7 166) 0 1,o3 168 (o9 14) 0 1,o3 169 (oC 1 167 168) 0 1,o3 170 (o7 169) 0 1,o3 171 (oF 170) 0 1,o3 172 (.bin .rem (.t 165) (.t 171)) 1 1,o3 173 (oC 1 162 172) 1 1,o3 174 (o7 173) 1 1,o3 24 (o9 174) 1 1])
 (.seq (.dreg [o3 175 (o8 23 0) 0 0,o3 176 (o7 175) 0 0,o3 177 (o9 24) 0 0,o3 178 (o9 15) 0 0,o3 179 (oK 18 [.t 176,.t 177,.t 178]) 0 1,o3 180 (o8 3 3) 0 2,o3 181 (oB 2 180) 0 2,o3 182 (o8 5 4) 0 1,o3 183 (o7 182) 0 1,o3 184 (oK 17 [(.t 183),(o5 2)]) 1 2,o3 185 (oK 19 [.t 181,.t 184]) 2 3,o3 186 (.bin .add (.t 179) (.t 185)) 3 3,o3 25 (o9 186) 3 3])
 (.seq (oN [o4 187 20,o0 188 (oF 187),o4 189 18,o0 190 (oG true (.t 188) (.t 189))]
 (.cond (.t 190) (oN [o0 6 (.mov (.c (.bool false)))]
 oL)
 .skip))
 (.seq (oN [o0 26 (oA 0)]
 (.block 0 (.loop aR6)))
 (oN [o4 224 25,o0 225 (oK 21 [.t 224]),o4 226 19,o0 227 (oG false (.t 225) (.t 226)),o4 228 227,o2 229 (oK 12 []) 228 true,o0 230 (.pick (.t 228) (.t 229) (.c (.bool false))),o4 231 230,o2 232 (oK 13 []) 231 true,o0 233 (.pick (.t 231) (.t 232) (.c (.bool false))),o4 6 233]
 oL))))))))))))))))))))⟩
def aQB:ACode:=.seq (oN [o4 77 14,o0 78 (o8 3 5),o0 79 (o7 78),o0 80 (oF 79),o0 81 (oH 77 80)]
 (.cond (.t 81) .skip
 (oM 0)))
 (.seq (.block 1 (oN [o0 85 (oB 3 4),o4 86 14,o0 87 (oK 25 [.t 85,.t 86]),o4 84 87,o0 88 (oD 84 0),o0 89 (oD 84 1),o0 15 (.alloc [.int .i64 0,.int .i64 0]),o1 (.store 2 (.t 15) (.t 88)),o4 16 89]
 (.seq (oN [o4 90 16,o0 91 (oG true (.t 90) (o5 0)),o4 92 91,o2 93 (o8 15 0) 92 false,o2 94 (o7 93) 92 false,o2 95 (oK 20 [(.t 94),(o5 1),(o5 12)]) 92 false,o2 96 (.not (.t 95)) 92 false,o0 97 (.pick (.t 92) (.c (.bool true)) (.t 96))]
 (.cond (.t 97) (oN [o0 6 (.mov (.c (.bool false)))]
 oL)
 .skip))
 (.seq (.reg [o0 98 (o8 3 5),o0 99 (o7 98),o4 100 14,o0 101 (oC 4 99 100),o0 102 (oB 4 101),⟨some 17,.alloc [.str ⟨#[]⟩,.int .i64 0,.int .i64 0,.int .i64 0],none⟩,o1 (.store 4 (.t 17) (.t 102))])
 (oN [o0 103 (o8 15 0),o0 104 (o7 103),o0 105 (o8 17 3),o1 (.store 1 (.t 105) (.t 104))]
 (.reg [o0 106 (o8 3 5),o0 107 (o7 106),o4 108 14,o0 109 (oB 4 17),o0 110 (oC 4 107 108),o1 (.store 4 (.t 110) (.t 109))]))))))
 (.reg [o4 82 14,o0 83 (oI 82 1),o4 14 83]))
def aQ7:ACode:=.seq (oN [o4 161 25,o4 162 20,o0 163 (oF 162),o0 164 (oH 161 163)]
 (.cond (.t 164) .skip
 (oM 2)))
 (.seq (.block 3 (.reg [o4 167 24,o4 168 23,o4 169 20,o4 170 25,o0 171 (oC 1 169 170),o0 172 (o7 171),o0 173 (oC 1 168 172),o0 174 (o7 173),o0 175 (.bin .add (.t 167) (.t 174)),o4 24 175]))
 (.reg [o4 165 25,o0 166 (oI 165 1),o4 25 166]))
def a4:AFunc:=⟨185,[.tmp 6],
 oN [o0 3 (.box 7 (.t 0)),o0 4 (.box 3 (.t 1)),o0 5 (.box 3 (.t 2)),o0 6 (.mov (.c (.bool false)))]
 (oN [o0 27 (oB 7 3),o0 28 (oK 10 [.t 27]),o4 26 28,o0 29 (oD 26 0),o0 30 (oD 26 1),o0 31 (oD 26 2),o4 7 29,o4 8 30,o4 9 31]
 (oN [o0 33 (oB 3 4),o0 34 (oK 22 [.t 33]),o4 32 34,o0 35 (oD 32 0),o0 36 (oD 32 1),o0 37 (oD 32 2),o4 10 35,o4 11 36,o4 12 37]
 (.seq (oN [o4 38 9,o0 39 (oG true (.t 38) (o5 0)),o4 40 39,o2 41 (o9 12) 40 false,o2 42 (oG true (.t 41) (o5 0)) 40 false,o0 43 (.pick (.t 40) (.c (.bool true)) (.t 42)),o4 44 43,o2 45 (o8 4 1) 44 false,o2 46 (o7 45) 44 false,o2 47 (oF 46) 44 false,o2 48 (o8 3 5) 44 false,o2 49 (o7 48) 44 false,o2 50 (oF 49) 44 false,o2 51 (oH 47 50) 44 false,o0 52 (.pick (.t 44) (.c (.bool true)) (.t 51))]
 (.cond (.t 52) (oN [o0 53 (oK 23 []),o4 54 53,o2 55 (oK 12 []) 54 true,o0 56 (.pick (.t 54) (.t 55) (.c (.bool false))),o4 6 56]
 oL)
 .skip))
 (.seq (.reg [o0 57 (oB 3 4),o0 58 (oK 24 [(.t 57),(.c (.lit [] true none))]),o4 13 58])
 (.seq (.seq (.reg [o4 59 13,o0 60 (oF 59),o0 61 (oG false (.t 60) (o5 0)),o4 62 61,o2 63 (oB 7 3) 62 false,o2 64 (oK 14 [(.t 63),(.c (.lit [] true none))]) 62 false,o2 65 (oF 64) 62 false,o2 66 (oG false (.t 65) (o5 0)) 62 false,o0 67 (.pick (.t 62) (.c (.bool true)) (.t 66))])
 (.cond (.t 67) (oN [o0 68 (oK 23 []),o4 69 68,o2 70 (oK 12 []) 69 true,o0 71 (.pick (.t 69) (.t 70) (.c (.bool false))),o4 6 71]
 oL)
 .skip))
 (oN [o0 72 (.mklit 4 []),o0 73 (o8 3 5),o0 74 (o7 73),o0 75 (.append 4 40 (.t 72) (.t 74)),o0 76 (o8 3 5),o1 (.store 1 (.t 76) (.t 75))]
 (.seq (oN [o0 14 (oA 0)]
 (.block 0 (.loop aQB)))
 (.seq (.dreg [o3 111 (o8 5 0) 0 0,o3 112 (o7 111) 0 0,o3 113 (.conv .i64 (.t 112)) 0 0,o3 114 (o8 3 0) 0 0,o3 115 (o7 114) 0 0,o3 116 (oF 115) 0 0,o3 117 (oI 116 1) 0 0,o3 118 (.bin .rem (.t 113) (.t 117)) 0 0,o3 119 (o8 5 1) 0 0,o3 120 (o7 119) 0 0,o3 121 (.conv .i64 (.t 120)) 0 0,o3 122 (.bin .rem (.t 121) (o5 60)) 0 0,o3 18 (o9 118) 0 0,o3 19 (o9 122) 0 0])
 (oN [o0 124 (oB 7 3),o4 125 18,o4 126 19,o0 127 (oK 26 [.t 124,.t 125,.t 126]),o4 123 127,o0 128 (oD 123 0),o0 129 (oD 123 1),o0 130 (oD 123 2),o4 20 128,o4 21 129,o4 22 130]
 (.seq (oN [o4 131 22,o0 132 (oG true (.t 131) (o5 0))]
 (.cond (.t 132) (oN [o4 133 22,o0 134 (oG false (.t 133) (o5 9)),o4 135 134,o2 136 (o9 20) 135 true,o2 137 (oF 136) 135 true,o2 138 (oG false (.t 137) (o5 0)) 135 true,o0 139 (.pick (.t 135) (.t 138) (.c (.bool false))),o4 140 139,o2 141 (oK 23 []) 140 true,o0 142 (.pick (.t 140) (.t 141) (.c (.bool false))),o4 143 142,o2 144 (oK 12 []) 143 true,o0 145 (.pick (.t 143) (.t 144) (.c (.bool false))),o4 6 145]
 oL)
 .skip))
 (.seq (oN [o4 146 20,o0 147 (o8 3 5),o0 148 (o7 147),o0 149 (oF 148),o0 150 (oK 27 [.t 146,.t 149]),o0 151 (.not (.t 150))]
 (.cond (.t 151) (oN [o0 6 (.mov (.c (.bool false)))]
 oL)
 .skip))
 (oN [o4 152 13,o0 153 (o8 5 2),o0 154 (o7 153),o0 155 (.conv .i64 (.t 154)),o4 156 13,o0 157 (oF 156),o0 158 (.bin .rem (.t 155) (.t 157)),o0 159 (oC 1 152 158),o0 160 (o7 159),o4 23 160]
 (oN [o0 24 (oA 0)]
 (.seq (oN [o0 25 (oA 0)]
 (.block 2 (.loop aQ7)))
 (oN [o4 176 24,o4 177 19,o0 178 (.bin .geq (.t 176) (.t 177)),o4 179 178,o2 180 (oK 23 []) 179 true,o0 181 (.pick (.t 179) (.t 180) (.c (.bool false))),o4 182 181,o2 183 (oK 12 []) 182 true,o0 184 (.pick (.t 182) (.t 183) (.c (.bool false))),o4 6 184]
 oL)))))))))))))))⟩
def aQN:ACode:=.seq (oN [o4 115 16,o0 116 (o8 2 3),o0 117 (o7 116),o0 118 (oF 117),o0 119 (oH 115 118)]
 (.cond (.t 119) .skip
 (oM 0)))
 (.seq (.block 1 (.dreg [o3 122 (o8 15 0) 0 1,o3 123 (o7 122) 0 1,o3 124 (o8 3 3) 0 0,o3 125 (o7 124) 0 0,o3 126 (o9 16) 0 0,o3 127 (oK 17 [.t 125,.t 126]) 0 1,o3 128 (.bin .rem (.t 127) (o5 4)) 1 1,o3 129 (.mklit 1 [.t 128]) 1 1,o3 130 (.append 1 8 (.t 123) (.t 129)) 1 2,o3 131 (o8 15 0) 2 2,⟨o1 (.store 1 (.t 131) (.t 130)),2,3⟩]))
 (.reg [o4 120 16,o0 121 (oI 120 1),o4 16 121]))
def aQA:ACode:=.seq (oN [o4 180 25,o0 181 (o8 15 0),o0 182 (o7 181),o0 183 (oF 182),o0 184 (oH 180 183),o4 185 184,o2 186 (o9 24) 185 true,o2 187 (.bin .lss (.t 186) (o5 0)) 185 true,o0 188 (.pick (.t 185) (.t 187) (.c (.bool false)))]
 (.cond (.t 188) .skip
 (oM 2)))
 (.seq (.block 3 (.seq (.dreg [o3 191 (o9 23) 0 1,o3 192 (o8 15 0) 0 1,o3 193 (o7 192) 0 1,o3 194 (o9 25) 0 1,o3 195 (oC 1 193 194) 0 1,o3 196 (o7 195) 0 1,o3 197 (.bin .sub (.t 191) (.t 196)) 0 1,o3 198 (o9 22) 0 0,o3 199 (o8 2 4) 0 0,o3 200 (o7 199) 0 0,o3 201 (o9 25) 0 0,o3 202 (.bin .add (.t 200) (.t 201)) 0 0,o3 203 (oC 1 198 202) 0 0,o3 204 (o7 203) 0 0,o3 205 (oK 34 [.t 204]) 0 1,o3 206 (.bin .sub (.t 197) (.t 205)) 1 1,o3 23 (o9 206) 1 1])
 (oN [o4 207 23,o0 208 (.bin .leq (.t 207) (o5 0))]
 (.cond (.t 208) (.reg [o4 209 25,o0 210 (oI 209 1),o4 24 210])
 .skip))))
 (.reg [o4 189 25,o0 190 (oI 189 1),o4 25 190]))
def a5:AFunc:=⟨245,[.tmp 4],
 oN [o0 2 (.box 7 (.t 0)),o0 3 (.box 5 (.t 1)),o0 4 (.mov (.c (.bool false)))]
 (oN [o0 27 (oB 7 2),o0 28 (oK 28 [.t 27]),o4 26 28,o0 29 (oD 26 0),o0 30 (oD 26 1),o0 31 (oD 26 2),o4 5 29,o4 6 30,o4 7 31]
 (oN [o0 32 (o8 3 1),o0 33 (oB 2 32),o0 34 (oK 29 [(.t 33),(o5 0),(o5 40)]),o4 8 34]
 (.seq (oN [o4 35 7,o0 36 (oG true (.t 35) (o5 0)),o4 37 36,o2 38 (o9 8) 37 false,o2 39 (oG true (.t 38) (o5 0)) 37 false,o0 40 (.pick (.t 37) (.c (.bool true)) (.t 39)),o4 41 40,o2 42 (o8 3 1) 41 false,o2 43 (o8 42 1) 41 false,o2 44 (o7 43) 41 false,o2 45 (o8 3 1) 41 false,o2 46 (o8 45 0) 41 false,o2 47 (o7 46) 41 false,o2 48 (oI 47 3) 41 false,o2 49 (.bin .gtr (.t 44) (.t 48)) 41 false,o0 50 (.pick (.t 41) (.c (.bool true)) (.t 49))]
 (.cond (.t 50) (oN [o0 51 (oK 30 []),o4 52 51,o2 53 (oK 31 []) 52 true,o0 54 (.pick (.t 52) (.t 53) (.c (.bool false))),o4 4 54]
 oL)
 .skip))
 (.seq (.reg [o0 55 (oB 7 2),o0 56 (oK 32 [(.t 55),(.c (.lit [] true none))]),o4 9 56])
 (.seq (oN [o4 57 9,o0 58 (oF 57),o0 59 (oG false (.t 58) (o5 0))]
 (.cond (.t 59) (oN [o0 60 (oK 30 []),o4 61 60,o2 62 (oK 31 []) 61 true,o0 63 (.pick (.t 61) (.t 62) (.c (.bool false))),o4 4 63]
 oL)
 .skip))
 (oN [o0 64 (o8 3 0),o0 65 (o7 64),o0 66 (.conv .i64 (.t 65)),o0 67 (o8 2 5),o0 68 (o7 67),o0 69 (oF 68),o0 70 (.bin .rem (.t 66) (.t 69)),o4 10 70]
 (oN [o0 72 (oB 7 2),o4 73 10,o0 74 (oK 33 [.t 72,.t 73]),o4 71 74,o0 75 (oD 71 0),o0 76 (oD 71 1),o4 11 75,o4 12 76]
 (oN [o0 77 (o8 2 5),o0 78 (o7 77),o4 79 10,o0 80 (oC 5 78 79),o0 81 (o8 80 3),o0 82 (oB 2 81),o0 13 (.alloc [.int .i64 0,.int .i64 0]),o1 (.store 2 (.t 13) (.t 82))]
 (.seq (.dreg [o3 83 (o8 13 0) 0 0,o3 84 (o7 83) 0 0,o3 85 (oK 34 [.t 84]) 0 1,o3 86 (o8 13 1) 0 1,o3 87 (o7 86) 0 1,o3 88 (oK 34 [.t 87]) 1 2,o3 89 (.build [.int .i64 0,.int .i64 0] [(0,1,(.t 85)),(1,1,(.t 88))]) 2 2,o3 14 (.alloc [.int .i64 0,.int .i64 0]) 0 2,⟨o1 (.store 2 (.t 14) (.t 89)),2,3⟩])
 (.seq (oN [o4 90 12,o0 91 (oG true (.t 90) (o5 0))]
 (.cond (.t 91) (oN [o0 4 (.mov (.c (.bool false)))]
 oL)
 .skip))
 (.seq (oN [o4 92 11,o0 93 (oG true (.t 92) (o5 1)),o4 94 93,o2 95 (o8 14 1) 94 false,o2 96 (o7 95) 94 false,o2 97 (o8 14 0) 94 false,o2 98 (o7 97) 94 false,o2 99 (oI 98 3) 94 false,o2 100 (.bin .gtr (.t 96) (.t 99)) 94 false,o0 101 (.pick (.t 94) (.c (.bool true)) (.t 100))]
 (.cond (.t 101) (oN [o0 102 (oK 30 []),o4 103 102,o2 104 (oK 31 []) 103 true,o0 105 (.pick (.t 103) (.t 104) (.c (.bool false))),o4 4 105]
 oL)
 .skip))
 (.seq (.reg [o0 106 (oB 2 14),o0 107 (.mklit 2 [.t 106]),o0 108 (o8 3 1),o0 109 (oB 2 108),o0 110 (.build [.int .i64 0,.int .i64 0,.int .i64 0,.int .i64 0] [(2,2,(.t 109))]),o0 111 (.mklit 4 [.t 110]),o0 112 (.build [.lit [] true none,.int .i64 0,.lit [] true none,.lit [] true none,.lit [] true none] [(2,1,(.t 107)),(3,1,(.t 111))]),o0 15 (.alloc [.lit [] true none,.int .i64 0,.lit [] true none,.lit [] true none,.lit [] true none]),o1 (.store 5 (.t 15) (.t 112))])
 (.seq (oN [o0 113 (o8 2 4),o0 114 (o7 113),o4 16 114]
 (.block 0 (.loop aQN)))
 (oN [o0 133 (oB 5 15),o0 134 (oK 35 [(.t 133),(o5 0)]),o4 132 134,o0 135 (oD 132 0),o0 136 (oD 132 1),o0 137 (oD 132 2),o0 17 (.alloc [.int .i64 0,.int .i64 0]),o1 (.store 2 (.t 17) (.t 135)),o4 18 136,o4 19 137]
 (.seq (oN [o4 138 19,o0 139 (oG true (.t 138) (o5 0))]
 (.cond (.t 139) (oN [o0 4 (.mov (.c (.bool false)))]
 oL)
 .skip))
 (.seq (.reg [o4 140 9,o0 141 (o8 3 4),o0 142 (o7 141),o0 143 (oK 17 [(.t 142),(o5 0)]),o4 144 9,o0 145 (oF 144),o0 146 (.bin .rem (.t 143) (.t 145)),o0 147 (oC 2 140 146),o0 148 (oB 2 147),o0 20 (.alloc [.lit [] true none,.lit [] true none]),o1 (.store 2 (.t 20) (.t 148))])
 (.seq (.dreg [o3 149 (o8 20 1) 0 1,o3 150 (o7 149) 0 1,o3 151 (o9 10) 0 1,o3 152 (oC 1 150 151) 0 1,o3 153 (o7 152) 0 1,o3 154 (o8 3 4) 0 0,o3 155 (o7 154) 0 0,o3 156 (oK 17 [(.t 155),(o5 1)]) 0 1,o3 157 (o8 20 1) 0 1,o3 158 (o7 157) 0 1,o3 159 (o9 10) 0 1,o3 160 (oC 1 158 159) 0 1,o3 161 (o7 160) 0 1,o3 162 (oF 161) 0 1,o3 163 (.bin .rem (.t 156) (.t 162)) 1 1,o3 164 (oC 1 153 163) 1 1,o3 165 (o7 164) 1 1,o3 21 (o9 165) 1 1])
 (oN [o0 166 (oB 7 2),o4 167 10,o4 168 21,o0 169 (o8 20 0),o0 170 (o7 169),o0 171 (oK 36 [.t 166,.t 167,.t 168,.t 170]),o4 22 171]
 (.seq (.dreg [o3 172 (o8 3 1) 0 1,o3 173 (oB 2 172) 0 1,o3 174 (o8 3 4) 0 0,o3 175 (o7 174) 0 0,o3 176 (oK 17 [(.t 175),(o5 2)]) 0 1,o3 177 (oK 19 [.t 173,.t 176]) 1 2,o3 23 (o9 177) 2 2])
 (oN [o0 24 (.mov (.c (.int .i64 (-1))))]
 (.seq (oN [o4 178 23,o0 179 (oG false (.t 178) (o5 0))]
 (.cond (.t 179) (.reg [o0 24 (oA 0)])
 .skip))
 (.seq (oN [o0 25 (oA 0)]
 (.block 2 (.loop aQA)))
 (.seq (oN [o4 211 24,o0 212 (.bin .lss (.t 211) (o5 0))]
 (.cond (.t 212) (oN [o4 213 18,o0 214 (oG true (.t 213) (o5 1)),o4 215 214,o2 216 (oK 30 []) 215 true,o0 217 (.pick (.t 215) (.t 216) (.c (.bool false))),o4 218 217,o2 219 (oK 31 []) 218 true,o0 220 (.pick (.t 218) (.t 219) (.c (.bool false))),o4 4 220]
 oL)
 .skip))
 (oN [o4 221 18,o0 222 (oG true (.t 221) (o5 2)),o4 223 222,o2 224 (o9 24) 223 true,o2 225 (o8 17 0) 223 true,o2 226 (o7 225) 223 true,o2 227 (.bin .geq (.t 224) (.t 226)) 223 true,o0 228 (.pick (.t 223) (.t 227) (.c (.bool false))),o4 229 228,o2 230 (o9 18) 229 true,o2 231 (oG true (.t 230) (o5 1)) 229 true,o2 232 (o9 231) 229 true,o2 233 (o9 24) 232 false,o2 234 (o8 17 1) 232 false,o2 235 (o7 234) 232 false,o2 236 (.bin .leq (.t 233) (.t 235)) 232 false,o2 237 (.pick (.t 232) (.c (.bool true)) (.t 236)) 229 true,o0 238 (.pick (.t 229) (.t 237) (.c (.bool false))),o4 239 238,o2 240 (oK 30 []) 239 true,o0 241 (.pick (.t 239) (.t 240) (.c (.bool false))),o4 242 241,o2 243 (oK 31 []) 242 true,o0 244 (.pick (.t 242) (.t 243) (.c (.bool false))),o4 4 244]
 oL))))))))))))))))))))))))⟩
def aRR:ACode:=.seq (oN [o4 104 16,o0 105 (o8 2 4),o0 106 (o7 105),o0 107 (oF 106),o0 108 (oH 104 107)]
 (.cond (.t 108) .skip
 (oM 0)))
 (.seq (.block 1 (oN [o0 111 (o8 2 4),o0 112 (o7 111),o4 113 16,o0 114 (oC 3 112 113),o0 115 (oB 3 114),o0 17 (.alloc [.int .i64 0,.int .i64 0,.bool false]),o1 (.store 3 (.t 17) (.t 115))]
 (oN [o0 116 (o8 17 0),o0 117 (o7 116),o4 118 11,o0 119 (oG false (.t 117) (.t 118))]
 (.cond (.t 119) (.dreg [o3 120 (.mklit 3 []) 0 0,o3 121 (o8 15 6) 0 0,o3 122 (o7 121) 0 0,o3 123 (.append 3 24 (.t 120) (.t 122)) 0 1,o3 124 (o8 17 1) 0 1,o3 125 (o7 124) 0 1,o3 126 (o8 17 2) 0 1,o3 127 (o7 126) 0 1,o3 128 (.build [.int .i64 0,.int .i64 0,.bool false] [(1,1,(.t 125)),(2,1,(.t 127))]) 0 1,o3 129 (.mklit 3 [.t 128]) 0 1,o3 130 (.append 3 24 (.t 123) (.t 129)) 1 2,o3 131 (o8 15 6) 2 2,⟨o1 (.store 1 (.t 131) (.t 130)),2,3⟩])
 .skip))))
 (.reg [o4 109 16,o0 110 (oI 109 1),o4 16 110]))
def a6:AFunc:=⟨206,[.tmp 4],
 oN [o0 2 (.box 5 (.t 0)),o0 3 (.box 2 (.t 1)),o0 4 (.mov (.c (.bool false)))]
 (oN [o0 29 (oB 5 2),o0 30 (oK 37 [.t 29]),o4 28 30,o0 31 (oD 28 0),o0 32 (oD 28 1),o0 33 (oD 28 2),o4 5 31,o4 6 32,o4 7 33]
 (.seq (.seq (.reg [o4 34 7,o0 35 (oG true (.t 34) (o5 0)),o4 36 35,o2 37 (o8 2 3) 36 false,o2 38 (o7 37) 36 false,o2 39 (oF 38) 36 false,o2 40 (oG false (.t 39) (o5 0)) 36 false,o0 41 (.pick (.t 36) (.c (.bool true)) (.t 40)),o4 42 41,o2 43 (oB 5 2) 42 false,o2 44 (oK 38 [(.t 43),(.c (.lit [] true none))]) 42 false,o2 45 (.not (.t 44)) 42 false,o0 46 (.pick (.t 42) (.c (.bool true)) (.t 45))])
 (.cond (.t 46) (oN [o0 48 (oB 5 2),o0 49 (oK 35 [(.t 48),(o5 0)]),o4 47 49,o0 50 (oD 47 0),o0 51 (oD 47 1),o0 52 (oD 47 2),o0 8 (.alloc [.int .i64 0,.int .i64 0]),o1 (.store 2 (.t 8) (.t 50)),o4 9 51,o4 10 52]
 (oN [o4 53 10,o0 54 (oG true (.t 53) (o5 0)),o4 55 54,o2 56 (oK 31 []) 55 true,o0 57 (.pick (.t 55) (.t 56) (.c (.bool false))),o4 58 57,o2 59 (oK 39 []) 58 true,o0 60 (.pick (.t 58) (.t 59) (.c (.bool false))),o4 4 60]
 oL))
 .skip))
 (oN [o0 61 (.iaddr (some 2) 1 (.t 3) (o5 0)),o0 62 (o7 61),o0 63 (.conv .i64 (.t 62)),o0 64 (o8 2 3),o0 65 (o7 64),o0 66 (oF 65),o0 67 (.bin .rem (.t 63) (.t 66)),o4 11 67]
 (oN [o0 69 (oB 5 2),o4 70 11,o0 71 (oK 35 [.t 69,.t 70]),o4 68 71,o0 72 (oD 68 0),o0 73 (oD 68 1),o0 74 (oD 68 2),o0 12 (.alloc [.int .i64 0,.int .i64 0]),o1 (.store 2 (.t 12) (.t 72)),o4 13 73,o4 14 74]
 (.seq (oN [o4 75 14,o0 76 (oG true (.t 75) (o5 0)),o4 77 76,o2 78 (o9 13) 77 false,o2 79 (oK 20 [(.t 78),(o5 0),(o5 2)]) 77 false,o2 80 (.not (.t 79)) 77 false,o0 81 (.pick (.t 77) (.c (.bool true)) (.t 80))]
 (.cond (.t 81) (oN [o0 4 (.mov (.c (.bool false)))]
 oL)
 .skip))
 (.seq (.reg [o0 82 (o8 2 0),o0 83 (o7 82),o0 84 (oF 83),o0 85 (.max [(o5 1),(.t 84)]),o0 86 (oB 2 12),o0 87 (.build [.int .i64 0,.bool false] [(1,1,(.c (.bool true)))]),o0 88 (.mklit 2 [.t 87]),⟨some 89,.build [.str ⟨#[]⟩,.int .i64 0] [(0,1,(.c (.str ⟨#[102,105,114,115,116]⟩)))],none⟩,⟨some 90,.build [.str ⟨#[]⟩,.int .i64 0] [(0,1,(.c (.str ⟨#[115,101,99,111,110,100]⟩))),(1,1,(o5 1))],none⟩,o0 91 (.mklit 2 [.t 89,.t 90]),o0 92 (.build [.int .i64 0,.int .i64 0,.int .i64 0,.lit [] true none,.lit [] true none,.int .i64 0,.lit [] true none] [(0,1,(.t 85)),(1,2,(.t 86)),(5,1,(o5 1)),(4,1,(.t 88)),(3,1,(.t 91))]),o0 15 (.alloc [.int .i64 0,.int .i64 0,.int .i64 0,.lit [] true none,.lit [] true none,.int .i64 0,.lit [] true none]),o1 (.store 7 (.t 15) (.t 92))])
 (.seq (.dreg [o3 93 (o8 15 3) 0 0,o3 94 (o7 93) 0 0,o3 95 (.iaddr (some 2) 1 (.t 3) (o5 1)) 0 0,o3 96 (o7 95) 0 0,o3 97 (.conv .i64 (.t 96)) 0 0,o3 98 (o8 15 0) 0 0,o3 99 (o7 98) 0 0,o3 100 (.bin .rem (.t 97) (.t 99)) 0 0,o3 101 (.bin .add (o5 1) (.t 100)) 0 0,o3 102 (.iaddr none 2 (.t 94) (o5 1)) 0 0,o3 103 (o8 102 1) 0 0,⟨o1 (.store 1 (.t 103) (.t 101)),0,1⟩])
 (.seq (oN [o0 16 (oA 0)]
 (.block 0 (.loop aRR)))
 (.seq (oN [o4 132 13,o0 133 (oG false (.t 132) (o5 2))]
 (.cond (.t 133) (.reg [o0 134 (o8 15 4),o1 (.store 1 (.t 134) (.c (.lit [] true none)))])
 .skip))
 (.seq (oN [o0 136 (oB 7 15),o0 137 (oK 40 [.t 136]),o4 135 137,o0 138 (oD 135 0),o0 139 (oD 135 1),o0 140 (oD 135 2),o4 18 138,o4 19 139,o4 20 140]
 (oN [o4 141 20,o0 142 (oG true (.t 141) (o5 0))]
 (.cond (.t 142) (oN [o0 4 (.mov (.c (.bool false)))]
 oL)
 .skip)))
 (oN [o0 144 (oB 7 15),o0 145 (oK 41 [.t 144]),o4 143 145,o0 146 (oD 143 0),o0 147 (oD 143 1),o4 21 146,o4 22 147]
 (oN [o0 149 (oB 7 15),o0 150 (oK 42 [(.t 149),(o5 0)]),o4 148 150,o0 151 (oD 148 0),o0 152 (oD 148 1),o0 153 (oD 148 2),o0 23 (.alloc [.int .i64 0,.int .i64 0]),o1 (.store 2 (.t 23) (.t 151)),o4 24 152,o4 25 153]
 (oN [o0 155 (oB 7 15),o0 156 (oK 43 [(.t 155),(o5 0)]),o4 154 156,o0 157 (oD 154 0),o0 158 (oD 154 1),o4 26 157,o4 27 158]
 (.seq (oN [o4 159 22,o0 160 (oG true (.t 159) (o5 0)),o4 161 160,o2 162 (o9 25) 161 false,o2 163 (oG true (.t 162) (o5 0)) 161 false,o0 164 (.pick (.t 161) (.c (.bool true)) (.t 163)),o4 165 164,o2 166 (o9 27) 165 false,o2 167 (oG true (.t 166) (o5 0)) 165 false,o0 168 (.pick (.t 165) (.c (.bool true)) (.t 167)),o4 169 168,o2 170 (o9 21) 169 false,o2 171 (oF 170) 169 false,o2 172 (.bin .gtr (.t 171) (o5 0)) 169 false,o0 173 (.pick (.t 169) (.c (.bool true)) (.t 172)),o4 174 173,o2 175 (oB 2 23) 174 false,o2 176 (oB 2 12) 174 false,o2 177 (.eql (.agg [.i,.i]) true (.t 175) (.t 176)) 174 false,o0 178 (.pick (.t 174) (.c (.bool true)) (.t 177)),o4 179 178,o2 180 (o9 24) 179 false,o2 181 (oG false (.t 180) (o5 2)) 179 false,o2 182 (o9 13) 179 false,o2 183 (oG false (.t 182) (o5 2)) 179 false,o2 184 (.eql (.one .b) true (.t 181) (.t 183)) 179 false,o0 185 (.pick (.t 179) (.c (.bool true)) (.t 184))]
 (.cond (.t 185) (oN [o0 4 (.mov (.c (.bool false)))]
 oL)
 .skip))
 (.seq (oN [o4 186 13,o0 187 (oG false (.t 186) (o5 2))]
 (.cond (.t 187) (oN [o4 188 26,o0 189 (oF 188),o0 190 (oG false (.t 189) (o5 0)),o4 191 190,o2 192 (oK 31 []) 191 true,o0 193 (.pick (.t 191) (.t 192) (.c (.bool false))),o4 194 193,o2 195 (oK 39 []) 194 true,o0 196 (.pick (.t 194) (.t 195) (.c (.bool false))),o4 4 196]
 oL)
 .skip))
 (oN [o4 197 26,o0 198 (.mklit 1 [(o5 0)]),o0 199 (oK 44 [.t 197,.t 198]),o4 200 199,o2 201 (oK 31 []) 200 true,o0 202 (.pick (.t 200) (.t 201) (.c (.bool false))),o4 203 202,o2 204 (oK 39 []) 203 true,o0 205 (.pick (.t 203) (.t 204) (.c (.bool false))),o4 4 205]
 oL))))))))))))))))⟩
def aRT:ACode:=.seq (oN [o4 100 20,o4 101 14,o0 102 (oF 101),o0 103 (oH 100 102)]
 (.cond (.t 103) .skip
 (oM 0)))
 (.seq (.block 1 (.seq (.reg [o0 106 (o8 4 3),o0 107 (o7 106),o4 108 20,o0 109 (oC 6 107 108),o0 110 (oB 6 109),⟨some 21,.alloc [.str ⟨#[]⟩,.int .i64 0,.int .i64 0,.int .i64 0,.int .i64 0,.int .i64 0],none⟩,o1 (.store 6 (.t 21) (.t 110))])
 (.seq (.seq (.dreg [o3 111 (o9 17) 0 0,o3 112 (o9 20) 0 0,o3 113 (oC 1 111 112) 0 0,o3 114 (o7 113) 0 0,o3 115 (o9 14) 0 0,o3 116 (o9 20) 0 0,o3 117 (oC 2 115 116) 0 0,o3 118 (oB 2 117) 0 0,o3 119 (oK 53 [.t 114,.t 118]) 0 1,o3 120 (.not (.t 119)) 1 1])
 (.cond (.t 120) (oN [o0 6 (.mov (.c (.bool false)))]
 oL)
 .skip))
 (oN [o4 121 14,o4 122 20,o0 123 (oC 2 121 122),o0 124 (o8 123 1),o0 125 (o7 124),o0 126 (oK 54 [.t 125]),o0 127 (o8 21 1),o1 (.store 1 (.t 127) (.t 126))]
 (oN [o0 128 (o8 21 3),o0 129 (o7 128),o0 130 (o8 21 1),o0 131 (o7 130),o0 132 (.max [.t 129,.t 131]),o0 133 (o8 21 3),o1 (.store 1 (.t 133) (.t 132))]
 (.seq (.reg [o0 134 (oB 6 21),⟨some 22,.alloc [.str ⟨#[]⟩,.int .i64 0,.int .i64 0,.int .i64 0,.int .i64 0,.int .i64 0],none⟩,o1 (.store 6 (.t 22) (.t 134))])
 (oN [o4 135 17,o4 136 20,o0 137 (oC 1 135 136),o0 138 (o7 137),o0 139 (oK 54 [.t 138]),o0 140 (o8 22 1),o1 (.store 1 (.t 140) (.t 139))]
 (.seq (.dreg [o3 141 (.mklit 6 []) 0 0,o3 142 (o8 18 3) 0 0,o3 143 (o7 142) 0 0,o3 144 (.append 6 56 (.t 141) (.t 143)) 0 1,o3 145 (oB 6 21) 0 1,o3 146 (.mklit 6 [.t 145]) 0 1,o3 147 (.append 6 56 (.t 144) (.t 146)) 1 2,o3 148 (o8 18 3) 2 2,⟨o1 (.store 1 (.t 148) (.t 147)),2,3⟩])
 (.dreg [o3 149 (.mklit 6 []) 0 0,o3 150 (o8 19 3) 0 0,o3 151 (o7 150) 0 0,o3 152 (.append 6 56 (.t 149) (.t 151)) 0 1,o3 153 (oB 6 22) 0 1,o3 154 (.mklit 6 [.t 153]) 0 1,o3 155 (.append 6 56 (.t 152) (.t 154)) 1 2,o3 156 (o8 19 3) 2 2,⟨o1 (.store 1 (.t 156) (.t 155)),2,3⟩])))))))))
 (.reg [o4 104 20,o0 105 (oI 104 1),o4 20 105]))
def a7:AFunc:=⟨206,[.tmp 6],
 oN [o0 3 (.box 4 (.t 0)),o0 4 (.box 4 (.t 1)),o0 6 (.mov (.c (.bool false)))]
 (oN [o0 31 (oB 4 3),o0 32 (oK 45 [.t 31]),o4 30 32,o0 33 (oD 30 0),o0 34 (oD 30 1),o0 35 (oD 30 2),o4 7 33,o4 8 34,o4 9 35]
 (oN [o0 37 (oB 4 4),o0 38 (oK 46 [.t 37]),o4 36 38,o0 39 (oD 36 0),o0 40 (oD 36 1),o0 41 (oD 36 2),o4 10 39,o4 11 40,o4 12 41]
 (.seq (oN [o4 42 9,o0 43 (oG true (.t 42) (o5 0)),o4 44 43,o2 45 (o9 12) 44 false,o2 46 (oG true (.t 45) (o5 0)) 44 false,o0 47 (.pick (.t 44) (.c (.bool true)) (.t 46)),o4 48 47,o2 49 (o8 4 3) 48 false,o2 50 (o7 49) 48 false,o2 51 (oF 50) 48 false,o2 52 (o8 3 2) 48 false,o2 53 (o7 52) 48 false,o2 54 (oF 53) 48 false,o2 55 (oH 51 54) 48 false,o0 56 (.pick (.t 48) (.c (.bool true)) (.t 55))]
 (.cond (.t 56) (oN [o0 57 (oK 47 []),o4 58 57,o2 59 (oK 48 []) 58 true,o0 60 (.pick (.t 58) (.t 59) (.c (.bool false))),o4 6 60]
 oL)
 .skip))
 (.seq (.reg [o0 61 (oB 4 3),o0 62 (oK 49 [(.t 61),(.c (.lit [] true none))]),o4 13 62])
 (.seq (oN [o4 63 13,o0 64 (oF 63),o0 65 (oG false (.t 64) (o5 0))]
 (.cond (.t 65) (oN [o0 66 (oK 47 []),o4 67 66,o2 68 (oK 48 []) 67 true,o0 69 (.pick (.t 67) (.t 68) (.c (.bool false))),o4 6 69]
 oL)
 .skip))
 (oN [o0 71 (oB 4 3),o0 72 (oK 50 [.t 71]),o4 70 72,o0 73 (oD 70 0),o0 74 (oD 70 1),o4 14 73,o4 15 74]
 (.seq (oN [o4 75 15,o0 76 (.not (.t 75))]
 (.cond (.t 76) (oN [o0 77 (oK 47 []),o4 78 77,o2 79 (oK 48 []) 78 true,o0 80 (.pick (.t 78) (.t 79) (.c (.bool false))),o4 6 80]
 oL)
 .skip))
 (.seq (.dreg [o3 82 (oB 4 3) 0 1,o3 83 (o9 13) 0 1,o3 84 (o9 2) 0 1,o3 85 (.conv .i64 (.t 84)) 0 1,o3 86 (o9 13) 0 1,o3 87 (oF 86) 0 1,o3 88 (.bin .rem (.t 85) (.t 87)) 0 1,o3 89 (oC 2 83 88) 0 1,o3 90 (oB 2 89) 0 1,o3 91 (oB 4 3) 0 0,o3 92 (oK 52 [.t 91]) 0 1,o3 93 (oK 51 [.t 82,.t 90,.t 92]) 1 2,o3 81 (o9 93) 2 2,o3 94 (oD 81 0) 2 2,o3 95 (oD 81 1) 2 2,o3 16 (o9 94) 2 2,o3 17 (o9 95) 2 2])
 (.seq (.dreg [o3 96 (oB 4 4) 0 0,o3 97 (oB 4 4) 0 1,o3 18 (.alloc [.int .i64 0,.int .i64 0,.int .i64 0,.lit [] true none]) 0 0,o3 19 (.alloc [.int .i64 0,.int .i64 0,.int .i64 0,.lit [] true none]) 0 0,⟨o1 (.store 4 (.t 18) (.t 96)),0,1⟩,⟨o1 (.store 4 (.t 19) (.t 97)),1,2⟩])
 (oN [o0 98 (o8 18 3),o1 (.store 1 (.t 98) (.c (.lit [] true none))),o0 99 (o8 19 3),o1 (.store 1 (.t 99) (.c (.lit [] true none)))]
 (.seq (oN [o0 20 (oA 0)]
 (.block 0 (.loop aRT)))
 (oN [o0 158 (oB 4 18),o0 159 (oK 55 [.t 158]),o4 157 159,o0 160 (oD 157 0),o0 161 (oD 157 1),o0 162 (oD 157 2),o4 23 160,o4 24 161,o4 25 162]
 (.seq (oN [o4 163 25,o0 164 (oG true (.t 163) (o5 0))]
 (.cond (.t 164) (oN [o4 165 25,o0 166 (oG false (.t 165) (o5 9)),o4 167 166,o2 168 (oK 47 []) 167 true,o0 169 (.pick (.t 167) (.t 168) (.c (.bool false))),o4 170 169,o2 171 (oK 48 []) 170 true,o0 172 (.pick (.t 170) (.t 171) (.c (.bool false))),o4 6 172]
 oL)
 .skip))
 (oN [o0 174 (oB 4 19),o4 175 23,o0 176 (oK 56 [.t 174,.t 175]),o4 173 176,o0 177 (oD 173 0),o0 178 (oD 173 1),o4 26 177,o4 27 178]
 (oN [o0 180 (oB 4 19),o4 181 23,o0 182 (oK 57 [.t 180,.t 181]),o4 179 182,o0 183 (oD 179 0),o0 184 (oD 179 1),o4 28 183,o4 29 184]
 (oN [o4 185 27,o0 186 (oG false (.t 185) (o5 0)),o4 187 186,o2 188 (o9 29) 187 true,o2 189 (oG false (.t 188) (o5 0)) 187 true,o0 190 (.pick (.t 187) (.t 189) (.c (.bool false))),o4 191 190,o2 192 (o9 26) 191 true,o2 193 (oG false (.t 192) (o5 1)) 191 true,o0 194 (.pick (.t 191) (.t 193) (.c (.bool false))),o4 195 194,o2 196 (o9 28) 195 true,o2 197 (o9 24) 195 true,o2 198 (.bin .leq (.t 196) (.t 197)) 195 true,o0 199 (.pick (.t 195) (.t 198) (.c (.bool false))),o4 200 199,o2 201 (oK 47 []) 200 true,o0 202 (.pick (.t 200) (.t 201) (.c (.bool false))),o4 203 202,o2 204 (oK 48 []) 203 true,o0 205 (.pick (.t 203) (.t 204) (.c (.bool false))),o4 6 205]
 oL))))))))))))))))⟩
def aO5:ACode:=.seq (oN [o4 99 18,o4 100 15,o0 101 (oF 100),o0 102 (oH 99 101)]
 (.cond (.t 102) .skip
 (oM 0)))
 (.seq (.block 1 (.dreg [o3 105 (oB 2 17) 0 0,o3 106 (o9 15) 0 0,o3 107 (o9 18) 0 0,o3 108 (oC 2 106 107) 0 0,o3 109 (o8 108 0) 0 0,o3 110 (o7 109) 0 0,o3 111 (oK 58 [.t 105,.t 110]) 0 1,o3 112 (o9 15) 0 1,o3 113 (o9 18) 0 1,o3 114 (oC 2 112 113) 0 1,o3 115 (o8 114 1) 0 1,o3 116 (o7 115) 0 1,o3 117 (oK 58 [.t 111,.t 116]) 1 2,⟨o1 (.store 2 (.t 17) (.t 117)),2,3⟩]))
 (.reg [o4 103 18,o0 104 (oI 103 1),o4 18 104]))
def a8:AFunc:=⟨244,[.tmp 6],
 oN [o0 3 (.box 7 (.t 0)),o0 4 (.box 4 (.t 1)),o0 6 (.mov (.c (.bool false)))]
 (oN [o0 31 (oB 7 3),o0 32 (oK 10 [.t 31]),o4 30 32,o0 33 (oD 30 0),o0 34 (oD 30 1),o0 35 (oD 30 2),o4 7 33,o4 8 34,o4 9 35]
 (oN [o0 37 (oB 4 4),o0 38 (oK 45 [.t 37]),o4 36 38,o0 39 (oD 36 0),o0 40 (oD 36 1),o0 41 (oD 36 2),o4 10 39,o4 11 40,o4 12 41]
 (.seq (oN [o4 42 9,o0 43 (oG true (.t 42) (o5 0)),o4 44 43,o2 45 (o9 12) 44 false,o2 46 (oG true (.t 45) (o5 0)) 44 false,o0 47 (.pick (.t 44) (.c (.bool true)) (.t 46)),o4 48 47,o2 49 (o8 3 5) 48 false,o2 50 (o7 49) 48 false,o2 51 (oF 50) 48 false,o2 52 (oG false (.t 51) (o5 0)) 48 false,o0 53 (.pick (.t 48) (.c (.bool true)) (.t 52)),o4 54 53,o2 55 (o8 4 2) 54 false,o2 56 (o7 55) 54 false,o2 57 (oF 56) 54 false,o2 58 (oG false (.t 57) (o5 0)) 54 false,o0 59 (.pick (.t 54) (.c (.bool true)) (.t 58)),o4 60 59,o2 61 (o9 2) 60 false,o2 62 (oF 61) 60 false,o2 63 (.bin .lss (.t 62) (o5 6)) 60 false,o0 64 (.pick (.t 60) (.c (.bool true)) (.t 63))]
 (.cond (.t 64) (oN [o0 65 (oK 12 []),o4 66 65,o2 67 (oK 48 []) 66 true,o0 68 (.pick (.t 66) (.t 67) (.c (.bool false))),o4 6 68]
 oL)
 .skip))
 (.seq (.dreg [o3 69 (oB 4 4) 0 0,o3 70 (oK 49 [(.t 69),(.c (.lit [] true none))]) 0 1,o3 71 (oB 7 3) 0 1,o3 72 (oK 14 [(.t 71),(.c (.lit [] true none))]) 1 2,o3 13 (o9 70) 2 2,o3 14 (o9 72) 2 2])
 (.seq (oN [o4 73 13,o0 74 (oF 73),o0 75 (oG false (.t 74) (o5 0)),o4 76 75,o2 77 (o9 14) 76 false,o2 78 (oF 77) 76 false,o2 79 (oG false (.t 78) (o5 0)) 76 false,o0 80 (.pick (.t 76) (.c (.bool true)) (.t 79))]
 (.cond (.t 80) (oN [o0 81 (oK 12 []),o4 82 81,o2 83 (oK 48 []) 82 true,o0 84 (.pick (.t 82) (.t 83) (.c (.bool false))),o4 6 84]
 oL)
 .skip))
 (oN [o0 86 (oB 4 4),o0 87 (oK 50 [.t 86]),o4 85 87,o0 88 (oD 85 0),o0 89 (oD 85 1),o4 15 88,o4 16 89]
 (.seq (oN [o4 90 16,o0 91 (.not (.t 90))]
 (.cond (.t 91) (oN [o0 92 (oK 12 []),o4 93 92,o2 94 (oK 48 []) 93 true,o0 95 (.pick (.t 93) (.t 94) (.c (.bool false))),o4 6 95]
 oL)
 .skip))
 (oN [o4 96 15,o0 97 (.iaddr none 2 (.t 96) (o5 0)),o0 98 (oB 2 97),o0 17 (.alloc [.int .i64 0,.int .i64 0]),o1 (.store 2 (.t 17) (.t 98))]
 (.seq (oN [o0 18 (oA 1)]
 (.block 0 (.loop aO5)))
 (.seq (.dreg [o3 118 (o8 17 0) 0 0,o3 119 (o7 118) 0 0,o3 120 (oK 54 [.t 119]) 0 1,o3 121 (o8 17 1) 0 1,o3 122 (o7 121) 0 1,o3 123 (oK 54 [.t 122]) 1 2,o3 124 (.build [.int .i64 0,.int .i64 0] [(0,1,(.t 120)),(1,1,(.t 123))]) 2 2,o3 125 (o8 3 3) 2 2,⟨o1 (.store 2 (.t 125) (.t 124)),2,3⟩])
 (.seq (.dreg [o3 126 (o9 2) 0 0,o3 127 (.iaddr none 1 (.t 126) (o5 0)) 0 0,o3 128 (o7 127) 0 0,o3 129 (.conv .i64 (.t 128)) 0 0,o3 130 (o8 3 5) 0 0,o3 131 (o7 130) 0 0,o3 132 (oF 131) 0 0,o3 133 (.bin .rem (.t 129) (.t 132)) 0 0,o3 134 (o9 2) 0 0,o3 135 (.iaddr none 1 (.t 134) (o5 1)) 0 0,o3 136 (o7 135) 0 0,o3 137 (.conv .i64 (.t 136)) 0 0,o3 138 (o8 3 0) 0 0,o3 139 (o7 138) 0 0,o3 140 (oF 139) 0 0,o3 141 (oI 140 1) 0 0,o3 142 (.bin .rem (.t 137) (.t 141)) 0 0,o3 19 (o9 133) 0 0,o3 20 (o9 142) 0 0])
 (oN [o0 144 (oB 7 3),o4 145 19,o4 146 20,o0 147 (oK 59 [.t 144,.t 145,.t 146]),o4 143 147,o0 148 (oD 143 0),o0 149 (oD 143 1),o4 21 148,o4 22 149]
 (.seq (oN [o4 150 22,o0 151 (oG true (.t 150) (o5 0))]
 (.cond (.t 151) (oN [o0 6 (.mov (.c (.bool false)))]
 oL)
 .skip))
 (.seq (.reg [o4 152 14,o4 153 2,o0 154 (.iaddr none 1 (.t 153) (o5 2)),o0 155 (o7 154),o0 156 (.conv .i64 (.t 155)),o4 157 14,o0 158 (oF 157),o0 159 (.bin .rem (.t 156) (.t 158)),o0 160 (oC 2 152 159),o0 161 (oB 2 160),o0 23 (.alloc [.lit [] true none,.lit [] true none]),o1 (.store 2 (.t 23) (.t 161))])
 (.seq (.dreg [o3 162 (o8 23 1) 0 0,o3 163 (o7 162) 0 0,o3 164 (o9 19) 0 0,o3 165 (oC 1 163 164) 0 0,o3 166 (o7 165) 0 0,o3 167 (o9 2) 0 0,o3 168 (.iaddr none 1 (.t 167) (o5 3)) 0 0,o3 169 (o7 168) 0 0,o3 170 (.conv .i64 (.t 169)) 0 0,o3 171 (o8 23 1) 0 0,o3 172 (o7 171) 0 0,o3 173 (o9 19) 0 0,o3 174 (oC 1 172 173) 0 0,o3 175 (o7 174) 0 0,o3 176 (oF 175) 0 0,o3 177 (.bin .rem (.t 170) (.t 176)) 0 0,o3 178 (oC 1 166 177) 0 0,o3 179 (o7 178) 0 0,o3 24 (o9 179) 0 0])
 (.seq (.dreg [o3 181 (oB 4 4) 0 1,o3 182 (o9 13) 0 1,o3 183 (o9 2) 0 1,o3 184 (.iaddr none 1 (.t 183) (o5 4)) 0 1,o3 185 (o7 184) 0 1,o3 186 (.conv .i64 (.t 185)) 0 1,o3 187 (o9 13) 0 1,o3 188 (oF 187) 0 1,o3 189 (.bin .rem (.t 186) (.t 188)) 0 1,o3 190 (oC 2 182 189) 0 1,o3 191 (oB 2 190) 0 1,o3 192 (oB 4 4) 0 0,o3 193 (oK 52 [.t 192]) 0 1,o3 194 (oK 51 [.t 181,.t 191,.t 193]) 1 2,o3 180 (o9 194) 2 2,o3 195 (oD 180 0) 2 2,o3 196 (oD 180 1) 2 2,o3 25 (o9 195) 2 2,o3 26 (o9 196) 2 2])
 (oN [o4 197 26,o4 198 2,o0 199 (.iaddr none 1 (.t 198) (o5 5)),o0 200 (o7 199),o0 201 (.conv .i64 (.t 200)),o4 202 26,o0 203 (oF 202),o0 204 (.bin .rem (.t 201) (.t 203)),o0 205 (oC 1 197 204),o0 206 (o7 205),o0 207 (oK 54 [.t 206]),o4 27 207]
 (oN [o0 208 (o8 23 0),o0 209 (o7 208),o4 210 24,o4 211 20,o0 212 (oK 18 [.t 209,.t 210,.t 211]),o4 28 212]
 (oN [o4 213 28,o0 214 (o8 3 1),o0 215 (o7 214),o0 216 (.bin .geq (.t 213) (.t 215)),o4 217 216,o2 218 (o9 28) 217 true,o2 219 (o9 27) 217 true,o2 220 (.bin .add (.t 218) (.t 219)) 217 true,o2 221 (o8 3 2) 217 true,o2 222 (o7 221) 217 true,o2 223 (.bin .leq (.t 220) (.t 222)) 217 true,o0 224 (.pick (.t 217) (.t 223) (.c (.bool false))),o4 29 224]
 (oN [o4 225 21,o0 226 (oG true (.t 225) (o5 1)),o4 227 226,o2 228 (o9 29) 227 false,o0 229 (.pick (.t 227) (.c (.bool true)) (.t 228)),o4 230 229,o2 231 (o9 21) 230 true,o2 232 (oG true (.t 231) (o5 2)) 230 true,o2 233 (o9 232) 230 true,o2 234 (o9 29) 233 false,o2 235 (.not (.t 234)) 233 false,o2 236 (.pick (.t 233) (.c (.bool true)) (.t 235)) 230 true,o0 237 (.pick (.t 230) (.t 236) (.c (.bool false))),o4 238 237,o2 239 (oK 12 []) 238 true,o0 240 (.pick (.t 238) (.t 239) (.c (.bool false))),o4 241 240,o2 242 (oK 48 []) 241 true,o0 243 (.pick (.t 241) (.t 242) (.c (.bool false))),o4 6 243]
 oL))))))))))))))))))))⟩
def a9:AFunc:=⟨144,[.tmp 6],
 oN [o0 3 (.box 7 (.t 0)),o0 6 (.mov (.c (.bool false)))]
 (oN [o0 20 (oB 7 3),o0 21 (oK 60 [.t 20]),o4 19 21,o0 22 (oD 19 0),o0 23 (oD 19 1),o0 24 (oD 19 2),o4 7 22,o4 8 23,o4 9 24]
 (.seq (.seq (.reg [o4 25 9,o0 26 (oG true (.t 25) (o5 0)),o4 27 26,o2 28 (o8 3 3) 27 false,o2 29 (o7 28) 27 false,o2 30 (oF 29) 27 false,o2 31 (.bin .gtr (.t 30) (o5 4)) 27 false,o0 32 (.pick (.t 27) (.c (.bool true)) (.t 31)),o4 33 32,o2 34 (oB 7 3) 33 false,o2 35 (oK 61 [(.t 34),(.c (.lit [] true none))]) 33 false,o2 36 (oF 35) 33 false,o2 37 (oG false (.t 36) (o5 0)) 33 false,o0 38 (.pick (.t 33) (.c (.bool true)) (.t 37))])
 (.cond (.t 38) (oN [o0 39 (oK 39 []),o4 40 39,o2 41 (oK 62 []) 40 true,o0 42 (.pick (.t 40) (.t 41) (.c (.bool false))),o4 6 42]
 oL)
 .skip))
 (oN [o4 43 1,o0 44 (.conv .i64 (.t 43)),o0 45 (o8 3 5),o0 46 (o7 45),o0 47 (.bin .rem (.t 44) (.t 46)),o4 10 47]
 (.seq (.reg [o0 48 (oB 7 3),o0 49 (oK 61 [(.t 48),(.c (.lit [] true none))]),o4 11 49])
 (oN [o0 12 (oA 0),o0 13 (oA 0)]
 (.seq (oN [o4 50 2,o0 51 (oF 50),o0 52 (.bin .gtr (.t 51) (o5 0))]
 (.cond (.t 52) (.dreg [o3 53 (o9 2) 0 0,o3 54 (.iaddr none 1 (.t 53) (o5 0)) 0 0,o3 55 (o7 54) 0 0,o3 56 (.conv .i64 (.t 55)) 0 0,o3 57 (o9 2) 0 0,o3 58 (o9 2) 0 0,o3 59 (oF 58) 0 0,o3 60 (.bin .sub (.t 59) (o5 1)) 0 0,o3 61 (oC 1 57 60) 0 0,o3 62 (o7 61) 0 0,o3 63 (.conv .i64 (.t 62)) 0 0,o3 12 (o9 56) 0 0,o3 13 (o9 63) 0 0])
 .skip))
 (.seq (.reg [o4 64 11,o4 65 12,o4 66 11,o0 67 (oF 66),o0 68 (.bin .rem (.t 65) (.t 67)),o0 69 (oC 2 64 68),o0 70 (oB 2 69),o0 14 (.alloc [.lit [] true none,.lit [] true none]),o1 (.store 2 (.t 14) (.t 70))])
 (.seq (.dreg [o3 71 (o8 14 1) 0 0,o3 72 (o7 71) 0 0,o3 73 (o9 10) 0 0,o3 74 (oC 1 72 73) 0 0,o3 75 (o7 74) 0 0,o3 76 (o9 13) 0 0,o3 77 (o8 14 1) 0 0,o3 78 (o7 77) 0 0,o3 79 (o9 10) 0 0,o3 80 (oC 1 78 79) 0 0,o3 81 (o7 80) 0 0,o3 82 (oF 81) 0 0,o3 83 (.bin .rem (.t 76) (.t 82)) 0 0,o3 84 (oC 2 75 83) 0 0,o3 85 (oB 2 84) 0 0,o3 15 (.alloc [.int .i64 0,.int .i64 0]) 0 0,⟨o1 (.store 2 (.t 15) (.t 85)),0,1⟩])
 (oN [o0 87 (oB 7 3),o4 88 10,o0 89 (oK 43 [.t 87,.t 88]),o4 86 89,o0 90 (oD 86 0),o0 91 (oD 86 1),o4 16 90,o4 17 91]
 (.seq (oN [o4 92 17,o0 93 (oG true (.t 92) (o5 0)),o4 94 93,o2 95 (o9 16) 94 false,o2 96 (o8 3 3) 94 false,o2 97 (o7 96) 94 false,o2 98 (oF 97) 94 false,o2 99 (oK 27 [.t 95,.t 98]) 94 false,o2 100 (.not (.t 99)) 94 false,o0 101 (.pick (.t 94) (.c (.bool true)) (.t 100))]
 (.cond (.t 101) (oN [o0 6 (.mov (.c (.bool false)))]
 oL)
 .skip))
 (.seq (oN [o0 102 (o8 15 0),o0 103 (o7 102),o0 104 (oG false (.t 103) (.c (.int .i64 (-1))))]
 (.cond (.t 104) (oN [o0 105 (oK 39 []),o4 106 105,o2 107 (oK 62 []) 106 true,o0 108 (.pick (.t 106) (.t 107) (.c (.bool false))),o4 6 108]
 oL)
 .skip))
 (.seq (.dreg [o3 109 (oB 7 3) 0 0,o3 110 (o8 3 4) 0 0,o3 111 (o7 110) 0 0,o3 112 (o8 15 1) 0 0,o3 113 (o7 112) 0 0,o3 114 (oC 2 111 113) 0 0,o3 115 (o8 114 0) 0 0,o3 116 (o7 115) 0 0,o3 117 (oK 63 [.t 109,.t 116]) 0 1,o3 18 (o9 117) 1 1])
 (.seq (oN [o4 118 16,o4 119 18,o0 120 (oK 64 [.t 118,.t 119]),o0 121 (.not (.t 120))]
 (.cond (.t 121) (oN [o0 6 (.mov (.c (.bool false)))]
 oL)
 .skip))
 (.seq (.dreg [o3 122 (o8 3 3) 0 0,o3 123 (o7 122) 0 0,o3 124 (oF 123) 0 0,o3 125 (o9 16) 0 0,o3 126 (.iaddr none 1 (.t 125) (o5 0)) 0 0,o3 127 (o7 126) 0 0,o3 128 (o9 16) 0 0,o3 129 (o9 16) 0 0,o3 130 (oF 129) 0 0,o3 131 (.bin .sub (.t 130) (o5 1)) 0 0,o3 132 (oC 1 128 131) 0 0,o3 133 (o7 132) 0 0,o3 134 (.build [.int .i64 0,.int .i64 0] [(0,1,(.t 127)),(1,1,(.t 133))]) 0 0,o3 135 (oK 66 [.t 124,.t 134]) 0 1,o3 136 (o9 18) 0 1,o3 137 (oK 65 [.t 135,.t 136]) 1 2,o3 138 (o9 137) 2 2,⟨o2 139 (oK 39 []) 138 true,2,3⟩,o3 140 (.pick (.t 138) (.t 139) (.c (.bool false))) 3 3,o3 141 (o9 140) 3 3,⟨o2 142 (oK 62 []) 141 true,3,4⟩,o3 143 (.pick (.t 141) (.t 142) (.c (.bool false))) 4 4,o3 6 (o9 143) 4 4])
 oL))))))))))))))⟩
def a20:AFunc:=⟨15,[.tmp 6],
 oN [o0 6 (.mov (.c (.bool false)))]
 (oN [o4 7 0,o4 8 1,o0 9 (.bin .geq (.t 7) (.t 8)),o4 10 9,o2 11 (o9 0) 10 true,o2 12 (o9 2) 10 true,o2 13 (.bin .leq (.t 11) (.t 12)) 10 true,o0 14 (.pick (.t 10) (.t 13) (.c (.bool false))),o4 6 14]
 oL)⟩
def a25:AFunc:=⟨28,[.cell 4 (some 2),.tmp 5],
 oN [o0 2 (.box 3 (.t 0)),o0 4 (.alloc [.int .i64 0,.int .i64 0]),o0 5 (oA 0)]
 (.seq (.dreg [o3 8 (oB 3 2) 0 1,o3 9 (o9 1) 0 0,o3 10 (o8 2 1) 0 0,o3 11 (o7 10) 0 0,o3 12 (oF 11) 0 0,o3 13 (oK 115 [.t 9,.t 12]) 0 1,o3 14 (oK 114 [.t 8,.t 13]) 1 2,o3 7 (o9 14) 2 2,o3 15 (oD 7 0) 2 2,o3 16 (oD 7 1) 2 2,o3 6 (o9 15) 2 2,o3 5 (o9 16) 2 2])
 (.seq (oN [o4 17 5,o0 18 (oG true (.t 17) (o5 0))]
 (.cond (.t 18) (oN [o0 19 (oB 2 4),o4 20 5,o1 (.store 2 (.t 4) (.t 19)),o4 5 20]
 oL)
 .skip))
 (oN [o4 22 6,o4 23 1,o0 24 (oK 116 [.t 22,.t 23]),o4 21 24,o0 25 (oD 21 0),o0 26 (oD 21 1),o1 (.store 2 (.t 4) (.t 25))]
 (oN [o0 27 (oB 2 4),o1 (.store 2 (.t 4) (.t 27)),o0 5 (oA 0)]
 oL))))⟩
def aBW:ACode:=.seq (oN [o4 7 6,o4 8 0,o0 9 (oF 8),o0 10 (oH 7 9)]
 (.cond (.t 10) .skip
 (oM 0)))
 (.seq (.block 1 (.seq (oN [o4 13 0,o4 14 6,o0 15 (oC 1 13 14),o0 16 (o7 15),o4 17 5,o0 18 (.bin .leq (.t 16) (.t 17)),o4 19 18,o2 20 (o9 0) 19 false,o2 21 (o9 6) 19 false,o2 22 (oC 1 20 21) 19 false,o2 23 (o7 22) 19 false,o2 24 (o9 1) 19 false,o2 25 (.bin .geq (.t 23) (.t 24)) 19 false,o0 26 (.pick (.t 19) (.c (.bool true)) (.t 25))]
 (.cond (.t 26) (oN [o0 4 (.mov (.c (.bool false)))]
 oL)
 .skip))
 (.reg [o4 27 0,o4 28 6,o0 29 (oC 1 27 28),o0 30 (o7 29),o4 5 30])))
 (.reg [o4 11 6,o0 12 (oI 11 1),o4 6 12]))
def a27:AFunc:=⟨31,[.tmp 4],
 oN [o0 4 (.mov (.c (.bool false)))]
 (oN [o0 5 (.mov (.c (.int .i64 (-1))))]
 (.seq (oN [o0 6 (oA 0)]
 (.block 0 (.loop aBW)))
 (oN [o0 4 (.mov (.c (.bool true)))]
 oL)))⟩
def a29:AFunc:=⟨26,[.tmp 6],
 oN [o0 3 (.box 2 (.t 0)),o0 6 (oA 0)]
 (.seq (oN [o0 7 (o8 3 0),o0 8 (o7 7),o4 9 1,o4 10 2,o0 11 (oK 20 [.t 8,.t 9,.t 10]),o0 12 (.not (.t 11)),o4 13 12,o2 14 (o8 3 1) 13 false,o2 15 (o7 14) 13 false,o2 16 (o9 1) 13 false,o2 17 (o9 2) 13 false,o2 18 (oK 20 [.t 15,.t 16,.t 17]) 13 false,o2 19 (.not (.t 18)) 13 false,o0 20 (.pick (.t 13) (.c (.bool true)) (.t 19))]
 (.cond (.t 20) (oN [o0 6 (oA 7)]
 oL)
 .skip))
 (.seq (oN [o0 21 (o8 3 1),o0 22 (o7 21),o0 23 (o8 3 0),o0 24 (o7 23),o0 25 (oH 22 24)]
 (.cond (.t 25) (oN [o0 6 (oA 2)]
 oL)
 .skip))
 (oN [o0 6 (oA 0)]
 oL)))⟩
def a39:AFunc:=⟨209,[.tmp 0],
 oN [o0 0 (.mov (.c (.bool false)))]
 (.seq (.reg [o0 32 (oK 153 [(.c (.lit [] true none))]),o0 33 (oK 154 [(o5 6)]),o0 34 (oK 155 [(o5 10)]),o0 35 (.mklit 3 [.t 33,.t 34]),o0 36 (oK 153 [.t 35]),o0 37 (oK 154 [(o5 6)]),o0 38 (oK 155 [(o5 10)]),o0 39 (oK 155 [(o5 3)]),o0 40 (.mklit 3 [.t 37,.t 38,.t 39]),o0 41 (oK 153 [.t 40]),o0 1 (.alloc [.int .i64 0,.int .i64 0,.int .i64 0,.lit [] true none,.lit [] true none,.int .i64 0,.lit [] true none]),o0 2 (.alloc [.int .i64 0,.int .i64 0,.int .i64 0,.lit [] true none,.lit [] true none,.int .i64 0,.lit [] true none]),o0 3 (.alloc [.int .i64 0,.int .i64 0,.int .i64 0,.lit [] true none,.lit [] true none,.int .i64 0,.lit [] true none]),o1 (.store 7 (.t 1) (.t 32)),o1 (.store 7 (.t 2) (.t 36)),o1 (.store 7 (.t 3) (.t 41))])
 (oN [o0 43 (oB 7 1),o0 44 (oK 42 [(.t 43),(o5 0)]),o4 42 44,o0 45 (oD 42 0),o0 46 (oD 42 1),o0 47 (oD 42 2),o0 4 (.alloc [.int .i64 0,.int .i64 0]),o1 (.store 2 (.t 4) (.t 45)),o4 5 46,o4 6 47]
 (oN [o0 49 (oB 7 2),o0 50 (oK 42 [(.t 49),(o5 0)]),o4 48 50,o0 51 (oD 48 0),o0 52 (oD 48 1),o0 53 (oD 48 2),o0 7 (.alloc [.int .i64 0,.int .i64 0]),o1 (.store 2 (.t 7) (.t 51)),o4 8 52,o4 9 53]
 (oN [o0 55 (oB 7 2),o0 56 (oK 156 [(.t 55),(o5 0)]),o4 54 56,o0 57 (oD 54 0),o0 58 (oD 54 1),o4 10 57,o4 11 58]
 (oN [o0 60 (oB 7 2),o0 61 (oK 43 [(.t 60),(o5 0)]),o4 59 61,o0 62 (oD 59 0),o0 63 (oD 59 1),o4 12 62,o4 13 63]
 (oN [o0 65 (oB 7 1),o0 66 (oK 157 [.t 65]),o4 64 66,o0 67 (oD 64 0),o0 68 (oD 64 1),o0 69 (oD 64 2),o4 14 67,o4 15 68,o4 16 69]
 (oN [o0 71 (oB 7 2),o0 72 (oK 158 [.t 71]),o4 70 72,o0 73 (oD 70 0),o0 74 (oD 70 1),o4 17 73,o4 18 74]
 (oN [o0 76 (oB 7 1),o0 77 (oK 159 [(.t 76),(o5 0)]),o4 75 77,o0 78 (oD 75 0),o0 79 (oD 75 1),o0 80 (oD 75 2),o4 19 78,o4 20 79,o4 21 80]
 (oN [o0 82 (oB 7 3),o0 83 (oK 41 [.t 82]),o4 81 83,o0 84 (oD 81 0),o0 85 (oD 81 1),o4 22 84,o4 23 85]
 (oN [o0 87 (oB 7 3),o0 88 (oK 156 [(.t 87),(o5 0)]),o4 86 88,o0 89 (oD 86 0),o0 90 (oD 86 1),o4 24 89,o4 25 90]
 (oN [o0 92 (oK 154 [(o5 12)]),o0 93 (.mklit 3 [.t 92]),o0 94 (oK 153 [.t 93]),o0 95 (oK 159 [(.t 94),(o5 0)]),o4 91 95,o0 96 (oD 91 0),o0 97 (oD 91 1),o0 98 (oD 91 2),o4 26 96,o4 27 97,o4 28 98]
 (oN [o0 100 (oK 154 [(o5 12)]),o0 101 (.mklit 3 [.t 100]),o0 102 (oK 153 [.t 101]),o0 103 (oK 42 [(.t 102),(o5 0)]),o4 99 103,o0 104 (oD 99 0),o0 105 (oD 99 1),o0 106 (oD 99 2),o0 29 (.alloc [.int .i64 0,.int .i64 0]),o1 (.store 2 (.t 29) (.t 104)),o4 30 105,o4 31 106]
 (.seq (.dreg [o3 107 (o9 6) 0 0,o3 108 (oG false (.t 107) (o5 0)) 0 0,o3 109 (o9 108) 0 0,⟨o2 110 (o9 9) 109 true,0,0⟩,⟨o2 111 (oG false (.t 110) (o5 0)) 109 true,0,0⟩,o3 112 (.pick (.t 109) (.t 111) (.c (.bool false))) 0 0,o3 113 (o9 112) 0 0,⟨o2 114 (o9 11) 113 true,0,0⟩,⟨o2 115 (oG false (.t 114) (o5 0)) 113 true,0,0⟩,o3 116 (.pick (.t 113) (.t 115) (.c (.bool false))) 0 0,o3 117 (o9 116) 0 0,⟨o2 118 (o9 13) 117 true,0,0⟩,⟨o2 119 (oG false (.t 118) (o5 0)) 117 true,0,0⟩,o3 120 (.pick (.t 117) (.t 119) (.c (.bool false))) 0 0,o3 121 (o9 120) 0 0,⟨o2 122 (o9 16) 121 true,0,0⟩,⟨o2 123 (oG false (.t 122) (o5 0)) 121 true,0,0⟩,o3 124 (.pick (.t 121) (.t 123) (.c (.bool false))) 0 0,o3 125 (o9 124) 0 0,⟨o2 126 (o9 18) 125 true,0,0⟩,⟨o2 127 (oG false (.t 126) (o5 0)) 125 true,0,0⟩,o3 128 (.pick (.t 125) (.t 127) (.c (.bool false))) 0 0,o3 129 (o9 128) 0 0,⟨o2 130 (o9 21) 129 true,0,0⟩,⟨o2 131 (oG false (.t 130) (o5 0)) 129 true,0,0⟩,o3 132 (.pick (.t 129) (.t 131) (.c (.bool false))) 0 0,o3 133 (o9 132) 0 0,⟨o2 134 (o9 23) 133 true,0,0⟩,⟨o2 135 (oG false (.t 134) (o5 0)) 133 true,0,0⟩,o3 136 (.pick (.t 133) (.t 135) (.c (.bool false))) 0 0,o3 137 (o9 136) 0 0,⟨o2 138 (o9 25) 137 true,0,0⟩,⟨o2 139 (oG false (.t 138) (o5 8)) 137 true,0,0⟩,o3 140 (.pick (.t 137) (.t 139) (.c (.bool false))) 0 0,o3 141 (o9 140) 0 0,⟨o2 142 (o9 28) 141 true,0,0⟩,⟨o2 143 (oG false (.t 142) (o5 9)) 141 true,0,0⟩,o3 144 (.pick (.t 141) (.t 143) (.c (.bool false))) 0 0,o3 145 (o9 144) 0 0,⟨o2 146 (o9 31) 145 true,0,0⟩,⟨o2 147 (oG false (.t 146) (o5 0)) 145 true,0,0⟩,o3 148 (.pick (.t 145) (.t 147) (.c (.bool false))) 0 0,o3 149 (o9 148) 0 0,⟨o2 150 (o9 30) 149 true,0,0⟩,⟨o2 151 (oG false (.t 150) (o5 2)) 149 true,0,0⟩,o3 152 (.pick (.t 149) (.t 151) (.c (.bool false))) 0 0,o3 153 (o9 152) 0 0,⟨o2 154 (oB 2 4) 153 true,0,1⟩,⟨o2 155 (oK 160 [(o5 4),(o5 12)]) 153 true,0,1⟩,⟨o2 156 (.eql (.agg [.i,.i]) false (.t 154) (.t 155)) 153 true,1,1⟩,o3 157 (.pick (.t 153) (.t 156) (.c (.bool false))) 1 1,o3 158 (o9 157) 1 1,⟨o2 159 (o9 5) 158 true,1,1⟩,⟨o2 160 (oG false (.t 159) (o5 0)) 158 true,1,1⟩,o3 161 (.pick (.t 158) (.t 160) (.c (.bool false))) 1 1,o3 162 (o9 161) 1 1,⟨o2 163 (oB 2 7) 162 true,1,2⟩,⟨o2 164 (oK 160 [(o5 7),(o5 9)]) 162 true,1,2⟩,⟨o2 165 (.eql (.agg [.i,.i]) false (.t 163) (.t 164)) 162 true,2,2⟩,o3 166 (.pick (.t 162) (.t 165) (.c (.bool false))) 2 2,o3 167 (o9 166) 2 2,⟨o2 168 (o9 8) 167 true,2,2⟩,⟨o2 169 (oG false (.t 168) (o5 1)) 167 true,2,2⟩,o3 170 (.pick (.t 167) (.t 169) (.c (.bool false))) 2 2,o3 171 (o9 170) 2 2,⟨o2 172 (o9 10) 171 true,2,2⟩,⟨o2 173 (.mklit 1 [(o5 1)]) 171 true,2,2⟩,⟨o2 174 (oK 44 [.t 172,.t 173]) 171 true,2,3⟩,o3 175 (.pick (.t 171) (.t 174) (.c (.bool false))) 3 3,o3 176 (o9 175) 3 3,⟨o2 177 (o9 12) 176 true,3,3⟩,⟨o2 178 (.mklit 1 [(o5 1)]) 176 true,3,3⟩,⟨o2 179 (oK 44 [.t 177,.t 178]) 176 true,3,4⟩,o3 180 (.pick (.t 176) (.t 179) (.c (.bool false))) 4 4,o3 181 (o9 180) 4 4,⟨o2 182 (o9 14) 181 true,4,4⟩,⟨o2 183 (.mklit 1 [(o5 0),(o5 2)]) 181 true,4,4⟩,⟨o2 184 (oK 44 [.t 182,.t 183]) 181 true,4,5⟩,o3 185 (.pick (.t 181) (.t 184) (.c (.bool false))) 5 5,o3 186 (o9 185) 5 5,⟨o2 187 (o9 15) 186 true,5,5⟩,⟨o2 188 (.mklit 1 [(o5 0),(o5 1),(o5 2)]) 186 true,5,5⟩,⟨o2 189 (oK 44 [.t 187,.t 188]) 186 true,5,6⟩,o3 190 (.pick (.t 186) (.t 189) (.c (.bool false))) 6 6,o3 191 (o9 190) 6 6,⟨o2 192 (o9 17) 191 true,6,6⟩,⟨o2 193 (.mklit 1 [(o5 1)]) 191 true,6,6⟩,⟨o2 194 (oK 44 [.t 192,.t 193]) 191 true,6,7⟩,o3 195 (.pick (.t 191) (.t 194) (.c (.bool false))) 7 7,o3 196 (o9 195) 7 7,⟨o2 197 (o9 19) 196 true,7,7⟩,⟨o2 198 (oG false (.t 197) (o5 7)) 196 true,7,7⟩,o3 199 (.pick (.t 196) (.t 198) (.c (.bool false))) 7 7,o3 200 (o9 199) 7 7,⟨o2 201 (o9 20) 200 true,7,7⟩,⟨o2 202 (oG false (.t 201) (o5 5)) 200 true,7,7⟩,o3 203 (.pick (.t 200) (.t 202) (.c (.bool false))) 7 7,o3 204 (o9 203) 7 7,⟨o2 205 (o9 22) 204 true,7,7⟩,⟨o2 206 (.mklit 1 [(o5 2)]) 204 true,7,7⟩,⟨o2 207 (oK 44 [.t 205,.t 206]) 204 true,7,8⟩,o3 208 (.pick (.t 204) (.t 207) (.c (.bool false))) 8 8,o3 0 (o9 208) 8 8])
 oL)))))))))))))⟩
def aB3:ACode:=oN [o0 10 (oH 9 8)]
 (.seq (.cond (.t 10) .skip
 (oM 0))
 (.seq (.block 1 (oN [o4 11 9,o0 12 (oC 1 7 9),o0 13 (oB 1 12),o0 6 (.alloc [.nilFunc]),o4 5 11,o1 (.store 1 (.t 6) (.t 13))]
 (oN [o0 15 (o8 6 0),o0 16 (o7 15),o0 17 (oB 7 1),o0 18 (.call (.t 16) [.t 17]),o4 14 18,o0 19 (oD 14 0),o0 20 (oD 14 1),o4 3 19,o4 4 20]
 (oN [o4 21 4,o0 22 (oG true (.t 21) (o5 0))]
 (.cond (.t 22) (oN [o4 23 5,o0 24 (oI 23 1),o4 25 3,o4 26 4,o4 2 24,o4 3 25,o4 4 26]
 oL)
 .skip)))))
 (.reg [o0 27 (oI 9 1),o4 9 27])))
def a40:AFunc:=⟨28,[.tmp 2,.tmp 3,.tmp 4],
 oN [o0 1 (.box 7 (.t 0)),o0 2 (oA 0),o0 3 (oA 0),o0 4 (oA 0)]
 (.seq (oN [o0 7 (oK 161 []),o0 8 (oF 7),o0 9 (oA 0)]
 (.block 0 (.loop aB3)))
 (oN [o0 2 (oA 0),o0 3 (oA 0),o0 4 (oA 0)]
 oL))⟩
def aB6:ACode:=oN [o0 29 (oH 28 27)]
 (.seq (.cond (.t 29) .skip
 (oM 0))
 (.seq (.block 1 (oN [o4 30 28,o4 6 30]
 (oN [o4 31 6,o4 32 4,o0 33 (oF 32),o0 34 (oK 162 [.t 31,.t 33]),o4 7 34]
 (oN [o4 35 5,o0 36 (.not (.t 35)),o4 37 36,o2 38 (o9 7) 37 false,o2 39 (o9 2) 37 false,o2 40 (oK 163 [.t 38,.t 39]) 37 false,o0 41 (.pick (.t 37) (.c (.bool true)) (.t 40)),o4 42 41,o2 43 (oB 7 1) 42 true,o2 44 (o9 6) 42 true,o2 45 (oK 164 [.t 43,.t 44]) 42 true,o2 46 (oK 165 [.t 45]) 42 true,o0 47 (.pick (.t 42) (.t 46) (.c (.bool false)))]
 (.cond (.t 47) (.reg [o4 48 7,o4 2 48,o0 5 (.mov (.c (.bool true)))])
 .skip)))))
 (.reg [o0 49 (oI 28 1),o4 28 49])))
def a41:AFunc:=⟨51,[.tmp 2,.tmp 3],
 oN [o0 1 (.box 7 (.t 0)),o0 2 (.mov (.c (.lit [] true none))),o0 3 (oA 0)]
 (.seq (oN [o0 9 (oB 7 1),o0 10 (oK 40 [.t 9]),o4 8 10,o0 11 (oD 8 0),o0 12 (oD 8 1),o0 13 (oD 8 2),o4 3 13]
 (oN [o4 14 3,o0 15 (oG true (.t 14) (o5 0))]
 (.cond (.t 15) (oN [o4 16 3,o0 2 (.mov (.c (.lit [] true none))),o4 3 16]
 oL)
 .skip)))
 (oN [o0 17 (o8 1 6),o0 18 (o7 17),o0 19 (oF 18),o0 20 (.mkslice [.int .i64 0,.int .i64 0,.bool false] 24 (.t 19) (.t 19)),o4 4 20]
 (oN [o4 21 4,o0 22 (o8 1 6),o0 23 (o7 22),o0 24 (.copy 3 (.t 21) (.t 23))]
 (oN [o0 5 (.mov (.c (.bool false)))]
 (.seq (oN [o4 25 4,o0 26 (oF 25),o0 27 (.bin .shl (o5 1) (.t 26)),o0 28 (oA 0)]
 (.block 0 (.loop aB6)))
 (oN [o4 50 2,o4 2 50,o0 3 (oA 0)]
 oL))))))⟩
def aAY:ACode:=oN [o0 25 (.bin .lss (.t 24) (o5 25))]
 (.seq (.cond (.t 25) .skip
 (oM 0))
 (.seq (.block 1 (oN [o4 26 24,o4 9 26]
 (.seq (oN [o4 27 9,o0 28 (.iaddr (some 26) 1 (.t 8) (.t 27)),o0 29 (o7 28),o0 30 (oG false (.t 29) (o5 0))]
 (.cond (.t 30) (oM 1)
 .skip))
 (.seq (oN [o0 31 (o8 4 0),o0 32 (o7 31),o0 33 (.bin .lss (.t 32) (o5 0))]
 (.cond (.t 33) (.reg [o4 34 9,o0 35 (o8 4 0),o1 (.store 1 (.t 35) (.t 34))])
 .skip))
 (.reg [o4 36 9,o0 37 (o8 4 1),o1 (.store 1 (.t 37) (.t 36))])))))
 (.reg [o0 38 (oI 24 1),o4 24 38])))
def a42:AFunc:=⟨50,[.cell 4 (some 2),.tmp 5,.tmp 6],
 oN [o0 2 (.box 7 (.t 0)),o0 4 (.alloc [.int .i64 0,.int .i64 0]),o0 5 (oA 0),o0 6 (oA 0)]
 (oN [o0 11 (oB 7 2),o4 12 1,o0 13 (oK 166 [.t 11,.t 12]),o4 10 13,o0 14 (oD 10 0),o0 15 (oD 10 1),o4 7 14,o4 6 15]
 (.seq (oN [o4 16 6,o0 17 (oG true (.t 16) (o5 0))]
 (.cond (.t 17) (oN [o0 18 (oB 2 4),o4 19 6,o1 (.store 2 (.t 4) (.t 18)),o0 5 (oA 0),o4 6 19]
 oL)
 .skip))
 (oN [o4 20 7,o4 21 1,o0 22 (oK 167 [.t 20,.t 21]),o0 8 (.alloc [.int .i64 0,.int .i64 0,.int .i64 0,.int .i64 0,.int .i64 0,.int .i64 0,.int .i64 0,.int .i64 0,.int .i64 0,.int .i64 0,.int .i64 0,.int .i64 0,.int .i64 0,.int .i64 0,.int .i64 0,.int .i64 0,.int .i64 0,.int .i64 0,.int .i64 0,.int .i64 0,.int .i64 0,.int .i64 0,.int .i64 0,.int .i64 0,.int .i64 0,.int .i64 0]),o1 (.store 26 (.t 8) (.t 22))]
 (oN [o0 23 (o8 4 0),o1 (.store 1 (.t 23) (.c (.int .i64 (-1))))]
 (.seq (oN [o0 24 (oA 0)]
 (.block 0 (.loop aAY)))
 (.seq (.block 2 (oN [o0 40 (o8 4 0),o0 41 (o7 40),o0 42 (.bin .lss (.t 41) (o5 0)),o4 39 42]
 (.cond (.t 39) (oN [o0 43 (.build [.int .i64 0,.int .i64 0] []),o1 (.store 2 (.t 4) (.t 43)),o0 5 (oA 2),o0 6 (oA 0)]
 oL)
 (oN [o0 45 (.iaddr (some 26) 1 (.t 8) (o5 25)),o0 46 (o7 45),o0 47 (oG false (.t 46) (o5 0)),o4 44 47]
 (.cond (.t 44) (oN [o0 48 (oB 2 4),o1 (.store 2 (.t 4) (.t 48)),o0 5 (oA 1),o0 6 (oA 0)]
 oL)
 .skip)))))
 (oN [o0 49 (oB 2 4),o1 (.store 2 (.t 4) (.t 49)),o0 5 (oA 0),o0 6 (oA 0)]
 oL)))))))⟩
def aA8:ACode:=oN [o0 32 (oH 31 30)]
 (.seq (.cond (.t 32) .skip
 (oM 0))
 (.seq (.block 1 (oN [o0 33 (oC 1 29 31),o0 34 (o7 33),o4 11 34]
 (.reg [o4 35 9,o4 36 8,o0 37 (o8 2 4),o0 38 (o7 37),o4 39 11,o0 40 (oC 2 38 39),o0 41 (o8 40 0),o0 42 (o7 41),o0 43 (.call (.t 36) [.t 42]),o0 44 (.bin .shl (o5 1) (.t 43)),o0 45 (.bin .or (.t 35) (.t 44)),o4 9 45])))
 (.reg [o0 46 (oI 31 1),o4 31 46])))
def a43:AFunc:=⟨52,[.tmp 4,.tmp 5],
 oN [o0 2 (.box 7 (.t 0)),o0 4 (.mov (.c (.lit [] true none))),o0 5 (oA 0)]
 (oN [o0 13 (oB 7 2),o4 14 1,o0 15 (oK 166 [.t 13,.t 14]),o4 12 15,o0 16 (oD 12 0),o0 17 (oD 12 1),o4 6 16,o4 7 17]
 (.seq (oN [o4 18 7,o0 19 (oG true (.t 18) (o5 0))]
 (.cond (.t 19) (oN [o4 20 7,o0 4 (.mov (.c (.lit [] true none))),o4 5 20]
 oL)
 .skip))
 (oN [o4 21 6,o0 22 (.mkfun 168 [.t 21] []),o4 8 22,o0 9 (oA 0)]
 (.seq (.seq (.dreg [o3 23 (o9 6) 0 0,o3 24 (o9 1) 0 0,o3 25 (oK 169 [.t 23,.t 24]) 0 1,o3 26 (o8 2 4) 0 1,o3 27 (o7 26) 0 1,o3 28 (oF 27) 0 1,o3 29 (oK 162 [.t 25,.t 28]) 1 2,o3 30 (oF 29) 2 2,o3 31 (oA 0) 0 2])
 (.block 0 (.loop aA8)))
 (oN [o4 47 9,o0 48 (o8 2 3),o0 49 (o7 48),o0 50 (oF 49),o0 51 (oK 162 [.t 47,.t 50]),o4 4 51,o0 5 (oA 0)]
 oL)))))⟩
def a44:AFunc:=⟨22,[.tmp 4],
 oN [o0 4 (.mov (.c (.bool false)))]
 (oN [o4 5 0,o0 6 (oF 5),o4 7 1,o0 8 (oF 7),o0 9 (oG false (.t 6) (.t 8)),o4 10 9,o2 11 (o9 0) 10 true,o2 12 (o9 1) 10 true,o2 13 (oK 170 [.t 11,.t 12]) 10 true,o2 14 (.not (.t 13)) 10 true,o0 15 (.pick (.t 10) (.t 14) (.c (.bool false))),o4 16 15,o2 17 (o9 1) 16 true,o2 18 (o9 0) 16 true,o2 19 (oK 170 [.t 17,.t 18]) 16 true,o2 20 (.not (.t 19)) 16 true,o0 21 (.pick (.t 16) (.t 20) (.c (.bool false))),o4 4 21]
 oL)⟩
def a53:AFunc:=⟨11,[.tmp 4],
 oN [o0 3 (.box 2 (.t 1)),o0 4 (.mov (.c (.bool false)))]
 (oN [o4 5 0,o0 6 (o8 3 0),o0 7 (o7 6),o0 8 (o8 3 1),o0 9 (o7 8),o0 10 (oK 20 [.t 5,.t 7,.t 9]),o4 4 10]
 oL)⟩
def aB8:ACode:=.seq (oN [o4 36 7,o0 37 (o8 1 3),o0 38 (o7 37),o0 39 (oF 38),o0 40 (oH 36 39)]
 (.cond (.t 40) .skip
 (oM 0)))
 (.seq (.block 1 (oN [o0 43 (o8 1 3),o0 44 (o7 43),o4 45 7,o0 46 (oC 2 44 45),o0 47 (o8 46 0),o0 48 (o7 47),o4 49 6,o0 50 (oK 67 [.t 48,.t 49]),o4 8 50]
 (oN [o4 51 6,o0 52 (o8 1 3),o0 53 (o7 52),o4 54 7,o0 55 (oC 2 53 54),o0 56 (o8 55 0),o0 57 (o7 56),o0 58 (.mklit 1 [.t 57]),o0 59 (.append 1 16 (.t 51) (.t 58)),o4 6 59]
 (.seq (oN [o4 60 8,o0 61 (oG false (.t 60) (o5 0))]
 (.cond (.t 61) (.reg [o0 62 (oB 7 1),o4 63 7,o0 64 (oK 205 [.t 62,.t 63]),o4 8 64])
 .skip))
 (oN [o4 65 8,o0 66 (oG true (.t 65) (o5 0))]
 (.cond (.t 66) (oN [o4 67 7,o4 68 8,o0 2 (oA 2),o4 3 67,o4 4 68]
 oL)
 .skip))))))
 (.reg [o4 41 7,o0 42 (oI 41 1),o4 7 42]))
def aA4:ACode:=.seq (oN [o4 73 9,o0 74 (o8 1 4),o0 75 (o7 74),o0 76 (oF 75),o0 77 (oH 73 76)]
 (.cond (.t 77) .skip
 (oM 2)))
 (.seq (.block 3 (.seq (.dreg [o3 80 (oB 7 1) 0 0,o3 81 (o8 1 4) 0 0,o3 82 (o7 81) 0 0,o3 83 (o9 9) 0 0,o3 84 (oC 2 82 83) 0 0,o3 85 (o8 84 0) 0 0,o3 86 (o7 85) 0 0,o3 87 (oK 206 [.t 80,.t 86]) 0 1,o3 88 (.not (.t 87)) 1 1])
 (.cond (.t 88) (oN [o4 89 9,o0 2 (oA 3),o4 3 89,o0 4 (oA 7)]
 oL)
 .skip)))
 (.reg [o4 78 9,o0 79 (oI 78 1),o4 9 79]))
def aAX:ACode:=.seq (oN [o4 94 10,o0 95 (o8 1 6),o0 96 (o7 95),o0 97 (oF 96),o0 98 (oH 94 97)]
 (.cond (.t 98) .skip
 (oM 4)))
 (.seq (.block 5 (.seq (.seq (.dreg [o3 101 (o8 1 6) 0 0,o3 102 (o7 101) 0 0,o3 103 (o9 10) 0 0,o3 104 (oC 3 102 103) 0 0,o3 105 (o8 104 0) 0 0,o3 106 (o7 105) 0 0,o3 107 (o8 1 5) 0 0,o3 108 (o7 107) 0 0,o3 109 (.bin .sub (.t 108) (o5 1)) 0 0,o3 110 (oK 20 [(.t 106),(o5 0),(.t 109)]) 0 1,o3 111 (.not (.t 110)) 1 1])
 (.cond (.t 111) (oN [o4 112 10,o0 2 (oA 4),o4 3 112,o0 4 (oA 4)]
 oL)
 .skip))
 (.seq (.dreg [o3 113 (oB 7 1) 0 0,o3 114 (o8 1 6) 0 0,o3 115 (o7 114) 0 0,o3 116 (o9 10) 0 0,o3 117 (oC 3 115 116) 0 0,o3 118 (o8 117 1) 0 0,o3 119 (o7 118) 0 0,o3 120 (oK 206 [.t 113,.t 119]) 0 1,o3 121 (.not (.t 120)) 1 1])
 (.cond (.t 121) (oN [o4 122 10,o0 2 (oA 4),o4 3 122,o0 4 (oA 7)]
 oL)
 .skip))))
 (.reg [o4 99 10,o0 100 (oI 99 1),o4 10 100]))
def a60:AFunc:=⟨123,[.tmp 2,.tmp 3,.tmp 4],
 oN [o0 1 (.box 7 (.t 0)),o0 2 (oA 0),o0 3 (oA 0),o0 4 (oA 0)]
 (oN [o0 11 (o8 1 1),o0 12 (oB 2 11),o0 13 (oK 29 [(.t 12),(o5 0),(o5 8)]),o4 5 13]
 (.seq (oN [o0 14 (o8 1 0),o0 15 (o7 14),o0 16 (oK 20 [(.t 15),(o5 1),(o5 24)]),o0 17 (.not (.t 16)),o4 18 17,o2 19 (o9 5) 18 false,o2 20 (oG false (.t 19) (o5 7)) 18 false,o0 21 (.pick (.t 18) (.c (.bool true)) (.t 20)),o4 22 21,o2 23 (o8 1 5) 22 false,o2 24 (o7 23) 22 false,o2 25 (oK 20 [(.t 24),(o5 1),(o5 3)]) 22 false,o2 26 (.not (.t 25)) 22 false,o0 27 (.pick (.t 22) (.c (.bool true)) (.t 26))]
 (.cond (.t 27) (oN [o0 2 (oA 1),o0 3 (oA 0),o0 4 (oA 7)]
 oL)
 .skip))
 (.seq (oN [o4 28 5,o0 29 (oG true (.t 28) (o5 0))]
 (.cond (.t 29) (oN [o4 30 5,o0 2 (oA 1),o0 3 (oA 0),o4 4 30]
 oL)
 .skip))
 (.seq (oN [o0 31 (o8 1 3),o0 32 (o7 31),o0 33 (oF 32),o0 34 (oK 20 [(.t 33),(o5 1),(o5 5)]),o0 35 (.not (.t 34))]
 (.cond (.t 35) (oN [o0 2 (oA 2),o0 3 (oA 0),o0 4 (oA 3)]
 oL)
 .skip))
 (oN [o0 6 (.mov (.c (.lit [] true none)))]
 (.seq (oN [o0 7 (oA 0)]
 (.block 0 (.loop aB8)))
 (.seq (oN [o0 69 (o8 1 4),o0 70 (o7 69),o0 71 (oF 70),o0 72 (.bin .gtr (.t 71) (o5 4))]
 (.cond (.t 72) (oN [o0 2 (oA 3),o0 3 (oA 0),o0 4 (oA 3)]
 oL)
 .skip))
 (.seq (oN [o0 9 (oA 0)]
 (.block 2 (.loop aA4)))
 (.seq (oN [o0 90 (o8 1 6),o0 91 (o7 90),o0 92 (oF 91),o0 93 (.bin .gtr (.t 92) (o5 5))]
 (.cond (.t 93) (oN [o0 2 (oA 4),o0 3 (oA 0),o0 4 (oA 3)]
 oL)
 .skip))
 (.seq (oN [o0 10 (oA 0)]
 (.block 4 (.loop aAX)))
 (oN [o0 2 (oA 0),o0 3 (oA 0),o0 4 (oA 0)]
 oL)))))))))))⟩
def FI:ACode:=.seq (oN [o4 25 10,o0 26 (o8 2 5),o0 27 (o7 26),o0 28 (oH 25 27),o4 29 28,o2 30 (o9 9) 29 true,o0 31 (.pick (.t 29) (.t 30) (.c (.bool false)))]
 (.cond (.t 31) .skip
 (oM 2)))
 (.seq (.block 3 (.seq (.dreg [o3 34 (oB 7 2) 0 0,o3 35 (o9 10) 0 0,o3 36 (o9 5) 0 0,o3 37 (o9 7) 0 0,o3 38 (oC 1 36 37) 0 0,o3 39 (o7 38) 0 0,o3 40 (o9 1) 0 0,o3 41 (oK 208 [.t 34,.t 35,.t 39,.t 40]) 0 1,o3 11 (o9 41) 1 1])
 (oN [o4 42 11,o0 43 (oF 42),o0 44 (.bin .gtr (.t 43) (o5 0)),o4 9 44]
 (.reg [o0 45 (.mklit 1 []),o0 46 (o8 8 1),o0 47 (o7 46),o0 48 (.append 1 24 (.t 45) (.t 47)),o4 49 11,o0 50 (.mklit 1 [.t 49]),o0 51 (.append 1 24 (.t 48) (.t 50)),o0 52 (o8 8 1),o1 (.store 1 (.t 52) (.t 51))]))))
 (.reg [o4 32 10,o0 33 (oI 32 1),o4 10 33]))
def aB1:ACode:=.seq (oN [o4 14 7,o4 15 5,o0 16 (oF 15),o0 17 (oH 14 16)]
 (.cond (.t 17) .skip
 (oM 0)))
 (.seq (.block 1 (.seq (.reg [o4 20 5,o4 21 7,o0 22 (oC 1 20 21),o0 23 (o7 22),o0 24 (.build [.lit [] true none,.lit [] true none] [(0,1,(.t 23))]),o0 8 (.alloc [.lit [] true none,.lit [] true none]),o1 (.store 2 (.t 8) (.t 24))])
 (oN [o0 9 (.mov (.c (.bool true)))]
 (.seq (oN [o0 10 (oA 0)]
 (.block 2 (.loop FI)))
 (oN [o4 53 9]
 (.cond (.t 53) (.reg [o4 54 6,o0 55 (oB 2 8),o0 56 (.mklit 2 [.t 55]),o0 57 (.append 2 48 (.t 54) (.t 56)),o4 6 57])
 .skip))))))
 (.reg [o4 18 7,o0 19 (oI 18 1),o4 7 19]))
def a61:AFunc:=⟨59,[.tmp 4],
 oN [o0 2 (.box 7 (.t 0)),o0 4 (.mov (.c (.lit [] true none)))]
 (oN [o0 12 (oB 7 2),o0 13 (oK 207 [.t 12]),o4 5 13]
 (oN [o0 6 (.mov (.c (.lit [] true none)))]
 (.seq (oN [o0 7 (oA 0)]
 (.block 0 (.loop aB1)))
 (oN [o4 58 6,o4 4 58]
 oL))))⟩
def a62:AFunc:=⟨191,[.tmp 0],
 oN [o0 0 (.mov (.c (.bool false)))]
 (.seq (.reg [o0 30 (oK 209 [(.c (.lit [] true none))]),o0 31 (oK 210 []),o0 32 (oK 211 []),o0 1 (.alloc [.lit [] true none,.lit [] true none,.lit [] true none,.lit [] true none,.lit [] true none]),o0 2 (.alloc [.lit [] true none,.lit [] true none,.lit [] true none,.lit [] true none,.lit [] true none]),o0 3 (.alloc [.lit [] true none,.lit [] true none,.lit [] true none,.lit [] true none,.lit [] true none]),o1 (.store 5 (.t 1) (.t 30)),o1 (.store 5 (.t 2) (.t 31)),o1 (.store 5 (.t 3) (.t 32))])
 (oN [o0 34 (oB 5 1),o0 35 (oK 212 [(.t 34),(o5 0)]),o4 33 35,o0 36 (oD 33 0),o0 37 (oD 33 1),o4 4 36,o4 5 37]
 (oN [o0 39 (oB 5 1),o0 40 (oK 213 [(.t 39),(o5 0)]),o4 38 40,o0 41 (oD 38 0),o0 42 (oD 38 1),o4 6 41,o4 7 42]
 (oN [o0 44 (oB 5 1),o0 45 (oK 213 [(.t 44),(o5 4)]),o4 43 45,o0 46 (oD 43 0),o0 47 (oD 43 1),o4 8 46,o4 9 47]
 (oN [o0 49 (oB 5 2),o0 50 (oK 213 [(.t 49),(o5 4)]),o4 48 50,o0 51 (oD 48 0),o0 52 (oD 48 1),o4 10 51,o4 11 52]
 (oN [o0 54 (oB 5 1),o0 55 (oK 214 [.t 54]),o4 53 55,o0 56 (oD 53 0),o0 57 (oD 53 1),o4 12 56,o4 13 57]
 (oN [o0 59 (oB 5 1),o0 60 (oK 215 [(.t 59),(o5 2)]),o4 58 60,o0 61 (oD 58 0),o0 62 (oD 58 1),o0 14 (.alloc [.int .i64 0,.int .i64 0]),o1 (.store 2 (.t 14) (.t 61)),o4 15 62]
 (oN [o0 64 (oB 5 2),o0 65 (oK 215 [(.t 64),(o5 2)]),o4 63 65,o0 66 (oD 63 0),o0 67 (oD 63 1),o0 16 (.alloc [.int .i64 0,.int .i64 0]),o1 (.store 2 (.t 16) (.t 66)),o4 17 67]
 (oN [o0 69 (oB 5 1),o0 70 (oK 216 [.t 69]),o4 68 70,o0 71 (oD 68 0),o0 72 (oD 68 1),o4 18 71,o4 19 72]
 (oN [o0 74 (oB 5 1),o0 75 (oK 217 [(.t 74),(o5 1),(o5 12)]),o4 73 75,o0 76 (oD 73 0),o0 77 (oD 73 1),o0 78 (oD 73 2),o4 20 76,o4 21 77,o4 22 78]
 (oN [o0 80 (oB 5 1),o0 81 (oK 217 [(.t 80),(o5 1),(o5 13)]),o4 79 81,o0 82 (oD 79 0),o0 83 (oD 79 1),o0 84 (oD 79 2),o4 23 82,o4 24 83,o4 25 84]
 (oN [o0 86 (oB 5 3),o0 87 (oK 218 [.t 86]),o4 85 87,o0 88 (oD 85 0),o0 89 (oD 85 1),o4 26 88,o4 27 89]
 (oN [o0 91 (oB 5 3),o0 92 (oK 212 [(.t 91),(o5 0)]),o4 90 92,o0 93 (oD 90 0),o0 94 (oD 90 1),o4 28 93,o4 29 94]
 (.seq (.dreg [o3 95 (o9 5) 0 0,o3 96 (oG false (.t 95) (o5 0)) 0 0,o3 97 (o9 96) 0 0,⟨o2 98 (o9 7) 97 true,0,0⟩,⟨o2 99 (oG false (.t 98) (o5 0)) 97 true,0,0⟩,o3 100 (.pick (.t 97) (.t 99) (.c (.bool false))) 0 0,o3 101 (o9 100) 0 0,⟨o2 102 (o9 9) 101 true,0,0⟩,⟨o2 103 (oG false (.t 102) (o5 0)) 101 true,0,0⟩,o3 104 (.pick (.t 101) (.t 103) (.c (.bool false))) 0 0,o3 105 (o9 104) 0 0,⟨o2 106 (o9 11) 105 true,0,0⟩,⟨o2 107 (oG false (.t 106) (o5 0)) 105 true,0,0⟩,o3 108 (.pick (.t 105) (.t 107) (.c (.bool false))) 0 0,o3 109 (o9 108) 0 0,⟨o2 110 (o9 13) 109 true,0,0⟩,⟨o2 111 (oG false (.t 110) (o5 0)) 109 true,0,0⟩,o3 112 (.pick (.t 109) (.t 111) (.c (.bool false))) 0 0,o3 113 (o9 112) 0 0,⟨o2 114 (o9 15) 113 true,0,0⟩,⟨o2 115 (oG false (.t 114) (o5 0)) 113 true,0,0⟩,o3 116 (.pick (.t 113) (.t 115) (.c (.bool false))) 0 0,o3 117 (o9 116) 0 0,⟨o2 118 (o9 17) 117 true,0,0⟩,⟨o2 119 (oG false (.t 118) (o5 0)) 117 true,0,0⟩,o3 120 (.pick (.t 117) (.t 119) (.c (.bool false))) 0 0,o3 121 (o9 120) 0 0,⟨o2 122 (o9 19) 121 true,0,0⟩,⟨o2 123 (oG false (.t 122) (o5 0)) 121 true,0,0⟩,o3 124 (.pick (.t 121) (.t 123) (.c (.bool false))) 0 0,o3 125 (o9 124) 0 0,⟨o2 126 (o9 22) 125 true,0,0⟩,⟨o2 127 (oG false (.t 126) (o5 0)) 125 true,0,0⟩,o3 128 (.pick (.t 125) (.t 127) (.c (.bool false))) 0 0,o3 129 (o9 128) 0 0,⟨o2 130 (o9 25) 129 true,0,0⟩,⟨o2 131 (oG false (.t 130) (o5 9)) 129 true,0,0⟩,o3 132 (.pick (.t 129) (.t 131) (.c (.bool false))) 0 0,o3 133 (o9 132) 0 0,⟨o2 134 (o9 27) 133 true,0,0⟩,⟨o2 135 (oG false (.t 134) (o5 0)) 133 true,0,0⟩,o3 136 (.pick (.t 133) (.t 135) (.c (.bool false))) 0 0,o3 137 (o9 136) 0 0,⟨o2 138 (o9 29) 137 true,0,0⟩,⟨o2 139 (oG false (.t 138) (o5 8)) 137 true,0,0⟩,o3 140 (.pick (.t 137) (.t 139) (.c (.bool false))) 0 0,o3 141 (o9 140) 0 0,⟨o2 142 (o9 4) 141 true,0,0⟩,⟨o2 143 (.mklit 1 [(o5 2),(o5 3)]) 141 true,0,0⟩,⟨o2 144 (oK 44 [.t 142,.t 143]) 141 true,0,1⟩,o3 145 (.pick (.t 141) (.t 144) (.c (.bool false))) 1 1,o3 146 (o9 145) 1 1,⟨o2 147 (o9 6) 146 true,1,1⟩,⟨o2 148 (oG false (.t 147) (o5 2)) 146 true,1,1⟩,o3 149 (.pick (.t 146) (.t 148) (.c (.bool false))) 1 1,o3 150 (o9 149) 1 1,⟨o2 151 (o9 8) 150 true,1,1⟩,⟨o2 152 (oG false (.t 151) (o5 0)) 150 true,1,1⟩,o3 153 (.pick (.t 150) (.t 152) (.c (.bool false))) 1 1,o3 154 (o9 153) 1 1,⟨o2 155 (o9 10) 154 true,1,1⟩,⟨o2 156 (oG false (.t 155) (o5 1)) 154 true,1,1⟩,o3 157 (.pick (.t 154) (.t 156) (.c (.bool false))) 1 1,o3 158 (o9 157) 1 1,⟨o2 159 (o9 12) 158 true,1,1⟩,⟨o2 160 (.mklit 1 [(o5 1),(o5 3),(o5 4)]) 158 true,1,1⟩,⟨o2 161 (oK 44 [.t 159,.t 160]) 158 true,1,2⟩,o3 162 (.pick (.t 158) (.t 161) (.c (.bool false))) 2 2,o3 163 (o9 162) 2 2,⟨o2 164 (oB 2 14) 163 true,2,3⟩,⟨o2 165 (oK 219 [(o5 0),(o5 65)]) 163 true,2,3⟩,⟨o2 166 (.eql (.agg [.i,.i]) false (.t 164) (.t 165)) 163 true,3,3⟩,o3 167 (.pick (.t 163) (.t 166) (.c (.bool false))) 3 3,o3 168 (o9 167) 3 3,⟨o2 169 (oB 2 16) 168 true,3,4⟩,⟨o2 170 (oK 219 [(o5 65),(o5 65)]) 168 true,3,4⟩,⟨o2 171 (.eql (.agg [.i,.i]) false (.t 169) (.t 170)) 168 true,4,4⟩,o3 172 (.pick (.t 168) (.t 171) (.c (.bool false))) 4 4,o3 173 (o9 172) 4 4,⟨o2 174 (o9 18) 173 true,4,4⟩,⟨o2 175 (.mklit 1 [(o5 1)]) 173 true,4,4⟩,⟨o2 176 (oK 44 [.t 174,.t 175]) 173 true,4,5⟩,o3 177 (.pick (.t 173) (.t 176) (.c (.bool false))) 5 5,o3 178 (o9 177) 5 5,⟨o2 179 (o9 20) 178 true,5,5⟩,⟨o2 180 (oG false (.t 179) (o5 1)) 178 true,5,5⟩,o3 181 (.pick (.t 178) (.t 180) (.c (.bool false))) 5 5,o3 182 (o9 181) 5 5,⟨o2 183 (o9 21) 182 true,5,5⟩,⟨o2 184 (oG false (.t 183) (o5 2)) 182 true,5,5⟩,o3 185 (.pick (.t 182) (.t 184) (.c (.bool false))) 5 5,o3 186 (o9 185) 5 5,⟨o2 187 (o9 26) 186 true,5,5⟩,⟨o2 188 (.mklit 1 [(o5 1)]) 186 true,5,5⟩,⟨o2 189 (oK 44 [.t 187,.t 188]) 186 true,5,6⟩,o3 190 (.pick (.t 186) (.t 189) (.c (.bool false))) 6 6,o3 0 (o9 190) 6 6])
 oL))))))))))))))⟩
def aBH:ACode:=.seq (oN [o4 7 6,o0 8 (o8 2 3),o0 9 (o7 8),o0 10 (oF 9),o0 11 (oH 7 10)]
 (.cond (.t 11) .skip
 (oM 0)))
 (.seq (.block 1 (oN [o0 14 (o8 2 3),o0 15 (o7 14),o4 16 6,o0 17 (oC 2 15 16),o0 18 (o8 17 1),o0 19 (o7 18),o4 20 1,o0 21 (.bin .leq (.t 19) (.t 20))]
 (.cond (.t 21) (.reg [o4 22 6,o4 5 22])
 .skip)))
 (.reg [o4 12 6,o0 13 (oI 12 1),o4 6 13]))
def a63:AFunc:=⟨24,[.tmp 4],
 oN [o0 2 (.box 7 (.t 0)),o0 4 (oA 0)]
 (oN [o0 5 (oA 0)]
 (.seq (oN [o0 6 (oA 0)]
 (.block 0 (.loop aBH)))
 (oN [o4 23 5,o4 4 23]
 oL)))⟩
def aBT:ACode:=.seq (oN [o4 7 6,o4 8 0,o0 9 (oF 8),o0 10 (oH 7 9)]
 (.cond (.t 10) .skip
 (oM 0)))
 (.seq (.block 1 (.reg [o4 13 5,o4 14 13,o2 15 (o9 0) 14 false,o2 16 (o9 6) 14 false,o2 17 (oC 1 15 16) 14 false,o2 18 (o7 17) 14 false,o2 19 (o9 1) 14 false,o2 20 (oG false (.t 18) (.t 19)) 14 false,o0 21 (.pick (.t 14) (.c (.bool true)) (.t 20)),o4 5 21]))
 (.reg [o4 11 6,o0 12 (oI 11 1),o4 6 12]))
def a64:AFunc:=⟨23,[.tmp 4],
 oN [o0 4 (.mov (.c (.bool false)))]
 (oN [o0 5 (.mov (.c (.bool false)))]
 (.seq (oN [o0 6 (oA 0)]
 (.block 0 (.loop aBT)))
 (oN [o4 22 5,o4 4 22]
 oL)))⟩
def aKG:ACode:=.seq (oN [o4 63 12,o0 64 (o8 2 0),o0 65 (o7 64),o0 66 (oF 65),o0 67 (oH 63 66)]
 (.cond (.t 67) .skip
 (oM 0)))
 (.seq (.block 1 (oN [o0 71 (oB 5 2),o4 72 12,o0 73 (oK 213 [.t 71,.t 72]),o4 70 73,o0 74 (oD 70 0),o0 75 (oD 70 1),o4 13 74,o4 14 75]
 (oN [o0 15 (oA 0)]
 (.seq (oN [o4 76 12,o0 77 (oB 2 5),o0 78 (oK 53 [.t 76,.t 77]),o0 79 (.not (.t 78))]
 (.cond (.t 79) (.reg [o0 15 (oA 2)])
 .skip))
 (.seq (oN [o0 80 (o8 5 0),o0 81 (o7 80),o0 82 (o8 5 1),o0 83 (o7 82),o0 84 (oG false (.t 81) (.t 83)),o4 85 84,o2 86 (o9 12) 85 true,o2 87 (o8 5 0) 85 true,o2 88 (o7 87) 85 true,o2 89 (oG false (.t 86) (.t 88)) 85 true,o0 90 (.pick (.t 85) (.t 89) (.c (.bool false)))]
 (.cond (.t 90) (.reg [o0 15 (oA 1)])
 .skip))
 (oN [o4 91 14,o0 92 (oG true (.t 91) (o5 0)),o4 93 92,o2 94 (o9 13) 93 false,o2 95 (o9 15) 93 false,o2 96 (oG true (.t 94) (.t 95)) 93 false,o0 97 (.pick (.t 93) (.c (.bool true)) (.t 96))]
 (.cond (.t 97) (oN [o0 4 (.mov (.c (.bool false)))]
 oL)
 .skip)))))))
 (.reg [o4 68 12,o0 69 (oI 68 1),o4 12 69]))
def a65:AFunc:=⟨98,[.tmp 4],
 oN [o0 2 (.box 5 (.t 0)),o0 4 (.mov (.c (.bool false)))]
 (oN [o0 16 (o8 2 2),o0 17 (o7 16),o0 18 (.iaddr none 4 (.t 17) (o5 0)),o0 19 (o8 18 1),o0 20 (oB 2 19),o0 5 (.alloc [.int .i64 0,.int .i64 0]),o1 (.store 2 (.t 5) (.t 20))]
 (oN [o0 22 (oB 5 2),o0 23 (oK 212 [(.t 22),(o5 0)]),o4 21 23,o0 24 (oD 21 0),o0 25 (oD 21 1),o4 6 24,o4 7 25]
 (oN [o0 27 (oB 5 2),o4 28 1,o0 29 (oK 215 [.t 27,.t 28]),o4 26 29,o0 30 (oD 26 0),o0 31 (oD 26 1),o0 8 (.alloc [.int .i64 0,.int .i64 0]),o1 (.store 2 (.t 8) (.t 30)),o4 9 31]
 (oN [o0 33 (oB 5 2),o0 34 (oK 216 [.t 33]),o4 32 34,o0 35 (oD 32 0),o0 36 (oD 32 1),o4 10 35,o4 11 36]
 (.seq (oN [o4 37 7,o0 38 (oG true (.t 37) (o5 0)),o4 39 38,o2 40 (o9 9) 39 false,o2 41 (oG true (.t 40) (o5 0)) 39 false,o0 42 (.pick (.t 39) (.c (.bool true)) (.t 41)),o4 43 42,o2 44 (o9 11) 43 false,o2 45 (oG true (.t 44) (o5 0)) 43 false,o0 46 (.pick (.t 43) (.c (.bool true)) (.t 45)),o4 47 46,o2 48 (o9 10) 47 false,o2 49 (oF 48) 47 false,o2 50 (.bin .gtr (.t 49) (o5 0)) 47 false,o0 51 (.pick (.t 47) (.c (.bool true)) (.t 50)),o4 52 51,o2 53 (o9 6) 52 false,o2 54 (o9 1) 52 false,o2 55 (oK 64 [.t 53,.t 54]) 52 false,o2 56 (.not (.t 55)) 52 false,o0 57 (.pick (.t 52) (.c (.bool true)) (.t 56)),o4 58 57,o2 59 (o8 8 1) 58 false,o2 60 (o7 59) 58 false,o2 61 (oG true (.t 60) (o5 7)) 58 false,o0 62 (.pick (.t 58) (.c (.bool true)) (.t 61))]
 (.cond (.t 62) (oN [o0 4 (.mov (.c (.bool false)))]
 oL)
 .skip))
 (.seq (oN [o0 12 (oA 0)]
 (.block 0 (.loop aKG)))
 (oN [o0 4 (.mov (.c (.bool true)))]
 oL)))))))⟩
def aL5:ACode:=.seq (oN [o4 14 7,o4 15 0,o0 16 (oH 14 15)]
 (.cond (.t 16) .skip
 (oM 0)))
 (.seq (.block 1 (oN [o0 19 (.mklit 1 []),o0 20 (o8 5 1),o0 21 (o7 20),o0 22 (.append 1 8 (.t 19) (.t 21)),o0 23 (.mklit 1 [(o5 60)]),o0 24 (.append 1 8 (.t 22) (.t 23)),o0 25 (o8 5 1),o1 (.store 1 (.t 25) (.t 24))]
 (oN [o0 26 (.mklit 1 []),o0 27 (o8 6 0),o0 28 (o7 27),o0 29 (.append 1 8 (.t 26) (.t 28)),o4 30 7,o0 31 (.mklit 1 [.t 30]),o0 32 (.append 1 8 (.t 29) (.t 31)),o0 33 (o8 6 0),o1 (.store 1 (.t 33) (.t 32))]
 (.reg [o0 34 (.mklit 3 []),o0 35 (o8 5 4),o0 36 (o7 35),o0 37 (.append 3 24 (.t 34) (.t 36)),o4 38 7,o4 39 7,o0 40 (.build [.int .i64 0,.int .i64 0,.int .i64 0] [(1,1,(.t 38)),(2,1,(.t 39))]),o0 41 (.mklit 3 [.t 40]),o0 42 (.append 3 24 (.t 37) (.t 41)),o0 43 (o8 5 4),o1 (.store 1 (.t 43) (.t 42))]))))
 (.reg [o4 17 7,o0 18 (oI 17 1),o4 7 18]))
def a66:AFunc:=⟨48,[.cell 4 (some 5)],
 .seq (.reg [o0 3 (.box 2 (.t 1)),o0 4 (.alloc [.lit [] true none,.lit [] true none,.lit [] true none,.lit [] true none,.lit [] true none])])
 (.seq (.reg [⟨some 8,.mklit 1 [(.c (.str ⟨#[112,46,48]⟩)),(.c (.str ⟨#[112,46,49]⟩)),(.c (.str ⟨#[112,46,50]⟩)),(.c (.str ⟨#[112,46,51]⟩))],none⟩,o4 9 0,o0 10 (.slicev 1 (.t 8) none (some (.t 9)) none),o0 11 (.build [.lit [] true none,.lit [] true none,.lit [] true none,.lit [] true none,.lit [] true none] [(0,1,(.t 10))]),o0 5 (.alloc [.lit [] true none,.lit [] true none,.lit [] true none,.lit [] true none,.lit [] true none]),o1 (.store 5 (.t 5) (.t 11))])
 (.seq (.reg [o0 12 (oB 2 3),o0 13 (.build [.lit [] true none,.int .i64 0,.int .i64 0,.int .i64 0] [(1,2,(.t 12)),(3,1,(o5 7))]),o0 6 (.alloc [.lit [] true none,.int .i64 0,.int .i64 0,.int .i64 0]),o1 (.store 4 (.t 6) (.t 13))])
 (.seq (oN [o0 7 (oA 0)]
 (.block 0 (.loop aL5)))
 (oN [o0 44 (oB 4 6),o0 45 (.mklit 4 [.t 44]),o0 46 (o8 5 2),o1 (.store 1 (.t 46) (.t 45))]
 (oN [o0 47 (oB 5 5),o1 (.store 5 (.t 4) (.t 47))]
 oL)))))⟩
def a67:AFunc:=⟨14,[.tmp 4],
 oN [o0 4 (oA 0)]
 (oN [o0 5 (oA 0)]
 (.seq (oN [o4 6 1,o4 7 0,o0 8 (oK 220 [.t 6,.t 7]),o0 9 (.bin .geq (.t 8) (o5 0))]
 (.cond (.t 9) (.reg [o0 5 (oA 5)])
 .skip))
 (.seq (oN [o4 10 0,o0 11 (oK 221 [.t 10]),o0 12 (.not (.t 11))]
 (.cond (.t 12) (.reg [o0 5 (oA 6)])
 .skip))
 (oN [o4 13 5,o4 4 13]
 oL))))⟩
def IY:ACode:=oN [o0 8 (.snext (.t 7)),o0 9 (oD 8 0)]
 (.seq (.cond (.t 9) .skip
 (oM 0))
 (.block 1 (oN [o0 10 (oD 8 1),o0 11 (oD 8 2),o4 3 10,o4 4 11]
 (oN [o4 12 4,o0 13 (.bin .geq (.t 12) (.c (.int .i32 97))),o4 14 13,o2 15 (o9 4) 14 true,o2 16 (.bin .leq (.t 15) (.c (.int .i32 122))) 14 true,o0 17 (.pick (.t 14) (.t 16) (.c (.bool false))),o4 5 17]
 (oN [o4 18 5,o0 19 (.not (.t 18)),o4 20 19,o2 21 (o9 3) 20 true,o2 22 (oG false (.t 21) (o5 0)) 20 true,o2 23 (o9 22) 20 true,o2 24 (o9 4) 23 false,o2 25 (oG true (.t 24) (.c (.int .i32 46))) 23 false,o2 26 (o9 25) 23 false,o2 27 (o9 4) 26 true,o2 28 (.bin .lss (.t 27) (.c (.int .i32 48))) 26 true,o2 29 (o9 28) 26 true,o2 30 (o9 4) 29 false,o2 31 (.bin .gtr (.t 30) (.c (.int .i32 57))) 29 false,o2 32 (.pick (.t 29) (.c (.bool true)) (.t 31)) 26 true,o2 33 (.pick (.t 26) (.t 32) (.c (.bool false))) 23 false,o2 34 (.pick (.t 23) (.c (.bool true)) (.t 33)) 20 true,o0 35 (.pick (.t 20) (.t 34) (.c (.bool false)))]
 (.cond (.t 35) (oN [o0 2 (.mov (.c (.bool false)))]
 oL)
 .skip))))))
def RG:AFunc:=⟨41,[.tmp 2],
 oN [o0 2 (.mov (.c (.bool false)))]
 (.seq (oN [o4 6 0,o0 7 (.srange (.t 6))]
 (.block 0 (.loop IY)))
 (oN [o4 36 0,o0 37 (.len 0 (.t 36)),o0 38 (.mklit 1 [.t 37]),o0 39 (oK 244 [(o5 1),(o5 16),(.t 38)]),o0 40 (.not (.t 39)),o4 2 40]
 oL))⟩
def QH:ACode:=oN [o0 12 (oH 11 10)]
 (.seq (.cond (.t 12) .skip
 (oM 0))
 (.seq (.block 1 (oN [o4 13 11,o0 14 (oC 1 9 11),o0 15 (o7 14),o4 5 13,o4 6 15]
 (.seq (oN [o4 16 5,o4 17 1,o0 18 (oF 17),o0 19 (.bin .geq (.t 16) (.t 18))]
 (.cond (.t 19) (oN [o0 4 (oA 1)]
 oL)
 .skip))
 (oN [o4 20 1,o4 21 5,o0 22 (oC 1 20 21),o0 23 (o7 22),o4 7 23]
 (oN [o4 24 6,o4 25 7,o0 26 (oK 254 [.t 24,.t 25]),o4 8 26]
 (oN [o4 27 8,o0 28 (oG true (.t 27) (o5 0))]
 (.cond (.t 28) (oN [o4 29 8,o4 4 29]
 oL)
 .skip)))))))
 (.reg [o0 30 (oI 11 1),o4 11 30])))
def VS:AFunc:=⟨36,[.tmp 4],
 oN [o0 4 (oA 0)]
 (.seq (oN [o4 9 0,o0 10 (oF 9),o0 11 (oA 0)]
 (.block 0 (.loop QH)))
 (.seq (oN [o4 31 0,o0 32 (oF 31),o4 33 1,o0 34 (oF 33),o0 35 (oH 32 34)]
 (.cond (.t 35) (oN [o0 4 (.mov (.c (.int .i64 (-1))))]
 oL)
 .skip))
 (oN [o0 4 (oA 0)]
 oL)))⟩
def PQ:AFunc:=⟨14,[.cell 2 (some 7)],
 .seq (.reg [o0 2 (.alloc [.int .i64 0,.int .i64 0,.int .i64 0,.lit [] true none,.lit [] true none,.int .i64 0,.lit [] true none])])
 (.seq (.reg [o0 3 (oK 160 [(o5 2),(o5 4)]),⟨some 4,.build [.str ⟨#[]⟩,.int .i64 0] [(0,1,(.c (.str ⟨#[116,114,97,109]⟩)))],none⟩,⟨some 5,.build [.str ⟨#[]⟩,.int .i64 0] [(0,1,(.c (.str ⟨#[115,104,105,112]⟩))),(1,1,(o5 4))],none⟩,⟨some 6,.build [.str ⟨#[]⟩,.int .i64 0] [(0,1,(.c (.str ⟨#[116,114,97,105,110]⟩))),(1,1,(o5 9))],none⟩,o0 7 (.mklit 2 [.t 4,.t 5,.t 6]),o0 8 (.build [.int .i64 0,.bool false] [(0,1,(o5 2)),(1,1,(.c (.bool true)))]),o0 9 (.build [.int .i64 0,.bool false] [(0,1,(o5 5))]),o0 10 (.build [.int .i64 0,.bool false] [(0,1,(o5 9)),(1,1,(.c (.bool true)))]),o0 11 (.mklit 2 [.t 8,.t 9,.t 10]),o4 12 0,o0 13 (.build [.int .i64 0,.int .i64 0,.int .i64 0,.lit [] true none,.lit [] true none,.int .i64 0,.lit [] true none] [(0,1,(o5 12)),(1,2,(.t 3)),(3,1,(.t 7)),(4,1,(.t 11)),(5,1,(o5 1)),(6,1,(.t 12))]),o1 (.store 7 (.t 2) (.t 13))])
 oL)⟩
def T4:AFunc:=⟨5,[.cell 2 (some 3)],
 oN [o0 2 (.alloc [.int .i64 0,.int .i64 0,.bool false])]
 (oN [o4 3 0,o0 4 (.build [.int .i64 0,.int .i64 0,.bool false] [(1,1,(.t 3))]),o1 (.store 3 (.t 2) (.t 4))]
 oL)⟩
def TW:AFunc:=⟨5,[.cell 2 (some 3)],
 oN [o0 2 (.alloc [.int .i64 0,.int .i64 0,.bool false])]
 (oN [o4 3 0,o0 4 (.build [.int .i64 0,.int .i64 0,.bool false] [(1,1,(.t 3)),(2,1,(.c (.bool true)))]),o1 (.store 3 (.t 2) (.t 4))]
 oL)⟩
def SC:AFunc:=⟨24,[.tmp 4,.tmp 5],
 oN [o0 2 (.box 7 (.t 0)),o0 4 (.mov (.c (.lit [] true none))),o0 5 (oA 0)]
 (oN [o0 9 (oB 7 2),o4 10 1,o0 11 (oK 166 [.t 9,.t 10]),o4 8 11,o0 12 (oD 8 0),o0 13 (oD 8 1),o4 6 12,o4 7 13]
 (.seq (oN [o4 14 7,o0 15 (oG true (.t 14) (o5 0))]
 (.cond (.t 15) (oN [o4 16 7,o0 4 (.mov (.c (.lit [] true none))),o4 5 16]
 oL)
 .skip))
 (.seq (.dreg [o3 17 (o9 6) 0 0,o3 18 (o9 1) 0 0,o3 19 (oK 169 [.t 17,.t 18]) 0 1,o3 20 (o8 2 4) 0 1,o3 21 (o7 20) 0 1,o3 22 (oF 21) 0 1,o3 23 (oK 162 [.t 19,.t 22]) 1 2,o3 4 (o9 23) 2 2,o3 5 (oA 0) 2 2])
 oL)))⟩
def UE:ACode:=.block 1 (oN [o0 26 (o7 6),o4 27 8,o0 28 (.bin .and (.t 26) (.t 27)),o1 (.store 1 (.t 6) (.t 28))]
 (.reg [o0 29 (o7 7),o4 30 8,o0 31 (.bin .or (.t 29) (.t 30)),o1 (.store 1 (.t 7) (.t 31))]))
def VK:AFunc:=⟨42,[.tmp 2,.tmp 3,.tmp 4],
 oN [o0 1 (.box 7 (.t 0)),o0 2 (.mov (.c (.lit [] true none))),o0 3 (.mov (.c (.lit [] true none))),o0 4 (oA 0)]
 (oN [o0 10 (oB 7 1),o0 11 (oK 166 [(.t 10),(o5 0)]),o4 9 11,o0 12 (oD 9 0),o0 13 (oD 9 1),o4 5 12,o4 4 13]
 (.seq (oN [o4 14 4,o0 15 (oG true (.t 14) (o5 0))]
 (.cond (.t 15) (oN [o4 16 4,o0 2 (.mov (.c (.lit [] true none))),o0 3 (.mov (.c (.lit [] true none))),o4 4 16]
 oL)
 .skip))
 (oN [o0 17 (o8 1 4),o0 18 (o7 17),o0 19 (oF 18),o0 20 (.bin .shl (o5 1) (.t 19)),o0 21 (.bin .sub (.t 20) (o5 1)),o0 6 (.alloc [.int .i64 0]),o0 7 (.alloc [.int .i64 0]),o1 (.store 1 (.t 6) (.t 21)),o1 (.store 1 (.t 7) (o5 0))]
 (.seq (oN [o4 22 5,o0 23 (oK 293 [.t 22])]
 (.block 0 (.rangeFunc (.t 23) [24,25] (.reg [o4 8 24])
 (UE))))
 (.seq (.dreg [o3 32 (o7 6) 0 0,o3 33 (o8 1 4) 0 0,o3 34 (o7 33) 0 0,o3 35 (oF 34) 0 0,o3 36 (oK 162 [.t 32,.t 35]) 0 1,o3 37 (o7 7) 0 1,o3 38 (o8 1 4) 0 1,o3 39 (o7 38) 0 1,o3 40 (oF 39) 0 1,o3 41 (oK 162 [.t 37,.t 40]) 1 2,o3 2 (o9 36) 2 2,o3 3 (o9 41) 2 2,o3 4 (oA 0) 2 2])
 oL)))))⟩
def PV:ACode:=oN [o0 23 (oH 22 21)]
 (.seq (.cond (.t 23) .skip
 (oM 0))
 (.seq (.block 1 (oN [o4 24 22,o0 25 (oC 2 20 22),o0 26 (oB 2 25),o0 7 (.alloc [.int .i64 0,.bool false]),o4 6 24,o1 (.store 2 (.t 7) (.t 26))]
 (oN [o0 27 (oB 2 7),o0 28 (o8 7 0),o0 29 (o7 28),o0 30 (.build [.int .i64 0,.bool false] [(0,1,(.t 29)),(1,1,(.c (.bool true)))]),o0 31 (.eql (.agg [.i,.b]) false (.t 27) (.t 30))]
 (.cond (.t 31) (.dreg [o3 32 (o7 5) 0 0,o3 33 (o9 6) 0 0,o3 34 (.bin .shl (o5 1) (.t 33)) 0 0,o3 35 (.bin .or (.t 32) (.t 34)) 0 0,⟨o1 (.store 1 (.t 5) (.t 35)),0,1⟩])
 .skip))))
 (.reg [o0 36 (oI 22 1),o4 22 36])))
def QX:ACode:=.block 3 (oN [o4 41 9,o0 42 (o7 5),o0 43 (.bin .andNot (.t 41) (.t 42)),o0 44 (o8 1 4),o0 45 (o7 44),o0 46 (oF 45),o0 47 (oK 162 [.t 43,.t 46]),o4 10 47]
 (oN [o0 48 (o7 8),o4 49 48,o2 50 (o9 10) 49 false,o2 51 (o7 2) 49 false,o2 52 (oK 163 [.t 50,.t 51]) 49 false,o0 53 (.pick (.t 49) (.c (.bool true)) (.t 52))]
 (.cond (.t 53) (.reg [o4 54 10,o1 (.store 1 (.t 2) (.t 54)),o1 (.store 1 (.t 8) (.c (.bool false)))])
 .skip)))
def VQ:AFunc:=⟨56,[.cell 2 none,.tmp 3],
 .seq (.reg [o0 1 (.box 7 (.t 0)),o0 2 (.alloc [.lit [] true none]),o0 3 (oA 0)])
 (oN [o0 12 (oB 7 1),o0 13 (oK 166 [(.t 12),(o5 0)]),o4 11 13,o0 14 (oD 11 0),o0 15 (oD 11 1),o4 4 14,o4 3 15]
 (.seq (oN [o4 16 3,o0 17 (oG true (.t 16) (o5 0))]
 (.cond (.t 17) (oN [o4 18 3,o1 (.store 1 (.t 2) (.c (.lit [] true none))),o4 3 18]
 oL)
 .skip))
 (oN [o0 5 (.alloc [.int .i64 0]),o1 (.store 1 (.t 5) (o5 0))]
 (.seq (oN [o0 19 (o8 1 4),o0 20 (o7 19),o0 21 (oF 20),o0 22 (oA 0)]
 (.block 0 (.loop PV)))
 (oN [o0 8 (.alloc [.bool false]),o1 (.store 1 (.t 8) (.c (.bool true)))]
 (.seq (oN [o4 37 4,o0 38 (oK 293 [.t 37])]
 (.block 2 (.rangeFunc (.t 38) [39,40] (.reg [o4 9 39])
 (QX))))
 (oN [o0 55 (o7 2),o1 (.store 1 (.t 2) (.t 55)),o0 3 (oA 0)]
 oL)))))))⟩
def PP:ACode:=oN [o0 29 (.bin .lss (.t 28) (o5 26))]
 (.seq (.cond (.t 29) .skip
 (oM 0))
 (.seq (.block 1 (oN [o4 30 28,o0 31 (.index 26 1 none (.t 27) (.t 28)),o4 9 30,o4 10 31]
 (oN [o4 32 10,o0 33 (oG true (.t 32) (o5 0))]
 (.cond (.t 33) (.reg [o4 34 8,o4 35 9,o0 36 (.mklit 1 [.t 35]),o0 37 (.append 1 8 (.t 34) (.t 36)),o4 8 37])
 .skip))))
 (.reg [o0 38 (oI 28 1),o4 28 38])))
def RI:ACode:=oN [o0 53 (oH 52 51)]
 (.seq (.cond (.t 53) .skip
 (oM 4))
 (.seq (.block 5 (oN [o0 54 (oC 1 50 52),o0 55 (o7 54),o4 14 55]
 (oN [o4 56 14,o4 57 11,o0 58 (.bin .leq (.t 56) (.t 57))]
 (.cond (.t 58) (.reg [o4 59 12,o0 60 (oI 59 1),o4 12 60])
 .skip))))
 (.reg [o0 61 (oI 52 1),o4 52 61])))
def SE:ACode:=oN [o0 48 (oH 47 46)]
 (.seq (.cond (.t 48) .skip
 (oM 2))
 (.seq (.block 3 (oN [o4 49 47,o4 11 49]
 (oN [o0 12 (oA 0)]
 (.seq (oN [o4 50 8,o0 51 (oF 50),o0 52 (oA 0)]
 (.block 4 (.loop RI)))
 (oN [o4 62 12,o4 63 8,o0 64 (oF 63),o4 65 12,o0 66 (.bin .sub (.t 64) (.t 65)),o0 67 (.max [.t 62,.t 66]),o4 15 67]
 (oN [o4 68 4,o0 69 (.bin .lss (.t 68) (o5 0)),o4 70 69,o2 71 (o9 15) 70 false,o2 72 (o9 5) 70 false,o2 73 (oH 71 72) 70 false,o0 74 (.pick (.t 70) (.c (.bool true)) (.t 73))]
 (.cond (.t 74) (.reg [o4 75 11,o4 76 15,o4 4 75,o4 5 76])
 .skip)))))))
 (.reg [o0 77 (oI 47 1),o4 47 77])))
def T3:AFunc:=⟨80,[.tmp 4,.tmp 5,.tmp 6],
 oN [o0 2 (.box 7 (.t 0)),o0 4 (oA 0),o0 5 (oA 0),o0 6 (oA 0)]
 (oN [o0 17 (oB 7 2),o4 18 1,o0 19 (oK 166 [.t 17,.t 18]),o4 16 19,o0 20 (oD 16 0),o0 21 (oD 16 1),o4 7 20,o4 6 21]
 (.seq (oN [o4 22 6,o0 23 (oG true (.t 22) (o5 0))]
 (.cond (.t 23) (oN [o4 24 6,o0 4 (oA 0),o0 5 (oA 0),o4 6 24]
 oL)
 .skip))
 (oN [o0 8 (.mov (.c (.lit [] true none)))]
 (.seq (oN [o4 25 7,o4 26 1,o0 27 (oK 167 [.t 25,.t 26]),o0 28 (oA 0)]
 (.block 0 (.loop PP)))
 (.seq (oN [o4 39 8,o0 40 (oF 39),o0 41 (oG false (.t 40) (o5 1))]
 (.cond (.t 41) (oN [o0 4 (oA 0),o0 5 (oA 0),o0 6 (oA 9)]
 oL)
 .skip))
 (oN [o4 42 8,o0 43 (oF 42),o0 4 (.mov (.c (.int .i64 (-1)))),o4 5 43]
 (.seq (oN [o0 44 (o8 2 0),o0 45 (o7 44),o0 46 (oI 45 1),o0 47 (oA 0)]
 (.block 2 (.loop SE)))
 (oN [o4 78 4,o4 79 5,o4 4 78,o4 5 79,o0 6 (oA 0)]
 oL))))))))⟩
def RN:AFunc:=⟨8,[.cell 4 (some 2)],
 oN [o0 4 (.alloc [.int .i64 0,.int .i64 0])]
 (oN [o4 5 0,o4 6 1,o0 7 (.build [.int .i64 0,.int .i64 0] [(0,1,(.t 5)),(1,1,(.t 6))]),o1 (.store 2 (.t 4) (.t 7))]
 oL)⟩
def QU:AFunc:=⟨6,[.tmp 0],
 oN [o0 0 (.mov (.c (.lit [] true none)))]
 (oN [o0 1 (.build [.nilFunc] [(0,1,(o6 294))]),o0 2 (.build [.nilFunc] [(0,1,(o6 296))]),o0 3 (.build [.nilFunc] [(0,1,(o6 301))]),o0 4 (.build [.nilFunc] [(0,1,(o6 304))]),o0 5 (.mklit 1 [.t 1,.t 2,.t 3,.t 4]),o4 0 5]
 oL)⟩
def O9:ACode:=oN [o0 8 (oH 7 6)]
 (.seq (.cond (.t 8) .skip
 (oM 0))
 (.seq (.block 1 (oN [o4 9 7,o4 5 9]
 (oN [o4 10 0,o4 11 5,o0 12 (.bin .shr (.t 10) (.t 11)),o0 13 (.bin .and (.t 12) (o5 1)),o0 14 (oG false (.t 13) (o5 1))]
 (.cond (.t 14) (.reg [o4 15 4,o4 16 5,o0 17 (.mklit 1 [.t 16]),o0 18 (.append 1 8 (.t 15) (.t 17)),o4 4 18])
 .skip))))
 (.reg [o0 19 (oI 7 1),o4 7 19])))
def V8:AFunc:=⟨21,[.tmp 4],
 oN [o0 4 (.mov (.c (.lit [] true none)))]
 (.seq (oN [o4 6 1,o0 7 (oA 0)]
 (.block 0 (.loop O9)))
 (oN [o4 20 4,o4 4 20]
 oL))⟩
def JS:AFunc:=⟨23,[.tmp 4],
 oN [o0 4 (.mov (.c (.bool false)))]
 (oN [o4 5 0,o0 6 (oF 5),o4 7 1,o0 8 (oF 7),o0 9 (oH 6 8),o4 10 9,o2 11 (o9 0) 10 false,o2 12 (oF 11) 10 false,o2 13 (o9 1) 10 false,o2 14 (oF 13) 10 false,o2 15 (oG false (.t 12) (.t 14)) 10 false,o2 16 (o9 15) 10 false,o2 17 (o9 0) 16 true,o2 18 (o9 1) 16 true,o2 19 (oK 118 [.t 17,.t 18]) 16 true,o2 20 (.bin .lss (.t 19) (o5 0)) 16 true,o2 21 (.pick (.t 16) (.t 20) (.c (.bool false))) 10 false,o0 22 (.pick (.t 10) (.c (.bool true)) (.t 21)),o4 4 22]
 oL)⟩
def UN:AFunc:=⟨10,[.tmp 4],
 oN [o0 2 (.box 7 (.t 0)),o0 4 (.mov (.c (.nilPtr)))]
 (.seq (.reg [o0 5 (oB 7 2),o4 6 1,o0 7 .mkmap,o0 8 (.build [.int .i64 0,.int .i64 0,.int .i64 0,.lit [] true none,.lit [] true none,.int .i64 0,.lit [] true none,.int .i64 0,.nilMap] [(0,7,(.t 5)),(7,1,(.t 6)),(8,1,(.t 7))]),o0 9 (.box 9 (.t 8)),o4 4 9])
 oL)⟩
def UY:ACode:=.block 1 (oN [o1 (.store 1 (.t 2) (.c (.bool true)))]
 oL)
def VX:AFunc:=⟨7,[.cell 2 none],
 oN [o0 2 (.alloc [.bool false])]
 (.seq (oN [o4 3 0,o0 4 (oK 293 [.t 3])]
 (.block 0 (.rangeFunc (.t 4) [5,6] .skip
 (UY))))
 (oN [o1 (.store 1 (.t 2) (.c (.bool false)))]
 oL))⟩
def H3:AFunc:=⟨33,[.tmp 4,.tmp 5],
 oN [o0 2 (.box 7 (.t 0)),o0 4 (.mov (.c (.nilPtr))),o0 5 (oA 0)]
 (oN [o0 11 (oB 7 2),o0 12 (oK 40 [.t 11]),o4 10 12,o0 13 (oD 10 0),o0 14 (oD 10 1),o0 15 (oD 10 2),o4 6 13,o4 7 14,o4 8 15]
 (.seq (.block 0 (oN [o4 17 8,o0 18 (oG true (.t 17) (o5 0)),o4 16 18]
 (.cond (.t 16) (oN [o4 19 8,o0 4 (.mov (.c (.nilPtr))),o4 5 19]
 oL)
 (oN [o0 21 (o8 2 5),o0 22 (o7 21),o0 23 (.bin .sub (.t 22) (o5 1)),o4 24 1,o0 25 (.mklit 1 [.t 24]),o0 26 (oK 295 [(o5 0),(.t 23),(.t 25)]),o4 20 26]
 (.cond (.t 20) (oN [o0 4 (.mov (.c (.nilPtr))),o0 5 (oA 4)]
 oL)
 .skip)))))
 (oN [o0 27 (oB 7 2),o0 28 (oK 164 [(.t 27),(o5 0)]),o4 9 28]
 (.seq (oN [o4 29 9,o0 30 (oK 165 [.t 29]),o0 31 (.not (.t 30))]
 (.cond (.t 31) (oN [o0 4 (.mov (.c (.nilPtr))),o0 5 (oA 8)]
 oL)
 .skip))
 (oN [o4 32 9,o4 4 32,o0 5 (oA 0)]
 oL)))))⟩
def Q9:ACode:=oN [o0 18 (.bin .lss (.t 17) (o5 26))]
 (.seq (.cond (.t 18) .skip
 (oM 2))
 (.seq (.block 3 (oN [o4 19 17,o0 20 (.index 26 1 none (.t 16) (.t 17)),o4 7 19,o4 8 20]
 (.reg [o4 21 7,o0 22 (.iaddr (some 26) 1 (.t 4) (.t 21)),o0 23 (o7 22),o4 24 8,o0 25 (.bin .or (.t 23) (.t 24)),o0 26 (.iaddr (some 26) 1 (.t 4) (.t 21)),o1 (.store 1 (.t 26) (.t 25))])))
 (.reg [o0 27 (oI 17 1),o4 17 27])))
def IF:ACode:=.block 1 (oN [o4 13 6,o0 14 (o7 3),o0 15 (oC 26 13 14),o0 16 (oB 26 15),o0 17 (oA 0)]
 (.block 2 (.loop Q9)))
def P8:AFunc:=⟨29,[.cell 4 (some 26)],
 oN [o0 3 (.box 1 (.t 1)),o0 4 (.alloc [.int .i64 0,.int .i64 0,.int .i64 0,.int .i64 0,.int .i64 0,.int .i64 0,.int .i64 0,.int .i64 0,.int .i64 0,.int .i64 0,.int .i64 0,.int .i64 0,.int .i64 0,.int .i64 0,.int .i64 0,.int .i64 0,.int .i64 0,.int .i64 0,.int .i64 0,.int .i64 0,.int .i64 0,.int .i64 0,.int .i64 0,.int .i64 0,.int .i64 0,.int .i64 0])]
 (.seq (oN [o4 9 0,o0 10 (oK 293 [.t 9])]
 (.block 0 (.rangeFunc (.t 10) [11,12] (.reg [o4 6 12])
 (IF))))
 (oN [o0 28 (oB 26 4),o1 (.store 26 (.t 4) (.t 28))]
 oL))⟩
def S1:AFunc:=⟨21,[.tmp 4],
 oN [o0 4 (oA 0)]
 (oN [o4 8 0,o0 9 (.nilCheck (.t 8)),o0 10 (o8 9 0),o0 11 (o8 10 3),o0 12 (o7 11),o4 13 1,o0 14 (oK 307 [(.t 12),(.t 13),(o6 308)]),o4 7 14,o0 15 (oD 7 0),o0 16 (oD 7 1),o4 5 15,o4 6 16]
 (.seq (oN [o4 17 6]
 (.cond (.t 17) (oN [o4 18 5,o4 4 18]
 oL)
 .skip))
 (oN [o4 19 5,o0 20 (.bin .sub (.t 19) (o5 1)),o4 4 20]
 oL)))⟩
def PI:ACode:=oN [o0 11 (.bin .lss (.t 10) (o5 26))]
 (.seq (.cond (.t 11) .skip
 (oM 0))
 (.seq (.block 1 (oN [o0 12 (.index 26 1 none (.t 9) (.t 10)),o4 6 12]
 (.reg [o4 13 4,o4 14 6,o0 15 (.bin .and (.t 14) (o5 15)),o0 16 (.bin .or (.t 13) (.t 15)),o4 4 16])))
 (.reg [o0 17 (oI 10 1),o4 10 17])))
def UF:AFunc:=⟨19,[.tmp 4],
 oN [o0 4 (oA 0)]
 (.seq (oN [o4 7 0,o4 8 1,o0 9 (oK 167 [.t 7,.t 8]),o0 10 (oA 0)]
 (.block 0 (.loop PI)))
 (oN [o4 18 4,o4 4 18]
 oL))⟩
def SH:ACode:=.seq (.seq (.dreg [o3 6 (o9 5) 0 0,o3 7 (o9 0) 0 0,o3 8 (oF 7) 0 0,o3 9 (oH 6 8) 0 0,o3 10 (o9 9) 0 0,⟨o2 11 (o9 5) 10 true,0,0⟩,⟨o2 12 (o9 1) 10 true,0,0⟩,⟨o2 13 (oF 12) 10 true,0,0⟩,⟨o2 14 (oH 11 13) 10 true,0,0⟩,o3 15 (.pick (.t 10) (.t 14) (.c (.bool false))) 0 0,o3 16 (o9 15) 0 0,⟨o2 17 (o9 0) 16 true,0,0⟩,⟨o2 18 (o9 5) 16 true,0,0⟩,⟨o2 19 (oC 1 17 18) 16 true,0,0⟩,⟨o2 20 (o7 19) 16 true,0,0⟩,⟨o2 21 (o9 1) 16 true,0,0⟩,⟨o2 22 (o9 5) 16 true,0,0⟩,⟨o2 23 (oC 1 21 22) 16 true,0,0⟩,⟨o2 24 (o7 23) 16 true,0,0⟩,⟨o2 25 (oG false (.t 20) (.t 24)) 16 true,0,0⟩,o3 26 (.pick (.t 16) (.t 25) (.c (.bool false))) 0 0])
 (.cond (.t 26) .skip
 (oM 0)))
 (.block 1 (.reg [o4 27 5,o0 28 (oI 27 1),o4 5 28]))
def UV:AFunc:=⟨48,[.tmp 4],
 oN [o0 4 (.mov (.c (.bool false)))]
 (oN [o0 5 (oA 0)]
 (.seq (.block 0 (.loop SH))
 (.seq (oN [o4 29 5,o4 30 1,o0 31 (oF 30),o0 32 (oG false (.t 29) (.t 31))]
 (.cond (.t 32) (oN [o0 4 (.mov (.c (.bool false)))]
 oL)
 .skip))
 (.seq (.dreg [o3 33 (o9 5) 0 0,o3 34 (o9 0) 0 0,o3 35 (oF 34) 0 0,o3 36 (oG false (.t 33) (.t 35)) 0 0,o3 37 (o9 36) 0 0,⟨o2 38 (o9 0) 37 false,0,0⟩,⟨o2 39 (o9 5) 37 false,0,0⟩,⟨o2 40 (oC 1 38 39) 37 false,0,0⟩,⟨o2 41 (o7 40) 37 false,0,0⟩,⟨o2 42 (o9 1) 37 false,0,0⟩,⟨o2 43 (o9 5) 37 false,0,0⟩,⟨o2 44 (oC 1 42 43) 37 false,0,0⟩,⟨o2 45 (o7 44) 37 false,0,0⟩,⟨o2 46 (oH 41 45) 37 false,0,0⟩,o3 47 (.pick (.t 37) (.c (.bool true)) (.t 46)) 0 0,o3 4 (o9 47) 0 0])
 oL))))⟩
def Q8:AFunc:=⟨37,[.tmp 4],
 oN [o0 2 (.box 7 (.t 0)),o0 4 (oA 0)]
 (oN [o0 6 (o8 2 3),o0 7 (o7 6),o4 8 1,o0 9 (oC 2 7 8),o0 10 (o8 9 1),o0 11 (o7 10),o4 5 11]
 (.seq (oN [o0 12 (oB 7 2),o4 13 5,o0 14 (oK 206 [.t 12,.t 13]),o0 15 (.not (.t 14))]
 (.cond (.t 15) (oN [o0 4 (oA 7)]
 oL)
 .skip))
 (.seq (oN [o4 16 1,o0 17 (oG false (.t 16) (o5 0)),o4 18 17,o2 19 (o9 5) 18 true,o2 20 (oG true (.t 19) (o5 0)) 18 true,o0 21 (.pick (.t 18) (.t 20) (.c (.bool false))),o4 22 21,o2 23 (o9 1) 22 false,o2 24 (.bin .gtr (.t 23) (o5 0)) 22 false,o2 25 (o9 24) 22 false,o2 26 (o9 5) 25 true,o2 27 (o8 2 3) 25 true,o2 28 (o7 27) 25 true,o2 29 (o9 1) 25 true,o2 30 (.bin .sub (.t 29) (o5 1)) 25 true,o2 31 (oC 2 28 30) 25 true,o2 32 (o8 31 1) 25 true,o2 33 (o7 32) 25 true,o2 34 (.bin .leq (.t 26) (.t 33)) 25 true,o2 35 (.pick (.t 25) (.t 34) (.c (.bool false))) 22 false,o0 36 (.pick (.t 22) (.c (.bool true)) (.t 35))]
 (.cond (.t 36) (oN [o0 4 (oA 2)]
 oL)
 .skip))
 (oN [o0 4 (oA 0)]
 oL))))⟩
def RZ:AFunc:=⟨9,[.tmp 4],
 oN [o0 2 (.box 7 (.t 0)),o0 4 (.mov (.c (.bool false)))]
 (oN [o4 5 1,o0 6 (o8 2 0),o0 7 (o7 6),o0 8 (oK 20 [(.t 5),(o5 0),(.t 7)]),o4 4 8]
 oL)⟩
def R6:ACode:=.seq (oN [o4 15 6,o4 16 3,o0 17 (oF 16),o0 18 (oH 15 17)]
 (.cond (.t 18) .skip
 (oM 2)))
 (.seq (.block 3 (.seq (oN [o0 21 (o8 1 4),o0 22 (o7 21),o4 23 4,o0 24 (oC 2 22 23),o0 25 (o8 24 1),o0 26 (o7 25),o0 27 (.not (.t 26))]
 (.cond (.t 27) (.reg [o4 28 5,o4 29 3,o4 30 6,o0 31 (oC 1 29 30),o0 32 (o7 31),o0 33 (.mklit 1 [.t 32]),o0 34 (.append 1 24 (.t 28) (.t 33)),o4 5 34])
 .skip))
 (.reg [o4 35 5,o0 36 (.mklit 1 []),o4 37 3,o4 38 6,o0 39 (oC 1 37 38),o0 40 (o7 39),o0 41 (.append 1 8 (.t 36) (.t 40)),o4 42 4,o0 43 (.mklit 1 [.t 42]),o0 44 (.append 1 8 (.t 41) (.t 43)),o0 45 (.mklit 1 [.t 44]),o0 46 (.append 1 24 (.t 35) (.t 45)),o4 5 46])))
 (.reg [o4 19 6,o0 20 (oI 19 1),o4 6 20]))
def SF:ACode:=.seq (oN [o4 8 4,o0 9 (o8 1 4),o0 10 (o7 9),o0 11 (oF 10),o0 12 (oH 8 11)]
 (.cond (.t 12) .skip
 (oM 0)))
 (.seq (.block 1 (oN [o0 5 (.mov (.c (.lit [] true none)))]
 (.seq (oN [o0 6 (oA 0)]
 (.block 2 (.loop R6)))
 (.reg [o4 47 5,o4 3 47]))))
 (.reg [o4 13 4,o0 14 (oI 13 1),o4 4 14]))
def Q2:AFunc:=⟨49,[.tmp 2],
 oN [o0 1 (.box 7 (.t 0)),o0 2 (.mov (.c (.lit [] true none)))]
 (.seq (.reg [o0 7 (.mklit 1 [(.c (.lit [] true none))]),o4 3 7])
 (.seq (oN [o0 4 (oA 0)]
 (.block 0 (.loop SF)))
 (oN [o4 48 3,o4 2 48]
 oL)))⟩
def TX:ACode:=.seq (oN [o4 29 11,o0 30 (o8 4 1),o0 31 (o8 30 1),o0 32 (o7 31),o0 33 (.bin .leq (.t 29) (.t 32))]
 (.cond (.t 33) .skip
 (oM 2)))
 (.seq (.block 3 (.seq (.dreg [o3 36 (o8 4 4) 0 0,o3 37 (o7 36) 0 0,o3 38 (o9 2) 0 0,o3 39 (o9 10) 0 0,o3 40 (oC 1 38 39) 0 0,o3 41 (o7 40) 0 0,o3 42 (oC 2 37 41) 0 0,o3 43 (o8 42 0) 0 0,o3 44 (o7 43) 0 0,o3 45 (o9 11) 0 0,o3 46 (.bin .add (.t 44) (.t 45)) 0 0,o3 12 (o9 46) 0 0])
 (oN [o0 47 (oB 7 4),o4 48 12,o0 49 (oK 206 [.t 47,.t 48])]
 (.cond (.t 49) (.reg [o4 50 9,o4 51 12,o4 52 2,o4 53 10,o0 54 (oC 1 52 53),o0 55 (o7 54),o0 56 (.build [.int .i64 0,.int .i64 0] [(0,1,(.t 51)),(1,1,(.t 55))]),o0 57 (.mklit 2 [.t 56]),o0 58 (.append 2 16 (.t 50) (.t 57)),o4 9 58])
 .skip))))
 (.reg [o4 34 11,o0 35 (oI 34 1),o4 11 35]))
def Q0:ACode:=.seq (oN [o4 20 10,o4 21 2,o0 22 (oF 21),o0 23 (oH 20 22)]
 (.cond (.t 23) .skip
 (oM 0)))
 (.seq (.block 1 (oN [o0 26 (o8 4 1),o0 27 (o8 26 0),o0 28 (o7 27),o4 11 28]
 (.block 2 (.loop TX))))
 (.reg [o4 24 10,o0 25 (oI 24 1),o4 10 25]))
def UA:ACode:=.seq (oN [o4 65 16,o0 66 (o8 4 6),o0 67 (o7 66),o0 68 (oF 67),o0 69 (oH 65 68)]
 (.cond (.t 69) .skip
 (oM 6)))
 (.seq (.block 7 (oN [o0 72 (o8 4 6),o0 73 (o7 72),o4 74 16,o0 75 (oC 3 73 74),o0 76 (oB 3 75),o0 17 (.alloc [.int .i64 0,.int .i64 0,.bool false]),o1 (.store 3 (.t 17) (.t 76))]
 (.dreg [o3 77 (o9 15) 0 0,o3 78 (o9 77) 0 0,⟨o2 79 (o8 17 0) 78 true,0,0⟩,⟨o2 80 (o7 79) 78 true,0,0⟩,⟨o2 81 (o9 1) 78 true,0,0⟩,⟨o2 82 (oG true (.t 80) (.t 81)) 78 true,0,0⟩,⟨o2 83 (o9 82) 78 true,0,0⟩,⟨o2 84 (o9 3) 83 false,0,0⟩,⟨o2 85 (o9 16) 83 false,0,0⟩,⟨o2 86 (oK 64 [.t 84,.t 85]) 83 false,0,1⟩,⟨o2 87 (.pick (.t 83) (.c (.bool true)) (.t 86)) 78 true,1,1⟩,⟨o2 88 (o9 87) 78 true,1,1⟩,⟨o2 89 (oB 3 17) 88 false,1,1⟩,⟨o2 90 (o9 9) 88 false,1,1⟩,⟨o2 91 (o9 14) 88 false,1,1⟩,⟨o2 92 (oC 2 90 91) 88 false,1,1⟩,⟨o2 93 (o8 92 0) 88 false,1,1⟩,⟨o2 94 (o7 93) 88 false,1,1⟩,⟨o2 95 (oK 332 [.t 89,.t 94]) 88 false,1,2⟩,⟨o2 96 (.pick (.t 88) (.c (.bool true)) (.t 95)) 78 true,2,2⟩,o3 97 (.pick (.t 78) (.t 96) (.c (.bool false))) 2 2,o3 15 (o9 97) 2 2])))
 (.reg [o4 70 16,o0 71 (oI 70 1),o4 16 71]))
def UQ:ACode:=.seq (oN [o4 59 14,o4 60 9,o0 61 (oF 60),o0 62 (oH 59 61)]
 (.cond (.t 62) .skip
 (oM 4)))
 (.seq (.block 5 (oN [o0 15 (.mov (.c (.bool true)))]
 (.seq (oN [o0 16 (oA 0)]
 (.block 6 (.loop UA)))
 (oN [o4 98 15]
 (.cond (.t 98) (.reg [o4 99 13,o4 100 9,o4 101 14,o0 102 (oC 2 100 101),o0 103 (oB 2 102),o0 104 (.mklit 2 [.t 103]),o0 105 (.append 2 16 (.t 99) (.t 104)),o4 13 105])
 .skip)))))
 (.reg [o4 63 14,o0 64 (oI 63 1),o4 14 64]))
def VW:AFunc:=⟨107,[.tmp 8],
 oN [o0 4 (.box 7 (.t 0)),o0 8 (.mov (.c (.lit [] true none)))]
 (oN [o0 18 (.build [.int .i64 0,.int .i64 0] [(0,1,(.c (.int .i64 (-1)))),(1,1,(.c (.int .i64 (-1))))]),o0 19 (.mklit 2 [.t 18]),o4 9 19]
 (.seq (oN [o0 10 (oA 0)]
 (.block 0 (.loop Q0)))
 (oN [o0 13 (.mov (.c (.lit [] true none)))]
 (.seq (oN [o0 14 (oA 0)]
 (.block 4 (.loop UQ)))
 (oN [o4 106 13,o4 8 106]
 oL)))))⟩
def aMZ:AFunc:=⟨23,[.cell 2 (some 5)],
 .seq (.reg [o0 2 (.alloc [.lit [] true none,.lit [] true none,.lit [] true none,.lit [] true none,.lit [] true none])])
 (.seq (.reg [⟨some 3,.mklit 1 [(.c (.str ⟨#[102,97,114,109]⟩)),(.c (.str ⟨#[108,105,110,101]⟩)),(.c (.str ⟨#[115,104,105,112]⟩)),(.c (.str ⟨#[104,111,117,115,101]⟩))],none⟩,o0 4 (.mklit 1 [(o5 10),(o5 12),(o5 20),(o5 30)]),o0 5 (.mklit 1 [(o5 0),(o5 1),(o5 2),(o5 3)]),o0 6 (oK 219 [(o5 1),(o5 3)]),o0 7 (.build [.lit [] true none,.int .i64 0,.int .i64 0,.int .i64 0] [(0,1,(.t 5)),(1,2,(.t 6)),(3,1,(o5 40))]),o0 8 (.mklit 1 [(o5 1),(o5 2)]),o0 9 (oK 219 [(o5 0),(o5 1)]),o0 10 (.build [.lit [] true none,.int .i64 0,.int .i64 0,.int .i64 0] [(0,1,(.t 8)),(1,2,(.t 9)),(3,1,(o5 25))]),o0 11 (.mklit 4 [.t 7,.t 10]),o0 12 (.build [.int .i64 0,.int .i64 0,.int .i64 0] [(2,1,(o5 2))]),o0 13 (.mklit 3 [.t 12]),o4 14 0,o0 15 (.append 3 24 (.t 13) (.t 14)),o0 16 (.build [.int .i64 0,.int .i64 0,.int .i64 0] [(1,1,(o5 2)),(2,1,(o5 15))]),o0 17 (.build [.int .i64 0,.int .i64 0,.int .i64 0] [(1,1,(o5 3)),(2,1,(o5 15))]),o0 18 (.build [.int .i64 0,.int .i64 0,.int .i64 0] [(0,1,(o5 1)),(1,1,(o5 1)),(2,1,(o5 14))]),o0 19 (.build [.int .i64 0,.int .i64 0,.int .i64 0] [(0,1,(o5 1)),(1,1,(o5 2)),(2,1,(o5 20))]),o0 20 (.build [.int .i64 0,.int .i64 0,.int .i64 0] [(1,1,(o5 2)),(2,1,(o5 12))]),o0 21 (.mklit 3 [.t 16,.t 17,.t 18,.t 19,.t 20]),o0 22 (.build [.lit [] true none,.lit [] true none,.lit [] true none,.lit [] true none,.lit [] true none] [(0,1,(.t 3)),(1,1,(.t 4)),(2,1,(.t 11)),(3,1,(.t 15)),(4,1,(.t 21))]),o1 (.store 5 (.t 2) (.t 22))])
 oL)⟩
def aM8:AFunc:=⟨4,[.cell 0 (some 5)],
 .seq (.reg [o0 0 (.alloc [.lit [] true none,.lit [] true none,.lit [] true none,.lit [] true none,.lit [] true none])])
 (oN [o0 1 (.build [.int .i64 0,.int .i64 0,.int .i64 0] [(0,1,(o5 2)),(2,1,(o5 1))]),o0 2 (.mklit 3 [.t 1]),o0 3 (oK 209 [.t 2]),o1 (.store 5 (.t 0) (.t 3))]
 oL)⟩
def aMK:AFunc:=⟨4,[.cell 0 (some 5)],
 .seq (.reg [o0 0 (.alloc [.lit [] true none,.lit [] true none,.lit [] true none,.lit [] true none,.lit [] true none])])
 (oN [o0 1 (.build [.int .i64 0,.int .i64 0,.int .i64 0] [(0,1,(o5 1)),(2,1,(o5 1))]),o0 2 (.mklit 3 [.t 1]),o0 3 (oK 209 [.t 2]),o1 (.store 5 (.t 0) (.t 3))]
 oL)⟩
def aGF:ACode:=.block 1 (.dreg [o3 25 (o7 8) 0 1,o3 26 (o7 6) 0 0,o3 27 (oB 4 9) 0 0,o3 28 (o7 3) 0 0,o3 29 (oK 335 [.t 26,.t 27,.t 28]) 0 1,o3 30 (.bin .shl (o5 1) (.t 29)) 1 1,o3 31 (.bin .or (.t 25) (.t 30)) 1 1,⟨o1 (.store 1 (.t 8) (.t 31)),1,2⟩])
def aM4:AFunc:=⟨37,[.tmp 4,.tmp 5],
 oN [o0 2 (.box 5 (.t 0)),o0 3 (.box 1 (.t 1)),o0 4 (.mov (.c (.lit [] true none))),o0 5 (oA 0)]
 (oN [o0 11 (oB 5 2),o0 12 (o7 3),o0 13 (o8 2 2),o0 14 (o7 13),o0 15 (oF 14),o0 16 (oK 333 [(.t 11),(.t 12),(.t 15),(o5 0)]),o4 10 16,o0 17 (oD 10 0),o0 18 (oD 10 1),o0 6 (.alloc [.nilPtr]),o1 (.store 1 (.t 6) (.t 17)),o4 7 18]
 (.seq (oN [o4 19 7,o0 20 (oG true (.t 19) (o5 0))]
 (.cond (.t 20) (oN [o4 21 7,o0 4 (.mov (.c (.lit [] true none))),o4 5 21]
 oL)
 .skip))
 (oN [o0 8 (.alloc [.int .i64 0]),o1 (.store 1 (.t 8) (o5 0))]
 (.seq (oN [o0 22 (o7 6),o0 23 (oK 334 [.t 22])]
 (.block 0 (.rangeFunc (.t 23) [24] (.reg [o0 9 (.alloc [.int .i64 0,.int .i64 0,.int .i64 0,.int .i64 0]),o1 (.store 4 (.t 9) (.t 24))])
 (aGF))))
 (oN [o0 32 (o7 8),o0 33 (o8 2 0),o0 34 (o7 33),o0 35 (oF 34),o0 36 (oK 336 [.t 32,.t 35]),o4 4 36,o0 5 (oA 0)]
 oL)))))⟩
def aIT:AFunc:=⟨39,[.tmp 4,.tmp 5],
 oN [o0 2 (.box 5 (.t 0)),o0 4 (oA 0),o0 5 (oA 0)]
 (oN [o0 11 (oB 5 2),o4 12 1,o0 13 (o8 2 4),o0 14 (o7 13),o0 15 (oF 14),o0 16 (oK 333 [(.t 11),(.t 12),(.t 15),(o5 0)]),o4 10 16,o0 17 (oD 10 0),o0 18 (oD 10 1),o4 6 17,o4 7 18]
 (.seq (oN [o4 19 7,o0 20 (oG true (.t 19) (o5 0))]
 (.cond (.t 20) (oN [o4 21 7,o0 4 (oA 0),o4 5 21]
 oL)
 .skip))
 (.seq (oN [o4 23 6,o0 24 (oK 337 [.t 23]),o4 22 24,o0 25 (oD 22 0),o0 26 (oD 22 1),o4 8 25,o4 9 26]
 (.block 0 (oN [o4 28 8,o4 29 1,o0 30 (.bin .shr (.t 28) (.t 29)),o0 31 (.bin .and (.t 30) (o5 1)),o0 32 (oG false (.t 31) (o5 1)),o4 27 32]
 (.cond (.t 27) (oN [o0 4 (oA 1),o0 5 (oA 0)]
 oL)
 (oN [o4 34 9,o4 35 1,o0 36 (.bin .shr (.t 34) (.t 35)),o0 37 (.bin .and (.t 36) (o5 1)),o0 38 (oG false (.t 37) (o5 0)),o4 33 38]
 (.cond (.t 33) (oN [o0 4 (oA 2),o0 5 (oA 0)]
 oL)
 .skip))))))
 (oN [o0 4 (oA 0),o0 5 (oA 0)]
 oL))))⟩
def aNI:AFunc:=⟨28,[.tmp 2,.tmp 3],
 oN [o0 1 (.box 5 (.t 0)),o0 2 (.mov (.c (.lit [] true none))),o0 3 (oA 0)]
 (oN [o0 9 (oB 5 1),o0 10 (oK 333 [(.t 9),(o5 0),(o5 1),(o5 0)]),o4 8 10,o0 11 (oD 8 0),o0 12 (oD 8 1),o4 4 11,o4 5 12]
 (.seq (oN [o4 13 5,o0 14 (oG true (.t 13) (o5 0))]
 (.cond (.t 14) (oN [o4 15 5,o0 2 (.mov (.c (.lit [] true none))),o4 3 15]
 oL)
 .skip))
 (oN [o4 17 4,o0 18 (oK 337 [.t 17]),o4 16 18,o0 19 (oD 16 0),o0 20 (oD 16 1),o4 6 19,o4 7 20]
 (oN [o4 21 7,o4 22 6,o0 23 (.bin .andNot (.t 21) (.t 22)),o0 24 (o8 1 4),o0 25 (o7 24),o0 26 (oF 25),o0 27 (oK 336 [.t 23,.t 26]),o4 2 27,o0 3 (oA 0)]
 oL))))⟩
def aED:ACode:=oN [o0 37 (oH 36 35)]
 (.seq (.cond (.t 37) .skip
 (oM 2))
 (.seq (.block 3 (oN [o0 38 (oC 1 34 36),o0 39 (o7 38),o4 11 39]
 (.seq (.dreg [o3 40 (o8 2 4) 0 0,o3 41 (o7 40) 0 0,o3 42 (o9 11) 0 0,o3 43 (oC 3 41 42) 0 0,o3 44 (o8 43 1) 0 0,o3 45 (o7 44) 0 0,o3 46 (o7 3) 0 0,o3 47 (oG false (.t 45) (.t 46)) 0 0])
 (.cond (.t 47) (.dreg [o3 48 (o9 9) 0 0,o3 49 (o8 2 2) 0 0,o3 50 (o7 49) 0 0,o3 51 (o8 2 4) 0 0,o3 52 (o7 51) 0 0,o3 53 (o9 11) 0 0,o3 54 (oC 3 52 53) 0 0,o3 55 (o8 54 0) 0 0,o3 56 (o7 55) 0 0,o3 57 (oC 4 50 56) 0 0,o3 58 (o8 57 3) 0 0,o3 59 (o7 58) 0 0,o3 60 (.bin .add (.t 48) (.t 59)) 0 0,o3 9 (o9 60) 0 0])
 .skip))))
 (.reg [o0 61 (oI 36 1),o4 36 61])))
def aEZ:ACode:=.block 1 (oN [o0 9 (oA 0)]
 (.seq (.seq (.dreg [o3 28 (o7 6) 0 0,o3 29 (oB 4 8) 0 0,o3 30 (oK 338 [.t 28,.t 29]) 0 1,o3 31 (o8 2 4) 0 1,o3 32 (o7 31) 0 1,o3 33 (oF 32) 0 1,o3 34 (oK 336 [.t 30,.t 33]) 1 2,o3 35 (oF 34) 2 2,o3 36 (oA 0) 0 2])
 (.block 2 (.loop aED)))
 (.seq (oN [o0 62 (o7 7)]
 (.cond (.t 62) (.reg [o4 63 9,o4 64 9,o0 65 (.build [.int .i64 0,.int .i64 0] [(0,1,(.t 63)),(1,1,(.t 64))]),o1 (.store 2 (.t 4) (.t 65)),o1 (.store 1 (.t 7) (.c (.bool false)))])
 .skip))
 (.reg [o0 66 (o8 4 0),o0 67 (o7 66),o4 68 9,o0 69 (.min [.t 67,.t 68]),o0 70 (o8 4 1),o0 71 (o7 70),o4 72 9,o0 73 (.max [.t 71,.t 72]),o0 74 (.build [.int .i64 0,.int .i64 0] [(0,1,(.t 69)),(1,1,(.t 73))]),o1 (.store 2 (.t 4) (.t 74))]))))
def aHW:AFunc:=⟨76,[.cell 4 (some 2),.tmp 5],
 oN [o0 2 (.box 5 (.t 0)),o0 3 (.box 1 (.t 1)),o0 4 (.alloc [.int .i64 0,.int .i64 0]),o0 5 (oA 0)]
 (oN [o0 13 (oB 5 2),o0 14 (o7 3),o0 15 (o8 2 0),o0 16 (o7 15),o0 17 (oF 16),o0 18 (oK 333 [(.t 13),(.t 14),(.t 17),(o5 0)]),o4 12 18,o0 19 (oD 12 0),o0 20 (oD 12 1),o0 6 (.alloc [.nilPtr]),o1 (.store 1 (.t 6) (.t 19)),o4 5 20]
 (.seq (oN [o4 21 5,o0 22 (oG true (.t 21) (o5 0))]
 (.cond (.t 22) (oN [o0 23 (oB 2 4),o4 24 5,o1 (.store 2 (.t 4) (.t 23)),o4 5 24]
 oL)
 .skip))
 (oN [o0 7 (.alloc [.bool false]),o1 (.store 1 (.t 7) (.c (.bool true)))]
 (.seq (oN [o0 25 (o7 6),o0 26 (oK 334 [.t 25])]
 (.block 0 (.rangeFunc (.t 26) [27] (.reg [o0 8 (.alloc [.int .i64 0,.int .i64 0,.int .i64 0,.int .i64 0]),o1 (.store 4 (.t 8) (.t 27))])
 (aEZ))))
 (oN [o0 75 (oB 2 4),o1 (.store 2 (.t 4) (.t 75)),o0 5 (oA 0)]
 oL)))))⟩
def aEB:ACode:=.block 3 (oN [o0 24 (o7 4),o0 25 (oB 4 6),o0 26 (o7 5),o0 27 (oK 339 [.t 24,.t 25,.t 26]),o0 28 (.not (.t 27))]
 (.cond (.t 28) (oN [o0 29 (o7 2),o0 30 (o7 5),o0 31 (.mklit 1 [.t 30]),o0 32 (.append 1 8 (.t 29) (.t 31)),o1 (.store 1 (.t 2) (.t 32))]
 (oM 1))
 .skip))
def aFB:ACode:=oN [o0 19 (oH 18 17)]
 (.seq (.cond (.t 19) .skip
 (oM 0))
 (.seq (.block 1 (oN [o4 20 18,o0 5 (.alloc [.int .i64 0]),o1 (.store 1 (.t 5) (.t 20))]
 (oN [o0 21 (o7 4),o0 22 (oK 334 [.t 21])]
 (.block 2 (.rangeFunc (.t 22) [23] (.reg [o0 6 (.alloc [.int .i64 0,.int .i64 0,.int .i64 0,.int .i64 0]),o1 (.store 4 (.t 6) (.t 23))])
 (aEB))))))
 (.reg [o0 33 (oI 18 1),o4 18 33])))
def aIS:AFunc:=⟨35,[.cell 2 none,.tmp 3],
 .seq (.reg [o0 1 (.box 5 (.t 0)),o0 2 (.alloc [.lit [] true none]),o0 3 (oA 0)])
 (.scope (oN [o0 8 (oB 5 1),o0 9 (oK 333 [(.t 8),(o5 0),(o5 1),(o5 0)]),o4 7 9,o0 10 (oD 7 0),o0 11 (oD 7 1),o0 4 (.alloc [.nilPtr]),o1 (.store 1 (.t 4) (.t 10)),o4 3 11]
 (.seq (oN [o4 12 3,o0 13 (oG true (.t 12) (o5 0))]
 (.cond (.t 13) (oN [o4 14 3,o1 (.store 1 (.t 2) (.c (.lit [] true none))),o4 3 14]
 oL)
 .skip))
 (.seq .skip
 (.seq (oN [o0 15 (o8 1 2),o0 16 (o7 15),o0 17 (oF 16),o0 18 (oA 0)]
 (.block 0 (.loop aFB)))
 (oN [o0 34 (o7 2),o1 (.store 1 (.t 2) (.t 34)),o0 3 (oA 0)]
 oL))))))⟩
def aDI:ACode:=.block 1 (oN [o0 35 (o7 10),o0 36 (oB 4 12),o0 37 (o7 4),o0 38 (oK 335 [.t 35,.t 36,.t 37]),o4 13 38]
 (.seq (.dreg [o3 39 (o7 10) 0 0,o3 40 (oB 4 12) 0 0,o3 41 (o7 4) 0 0,o3 42 (oK 339 [.t 39,.t 40,.t 41]) 0 1,o3 43 (.not (.t 42)) 1 1,o3 44 (o9 43) 1 1,⟨o2 45 (o7 5) 44 true,1,1⟩,⟨o2 46 (o8 3 1) 44 true,1,1⟩,⟨o2 47 (o7 46) 44 true,1,1⟩,⟨o2 48 (o9 13) 44 true,1,1⟩,⟨o2 49 (oC 1 47 48) 44 true,1,1⟩,⟨o2 50 (o7 49) 44 true,1,1⟩,⟨o2 51 (.bin .leq (.t 45) (.t 50)) 44 true,1,1⟩,o3 52 (.pick (.t 44) (.t 51) (.c (.bool false))) 1 1])
 (.cond (.t 52) (.reg [o4 53 13,o0 54 (.iaddr (some 4) 1 (.t 11) (.t 53)),o0 55 (o7 54),o0 56 (oI 55 1),o0 57 (.iaddr (some 4) 1 (.t 11) (.t 53)),o1 (.store 1 (.t 57) (.t 56))])
 .skip)))
def aFU:ACode:=oN [o0 60 (.bin .lss (.t 59) (o5 4))]
 (.seq (.cond (.t 60) .skip
 (oM 2))
 (.seq (.block 3 (oN [o4 61 59,o0 62 (.index 4 1 none (.t 58) (.t 59)),o4 14 61,o4 15 62]
 (oN [o4 63 15,o4 64 7,o0 65 (.bin .gtr (.t 63) (.t 64))]
 (.cond (.t 65) (.reg [o4 66 14,o4 67 15,o4 6 66,o4 7 67])
 .skip))))
 (.reg [o0 68 (oI 59 1),o4 59 68])))
def aMR:AFunc:=⟨73,[.tmp 6,.tmp 7,.tmp 8],
 oN [o0 3 (.box 5 (.t 0)),o0 4 (.box 1 (.t 1)),o0 5 (.box 1 (.t 2)),o0 6 (oA 0),o0 7 (oA 0),o0 8 (oA 0)]
 (oN [o0 9 (oA 0)]
 (.seq (oN [o0 16 (o7 5),o0 17 (.mklit 1 [.t 16]),o0 18 (oK 340 [(o5 0),(o5 60),(.t 17)])]
 (.cond (.t 18) (.reg [o0 9 (oA 7)])
 .skip))
 (oN [o0 20 (oB 5 3),o0 21 (o7 4),o0 22 (o8 3 2),o0 23 (o7 22),o0 24 (oF 23),o4 25 9,o0 26 (oK 333 [.t 20,.t 21,.t 24,.t 25]),o4 19 26,o0 27 (oD 19 0),o0 28 (oD 19 1),o0 10 (.alloc [.nilPtr]),o1 (.store 1 (.t 10) (.t 27)),o4 8 28]
 (.seq (oN [o4 29 8,o0 30 (oG true (.t 29) (o5 0))]
 (.cond (.t 30) (oN [o4 31 8,o0 6 (oA 0),o0 7 (oA 0),o4 8 31]
 oL)
 .skip))
 (oN [o0 11 (.alloc [.int .i64 0,.int .i64 0,.int .i64 0,.int .i64 0])]
 (.seq (oN [o0 32 (o7 10),o0 33 (oK 334 [.t 32])]
 (.block 0 (.rangeFunc (.t 33) [34] (.reg [o0 12 (.alloc [.int .i64 0,.int .i64 0,.int .i64 0,.int .i64 0]),o1 (.store 4 (.t 12) (.t 34))])
 (aDI))))
 (.seq (oN [o0 58 (oB 4 11),o0 59 (oA 0)]
 (.block 2 (.loop aFU)))
 (.seq (oN [o4 69 7,o0 70 (oG false (.t 69) (o5 0))]
 (.cond (.t 70) (oN [o0 6 (oA 0),o0 7 (oA 0),o0 8 (oA 9)]
 oL)
 .skip))
 (oN [o4 71 6,o4 72 7,o4 6 71,o4 7 72,o0 8 (oA 0)]
 oL)))))))))⟩
def aFG:ACode:=oN [o0 21 (oH 20 19)]
 (.seq (.cond (.t 21) .skip
 (oM 0))
 (.seq (.block 1 (oN [o4 22 20,o4 5 22]
 (oN [o4 23 5,o0 24 (o8 1 3),o0 25 (o7 24),o0 26 (oF 25),o0 27 (oK 336 [.t 23,.t 26]),o4 6 27]
 (.seq (oN [o4 28 4,o4 29 28,o2 30 (o9 6) 29 true,o2 31 (oF 30) 29 true,o2 32 (o9 2) 29 true,o2 33 (oF 32) 29 true,o2 34 (.bin .gtr (.t 31) (.t 33)) 29 true,o2 35 (o9 34) 29 true,o2 36 (o9 6) 35 false,o2 37 (oF 36) 35 false,o2 38 (o9 2) 35 false,o2 39 (oF 38) 35 false,o2 40 (oG false (.t 37) (.t 39)) 35 false,o2 41 (o9 40) 35 false,o2 42 (o9 6) 41 true,o2 43 (o9 2) 41 true,o2 44 (oK 118 [.t 42,.t 43]) 41 true,o2 45 (.bin .gtr (.t 44) (o5 0)) 41 true,o2 46 (.pick (.t 41) (.t 45) (.c (.bool false))) 35 false,o2 47 (.pick (.t 35) (.c (.bool true)) (.t 46)) 29 true,o0 48 (.pick (.t 29) (.t 47) (.c (.bool false)))]
 (.cond (.t 48) (oM 1)
 .skip))
 (oN [o0 49 (oB 5 1),o4 50 5,o0 51 (oK 342 [.t 49,.t 50]),o0 52 (oK 343 [.t 51])]
 (.cond (.t 52) (.reg [o4 53 6,o4 2 53,o0 4 (.mov (.c (.bool true)))])
 .skip))))))
 (.reg [o0 54 (oI 20 1),o4 20 54])))
def aH9:AFunc:=⟨56,[.tmp 2,.tmp 3],
 oN [o0 1 (.box 5 (.t 0)),o0 2 (.mov (.c (.lit [] true none))),o0 3 (oA 0)]
 (.seq (oN [o0 8 (oB 5 1),o0 9 (oK 341 [.t 8]),o4 7 9,o0 10 (oD 7 0),o0 11 (oD 7 1),o0 12 (oD 7 2),o4 3 12]
 (oN [o4 13 3,o0 14 (oG true (.t 13) (o5 0))]
 (.cond (.t 14) (oN [o4 15 3,o0 2 (.mov (.c (.lit [] true none))),o4 3 15]
 oL)
 .skip)))
 (oN [o0 4 (.mov (.c (.bool false)))]
 (.seq (oN [o0 16 (o8 1 3),o0 17 (o7 16),o0 18 (oF 17),o0 19 (.bin .shl (o5 1) (.t 18)),o0 20 (oA 0)]
 (.block 0 (.loop aFG)))
 (oN [o4 55 2,o4 2 55,o0 3 (oA 0)]
 oL))))⟩
def aOL:AFunc:=⟨8,[.cell 4 (some 2)],
 oN [o0 4 (.alloc [.int .i64 0,.int .i64 0])]
 (oN [o4 5 0,o4 6 1,o0 7 (.build [.int .i64 0,.int .i64 0] [(0,1,(.t 5)),(1,1,(.t 6))]),o1 (.store 2 (.t 4) (.t 7))]
 oL)⟩
def V9:ACode:=.seq (oN [o4 6 5,o4 7 0,o0 8 (oF 7),o0 9 (oH 6 8),o4 10 9,o2 11 (o9 0) 10 true,o2 12 (o9 5) 10 true,o2 13 (oC 1 11 12) 10 true,o2 14 (o7 13) 10 true,o2 15 (o9 1) 10 true,o2 16 (.eql (.one .s) true (.t 14) (.t 15)) 10 true,o0 17 (.pick (.t 10) (.t 16) (.c (.bool false)))]
 (.cond (.t 17) .skip
 (oM 0)))
 (.block 1 (.reg [o4 18 5,o0 19 (oI 18 1),o4 5 19]))
def QK:AFunc:=⟨25,[.tmp 4],
 oN [o0 4 (oA 0)]
 (oN [o0 5 (oA 0)]
 (.seq (.block 0 (.loop V9))
 (.seq (oN [o4 20 5,o4 21 0,o0 22 (oF 21),o0 23 (oG false (.t 20) (.t 22))]
 (.cond (.t 23) (oN [o0 4 (.mov (.c (.int .i64 (-1))))]
 oL)
 .skip))
 (oN [o4 24 5,o4 4 24]
 oL))))⟩
def PE:ACode:=.seq (oN [o4 9 4,o4 10 0,o0 11 (.len 0 (.t 10)),o0 12 (oH 9 11)]
 (.cond (.t 12) .skip
 (oM 0)))
 (.seq (.block 1 (oN [o4 15 4,o0 16 (.bin .gtr (.t 15) (o5 0)),o4 17 16,o2 18 (o9 0) 17 true,o2 19 (o9 4) 17 true,o2 20 (.sindex (.t 18) (.t 19)) 17 true,o2 21 (oG false (.t 20) (.c (.int .u8 46))) 17 true,o2 22 (o9 21) 17 true,o2 23 (o9 0) 22 false,o2 24 (o9 4) 22 false,o2 25 (.sindex (.t 23) (.t 24)) 22 false,o2 26 (.conv .i64 (.t 25)) 22 false,o2 27 (oK 20 [(.t 26),(o5 48),(o5 57)]) 22 false,o2 28 (.pick (.t 22) (.c (.bool true)) (.t 27)) 17 true,o0 29 (.pick (.t 17) (.t 28) (.c (.bool false))),o4 5 29]
 (.reg [o4 30 3,o4 31 30,o2 32 (o9 0) 31 true,o2 33 (o9 4) 31 true,o2 34 (.sindex (.t 32) (.t 33)) 31 true,o2 35 (.conv .i64 (.t 34)) 31 true,o2 36 (oK 20 [(.t 35),(o5 97),(o5 122)]) 31 true,o2 37 (o9 36) 31 true,o2 38 (o9 5) 37 false,o2 39 (.pick (.t 37) (.c (.bool true)) (.t 38)) 31 true,o0 40 (.pick (.t 31) (.t 39) (.c (.bool false))),o4 3 40])))
 (.reg [o4 13 4,o0 14 (oI 13 1),o4 4 14]))
def S4:AFunc:=⟨42,[.tmp 2],
 oN [o0 2 (.mov (.c (.bool false)))]
 (oN [o4 6 0,o0 7 (.len 0 (.t 6)),o0 8 (oK 20 [(.t 7),(o5 1),(o5 16)]),o4 3 8]
 (.seq (oN [o0 4 (oA 0)]
 (.block 0 (.loop PE)))
 (oN [o4 41 3,o4 2 41]
 oL)))⟩
def UI:AFunc:=⟨10,[.tmp 6],
 oN [o0 3 (.box 1 (.t 0)),o0 4 (.box 1 (.t 1)),o0 6 (.mov (.c (.bool false)))]
 (oN [o4 7 2,o0 8 (.mkfun 378 [] [.t 3,.t 4]),o0 9 (oK 356 [.t 7,.t 8]),o4 6 9]
 oL)⟩
def V5:AFunc:=⟨20,[.tmp 4],
 oN [o0 4 (oA 0)]
 (oN [o4 7 0,o0 8 (oK 386 [.t 7]),o4 5 8]
 (oN [o4 9 1,o0 10 (oK 386 [.t 9]),o4 6 10]
 (.seq (oN [o4 11 5]
 (.cond (.t 11) (.seq (oN [o4 12 6]
 (.cond (.t 12) (oN [o0 4 (oA 0)]
 oL)
 .skip))
 (oN [o0 4 (.mov (.c (.int .i64 (-1))))]
 oL))
 .skip))
 (.seq (oN [o4 13 6]
 (.cond (.t 13) (oN [o0 4 (oA 1)]
 oL)
 .skip))
 (.seq (oN [o4 14 0,o4 15 1,o0 16 (oH 14 15)]
 (.cond (.t 16) (oN [o0 4 (.mov (.c (.int .i64 (-1))))]
 oL)
 .skip))
 (.seq (oN [o4 17 0,o4 18 1,o0 19 (.bin .gtr (.t 17) (.t 18))]
 (.cond (.t 19) (oN [o0 4 (oA 1)]
 oL)
 .skip))
 (oN [o0 4 (oA 0)]
 oL)))))))⟩
def P4:ACode:=oN [o0 9 (oH 8 7)]
 (.seq (.cond (.t 9) .skip
 (oM 0))
 (.seq (.block 1 (oN [o4 10 8,o4 5 10]
 (oN [o4 11 1,o4 12 0,o4 13 5,o0 14 (oC 1 12 13),o0 15 (o7 14),o0 16 (.call (.t 11) [.t 15])]
 (.cond (.t 16) (oN [o4 17 5,o4 4 17]
 oL)
 .skip))))
 (.reg [o0 18 (oI 8 1),o4 8 18])))
def VU:AFunc:=⟨19,[.tmp 4],
 oN [o0 4 (oA 0)]
 (.seq (oN [o4 6 0,o0 7 (oF 6),o0 8 (oA 0)]
 (.block 0 (.loop P4)))
 (oN [o0 4 (.mov (.c (.int .i64 (-1))))]
 oL))⟩
def BE:AFunc:=⟨4,[.tmp 2],
 oN [o0 1 (.box 1 (.t 0)),o0 2 (.mov (.c (.nilFunc)))]
 (oN [o0 3 (.mkfun 410 [] [.t 1]),o4 2 3]
 oL)⟩
def TZ:AFunc:=⟨33,[.tmp 2,.tmp 3],
 oN [o0 1 (.box 7 (.t 0)),o0 2 (oA 0),o0 3 (oA 0)]
 (.seq (.block 0 (oN [o0 5 (o8 1 0),o0 6 (o7 5),o0 7 (.mklit 1 [.t 6]),o0 8 (oK 295 [(o5 1),(o5 24),(.t 7)]),o4 9 8,o2 10 (o8 1 1) 9 false,o2 11 (o8 10 0) 9 false,o2 12 (o7 11) 9 false,o2 13 (o8 1 1) 9 false,o2 14 (o8 13 1) 9 false,o2 15 (o7 14) 9 false,o2 16 (.mklit 1 [.t 12,.t 15]) 9 false,o2 17 (oK 295 [(o5 0),(o5 8),(.t 16)]) 9 false,o0 18 (.pick (.t 9) (.c (.bool true)) (.t 17)),o4 19 18,o2 20 (o8 1 5) 19 false,o2 21 (o7 20) 19 false,o2 22 (.mklit 1 [.t 21]) 19 false,o2 23 (oK 295 [(o5 1),(o5 3),(.t 22)]) 19 false,o0 24 (.pick (.t 19) (.c (.bool true)) (.t 23)),o4 4 24]
 (.cond (.t 4) (oN [o0 2 (oA 0),o0 3 (oA 7)]
 oL)
 (oN [o0 26 (o8 1 1),o0 27 (o8 26 0),o0 28 (o7 27),o0 29 (o8 1 1),o0 30 (o8 29 1),o0 31 (o7 30),o0 32 (.bin .gtr (.t 28) (.t 31)),o4 25 32]
 (.cond (.t 25) (oN [o0 2 (oA 0),o0 3 (oA 2)]
 oL)
 .skip)))))
 (oN [o0 2 (oA 0),o0 3 (oA 0)]
 oL))⟩
def SG:AFunc:=⟨10,[.tmp 6],
 oN [o0 3 (.box 1 (.t 0)),o0 4 (.box 1 (.t 1)),o0 6 (.mov (.c (.bool false)))]
 (oN [o4 7 2,o0 8 (.mkfun 413 [] [.t 3,.t 4]),o0 9 (oK 356 [.t 7,.t 8]),o4 6 9]
 oL)⟩
def SJ:AFunc:=⟨10,[.tmp 2,.tmp 3],
 oN [o0 1 (.box 7 (.t 0)),o0 2 (oA 0),o0 3 (oA 0)]
 (oN [o0 4 (o8 1 3),o0 5 (o7 4),o0 6 (.mkfun 298 [] [.t 1]),o0 7 (oK 297 [(.t 5),(o5 1),(o5 5),(.t 6)]),o0 8 (oD 7 0),o0 9 (oD 7 1),o4 2 8,o4 3 9]
 oL)⟩
def UW:ACode:=oN [o0 22 (oH 21 20)]
 (.seq (.cond (.t 22) .skip
 (oM 0))
 (.seq (.block 1 (.seq (.reg [o4 23 21,o0 24 (oC 2 19 21),o0 25 (oB 2 24),⟨some 11,.alloc [.str ⟨#[]⟩,.int .i64 0],none⟩,o4 10 23,o1 (.store 2 (.t 11) (.t 25))])
 (oN [o4 26 3,o4 27 10,o0 28 (oB 2 11),o0 29 (.call (.t 26) [.t 27,.t 28]),o4 12 29]
 (oN [o4 30 12,o0 31 (oG true (.t 30) (o5 0))]
 (.cond (.t 31) (oN [o4 32 10,o4 33 12,o4 8 32,o4 9 33]
 oL)
 .skip)))))
 (.reg [o0 34 (oI 21 1),o4 21 34])))
def SZ:AFunc:=⟨35,[.tmp 8,.tmp 9],
 oN [o0 8 (oA 0),o0 9 (oA 0)]
 (.seq (oN [o4 13 1,o4 14 2,o4 15 0,o0 16 (oF 15),o0 17 (.mklit 1 [.t 16]),o0 18 (oK 295 [.t 13,.t 14,.t 17])]
 (.cond (.t 18) (oN [o0 8 (oA 0),o0 9 (oA 3)]
 oL)
 .skip))
 (.seq (oN [o4 19 0,o0 20 (oF 19),o0 21 (oA 0)]
 (.block 0 (.loop UW)))
 (oN [o0 8 (oA 0),o0 9 (oA 0)]
 oL)))⟩
def PX:AFunc:=⟨48,[.tmp 5],
 oN [o0 4 (.box 2 (.t 1)),o0 5 (oA 0)]
 (.seq (.block 0 (oN [o0 7 (o8 4 0),o0 8 (o7 7),o0 9 (oK 111 [.t 8]),o0 10 (.not (.t 9)),o4 6 10]
 (.cond (.t 6) (oN [o0 5 (oA 6)]
 oL)
 (oN [o0 12 (o8 2 3),o0 13 (o7 12),o4 14 0,o0 15 (.slicev 2 (.t 13) none (some (.t 14)) none),o0 16 (.mkfun 300 [] [.t 4]),o0 17 (oK 299 [.t 15,.t 16]),o4 11 17]
 (.cond (.t 11) (oN [o0 5 (oA 5)]
 oL)
 (oN [o0 19 (o8 2 0),o0 20 (o7 19),o0 21 (o8 4 1),o0 22 (o7 21),o0 23 (.mklit 1 [.t 22]),o0 24 (oK 295 [(o5 0),(.t 20),(.t 23)]),o4 18 24]
 (.cond (.t 18) (oN [o0 5 (oA 7)]
 oL)
 (.seq (oN [o4 26 0,o0 27 (oG false (.t 26) (o5 0)),o4 28 27,o2 29 (o8 4 1) 28 true,o2 30 (o7 29) 28 true,o2 31 (.bin .gtr (.t 30) (o5 0)) 28 true,o0 32 (.pick (.t 28) (.t 31) (.c (.bool false))),o4 25 32]
 (.cond (.t 25) .skip
 (.dreg [o3 33 (o9 0) 0 0,o3 34 (.bin .gtr (.t 33) (o5 0)) 0 0,o3 35 (o9 34) 0 0,⟨o2 36 (o8 4 1) 35 true,0,0⟩,⟨o2 37 (o7 36) 35 true,0,0⟩,⟨o2 38 (o8 2 3) 35 true,0,0⟩,⟨o2 39 (o7 38) 35 true,0,0⟩,⟨o2 40 (o9 0) 35 true,0,0⟩,⟨o2 41 (.max [(o5 1),(.t 40)]) 35 true,0,0⟩,⟨o2 42 (.bin .sub (.t 41) (o5 1)) 35 true,0,0⟩,⟨o2 43 (oC 2 39 42) 35 true,0,0⟩,⟨o2 44 (o8 43 1) 35 true,0,0⟩,⟨o2 45 (o7 44) 35 true,0,0⟩,⟨o2 46 (.bin .leq (.t 37) (.t 45)) 35 true,0,0⟩,o3 47 (.pick (.t 35) (.t 46) (.c (.bool false))) 0 0,o3 25 (o9 47) 0 0])))
 (.cond (.t 25) (oN [o0 5 (oA 2)]
 oL)
 .skip)))))))))
 (oN [o0 5 (oA 0)]
 oL))⟩
def QL:AFunc:=⟨9,[.tmp 4],
 oN [o0 4 (.mov (.c (.bool false)))]
 (oN [o4 5 0,o4 6 1,o0 7 (oK 414 [.t 5,.t 6]),o0 8 (.bin .geq (.t 7) (o5 0)),o4 4 8]
 oL)⟩
def PR:AFunc:=⟨9,[.tmp 3],
 oN [o0 2 (.box 2 (.t 0)),o0 3 (.mov (.c (.bool false)))]
 (oN [o0 4 (o8 2 0),o0 5 (o7 4),o0 6 (o8 1 0),o0 7 (o7 6),o0 8 (.eql (.one .s) false (.t 5) (.t 7)),o4 3 8]
 oL)⟩
def PN:AFunc:=⟨10,[.tmp 2,.tmp 3],
 oN [o0 1 (.box 7 (.t 0)),o0 2 (oA 0),o0 3 (oA 0)]
 (oN [o0 4 (o8 1 4),o0 5 (o7 4),o0 6 (.mkfun 303 [] [.t 1]),o0 7 (oK 302 [(.t 5),(o5 0),(o5 4),(.t 6)]),o0 8 (oD 7 0),o0 9 (oD 7 1),o4 2 8,o4 3 9]
 oL)⟩
def WD:ACode:=oN [o0 22 (oH 21 20)]
 (.seq (.cond (.t 22) .skip
 (oM 0))
 (.seq (.block 1 (oN [o4 23 21,o0 24 (oC 2 19 21),o0 25 (oB 2 24),o0 11 (.alloc [.int .i64 0,.bool false]),o4 10 23,o1 (.store 2 (.t 11) (.t 25))]
 (oN [o4 26 3,o4 27 10,o0 28 (oB 2 11),o0 29 (.call (.t 26) [.t 27,.t 28]),o4 12 29]
 (oN [o4 30 12,o0 31 (oG true (.t 30) (o5 0))]
 (.cond (.t 31) (oN [o4 32 10,o4 33 12,o4 8 32,o4 9 33]
 oL)
 .skip)))))
 (.reg [o0 34 (oI 21 1),o4 21 34])))
def UP:AFunc:=⟨35,[.tmp 8,.tmp 9],
 oN [o0 8 (oA 0),o0 9 (oA 0)]
 (.seq (oN [o4 13 1,o4 14 2,o4 15 0,o0 16 (oF 15),o0 17 (.mklit 1 [.t 16]),o0 18 (oK 295 [.t 13,.t 14,.t 17])]
 (.cond (.t 18) (oN [o0 8 (oA 0),o0 9 (oA 3)]
 oL)
 .skip))
 (.seq (oN [o4 19 0,o0 20 (oF 19),o0 21 (oA 0)]
 (.block 0 (.loop WD)))
 (oN [o0 8 (oA 0),o0 9 (oA 0)]
 oL)))⟩
def S5:AFunc:=⟨12,[.tmp 5],
 oN [o0 4 (.box 2 (.t 1)),o0 5 (oA 0)]
 (.seq (oN [o0 6 (o8 2 0),o0 7 (o7 6),o0 8 (o8 4 0),o0 9 (o7 8),o0 10 (.mklit 1 [.t 9]),o0 11 (oK 295 [(o5 0),(.t 7),(.t 10)])]
 (.cond (.t 11) (oN [o0 5 (oA 7)]
 oL)
 .skip))
 (oN [o0 5 (oA 0)]
 oL))⟩
def UG:AFunc:=⟨10,[.tmp 2,.tmp 3],
 oN [o0 1 (.box 7 (.t 0)),o0 2 (oA 0),o0 3 (oA 0)]
 (oN [o0 4 (o8 1 6),o0 5 (o7 4),o0 6 (.mkfun 306 [] [.t 1]),o0 7 (oK 305 [(.t 5),(o5 0),(o5 5),(.t 6)]),o0 8 (oD 7 0),o0 9 (oD 7 1),o4 2 8,o4 3 9]
 oL)⟩
def TI:ACode:=oN [o0 22 (oH 21 20)]
 (.seq (.cond (.t 22) .skip
 (oM 0))
 (.seq (.block 1 (oN [o4 23 21,o0 24 (oC 3 19 21),o0 25 (oB 3 24),o0 11 (.alloc [.int .i64 0,.int .i64 0,.bool false]),o4 10 23,o1 (.store 3 (.t 11) (.t 25))]
 (oN [o4 26 3,o4 27 10,o0 28 (oB 3 11),o0 29 (.call (.t 26) [.t 27,.t 28]),o4 12 29]
 (oN [o4 30 12,o0 31 (oG true (.t 30) (o5 0))]
 (.cond (.t 31) (oN [o4 32 10,o4 33 12,o4 8 32,o4 9 33]
 oL)
 .skip)))))
 (.reg [o0 34 (oI 21 1),o4 21 34])))
def RH:AFunc:=⟨35,[.tmp 8,.tmp 9],
 oN [o0 8 (oA 0),o0 9 (oA 0)]
 (.seq (oN [o4 13 1,o4 14 2,o4 15 0,o0 16 (oF 15),o0 17 (.mklit 1 [.t 16]),o0 18 (oK 295 [.t 13,.t 14,.t 17])]
 (.cond (.t 18) (oN [o0 8 (oA 0),o0 9 (oA 3)]
 oL)
 .skip))
 (.seq (oN [o4 19 0,o0 20 (oF 19),o0 21 (oA 0)]
 (.block 0 (.loop TI)))
 (oN [o0 8 (oA 0),o0 9 (oA 0)]
 oL)))⟩
def T6:AFunc:=⟨21,[.tmp 5],
 oN [o0 4 (.box 3 (.t 1)),o0 5 (oA 0)]
 (.seq (.block 0 (oN [o0 7 (o8 2 5),o0 8 (o7 7),o0 9 (.bin .sub (.t 8) (o5 1)),o0 10 (o8 4 0),o0 11 (o7 10),o0 12 (.mklit 1 [.t 11]),o0 13 (oK 295 [(o5 0),(.t 9),(.t 12)]),o4 6 13]
 (.cond (.t 6) (oN [o0 5 (oA 4)]
 oL)
 (oN [o0 15 (o8 2 0),o0 16 (o7 15),o0 17 (o8 4 1),o0 18 (o7 17),o0 19 (.mklit 1 [.t 18]),o0 20 (oK 295 [(o5 0),(.t 16),(.t 19)]),o4 14 20]
 (.cond (.t 14) (oN [o0 5 (oA 7)]
 oL)
 .skip)))))
 (oN [o0 5 (oA 0)]
 oL))⟩
def WJ:ACode:=.seq (oN [o4 15 9,o4 16 10,o0 17 (oH 15 16)]
 (.cond (.t 17) .skip
 (oM 0)))
 (.block 1 (oN [o4 18 9,o4 19 10,o0 20 (.bin .add (.t 18) (.t 19)),o0 21 (.conv .u64 (.t 20)),o0 22 (.bin .shr (.t 21) (.c (.int .u64 1))),o0 23 (.conv .i64 (.t 22)),o4 11 23]
 (oN [o4 24 2,o4 25 0,o4 26 11,o0 27 (oC 2 25 26),o0 28 (oB 2 27),o4 29 1,o0 30 (.call (.t 24) [.t 28,.t 29]),o0 31 (.bin .lss (.t 30) (o5 0))]
 (.cond (.t 31) (.reg [o4 32 11,o0 33 (oI 32 1),o4 9 33])
 (.reg [o4 34 11,o4 10 34])))))
def PY:AFunc:=⟨49,[.tmp 6,.tmp 7],
 oN [o0 6 (oA 0),o0 7 (.mov (.c (.bool false)))]
 (oN [o4 12 0,o0 13 (oF 12),o4 8 13]
 (oN [o4 14 8,o0 9 (oA 0),o4 10 14]
 (.seq (.block 0 (.loop WJ))
 (oN [o4 35 9,o4 36 9,o4 37 8,o0 38 (oH 36 37),o4 39 38,o2 40 (o9 2) 39 true,o2 41 (o9 0) 39 true,o2 42 (o9 9) 39 true,o2 43 (oC 2 41 42) 39 true,o2 44 (oB 2 43) 39 true,o2 45 (o9 1) 39 true,o2 46 (.call (.t 40) [.t 44,.t 45]) 39 true,o2 47 (oG false (.t 46) (o5 0)) 39 true,o0 48 (.pick (.t 39) (.t 47) (.c (.bool false))),o4 6 35,o4 7 48]
 oL))))⟩
def UC:AFunc:=⟨9,[.tmp 4],
 oN [o0 2 (.box 2 (.t 0)),o0 4 (oA 0)]
 (oN [o0 5 (o8 2 1),o0 6 (o7 5),o4 7 1,o0 8 (.bin .sub (.t 6) (.t 7)),o4 4 8]
 oL)⟩
def OQ:AFunc:=⟨16,[.tmp 4],
 oN [o0 2 (.box 3 (.t 0)),o0 4 (.mov (.c (.bool false)))]
 (oN [o0 5 (o8 2 2),o0 6 (o7 5),o4 7 1,o0 8 (oG true (.t 7) (.c (.int .i64 (-1)))),o4 9 8,o2 10 (o9 1) 9 true,o2 11 (o8 2 1) 9 true,o2 12 (o7 11) 9 true,o2 13 (.bin .leq (.t 10) (.t 12)) 9 true,o0 14 (.pick (.t 9) (.t 13) (.c (.bool false))),o0 15 (.eql (.one .b) false (.t 6) (.t 14)),o4 4 15]
 oL)⟩
def aH1:AFunc:=⟨40,[.tmp 8,.tmp 9],
 oN [o0 4 (.box 5 (.t 0)),o0 8 (.mov (.c (.nilPtr))),o0 9 (oA 0)]
 (oN [o0 15 (oB 5 4),o0 16 (oK 341 [.t 15]),o4 14 16,o0 17 (oD 14 0),o0 18 (oD 14 1),o0 19 (oD 14 2),o4 10 17,o4 11 18,o4 12 19]
 (.seq (.block 0 (oN [o4 21 12,o0 22 (oG true (.t 21) (o5 0)),o4 20 22]
 (.cond (.t 20) (oN [o4 23 12,o0 8 (.mov (.c (.nilPtr))),o4 9 23]
 oL)
 (oN [o4 25 2,o0 26 (.bin .sub (.t 25) (o5 1)),o4 27 1,o0 28 (.mklit 1 [.t 27]),o0 29 (oK 340 [(o5 0),(.t 26),(.t 28)]),o4 24 29]
 (.cond (.t 24) (oN [o0 8 (.mov (.c (.nilPtr))),o0 9 (oA 4)]
 oL)
 (oN [o4 31 3,o0 32 (oG true (.t 31) (o5 0)),o4 30 32]
 (.cond (.t 30) (oN [o4 33 3,o0 8 (.mov (.c (.nilPtr))),o4 9 33]
 oL)
 .skip)))))))
 (oN [o0 34 (oB 5 4),o0 35 (oK 342 [(.t 34),(o5 0)]),o4 13 35]
 (.seq (oN [o4 36 13,o0 37 (oK 343 [.t 36]),o0 38 (.not (.t 37))]
 (.cond (.t 38) (oN [o0 8 (.mov (.c (.nilPtr))),o0 9 (oA 8)]
 oL)
 .skip))
 (oN [o4 39 13,o4 8 39,o0 9 (oA 0)]
 oL)))))⟩
def aHH:AFunc:=⟨4,[.tmp 2],
 oN [o0 1 (.box 1 (.t 0)),o0 2 (.mov (.c (.nilFunc)))]
 (oN [o0 3 (.mkfun 446 [] [.t 1]),o4 2 3]
 oL)⟩
def aHO:AFunc:=⟨21,[.tmp 6],
 oN [o0 4 (.box 4 (.t 1)),o0 6 (oA 0)]
 (.seq (.dreg [o3 7 (o9 0) 0 0,o3 8 (.nilCheck (.t 7)) 0 0,o3 9 (o8 8 0) 0 0,o3 10 (o8 9 2) 0 0,o3 11 (o7 10) 0 0,o3 12 (o9 2) 0 0,o3 13 (oC 4 11 12) 0 0,o3 14 (o8 13 0) 0 0,o3 15 (o7 14) 0 0,o3 16 (o9 2) 0 0,o3 17 (.iaddr (some 4) 1 (.t 4) (.t 16)) 0 0,o3 18 (o7 17) 0 0,o3 19 (oC 1 15 18) 0 0,o3 20 (o7 19) 0 0,o3 6 (o9 20) 0 0])
 oL)⟩
def aGQ:ACode:=oN [o0 12 (oH 11 10)]
 (.seq (.cond (.t 12) .skip
 (oM 0))
 (.seq (.block 1 (oN [o4 13 11,o4 7 13]
 (oN [o4 14 0,o4 15 7,o0 16 (.bin .shr (.t 14) (.t 15)),o0 17 (.bin .and (.t 16) (o5 1)),o0 18 (oG false (.t 17) (o5 1))]
 (.cond (.t 18) (.reg [o4 19 6,o4 20 5,o4 21 6,o0 22 (.slicev 1 (.t 20) (some (.t 21)) none none),o4 23 7,o0 24 (.mklit 1 [.t 23]),o0 25 (.copy 1 (.t 22) (.t 24)),o0 26 (.bin .add (.t 19) (.t 25)),o4 6 26])
 .skip))))
 (.reg [o0 27 (oI 11 1),o4 11 27])))
def aNA:AFunc:=⟨31,[.tmp 4],
 oN [o0 4 (.mov (.c (.lit [] true none)))]
 (oN [o4 8 1,o0 9 (.mkslice [.int .i64 0] 8 (.t 8) (.t 8)),o4 5 9]
 (oN [o0 6 (oA 0)]
 (.seq (oN [o4 10 1,o0 11 (oA 0)]
 (.block 0 (.loop aGQ)))
 (oN [o4 28 5,o4 29 6,o0 30 (.slicev 1 (.t 28) none (some (.t 29)) none),o4 4 30]
 oL))))⟩
def aD0:ACode:=.block 1 (.seq (.dreg [o3 8 (o7 2) 0 1,o3 9 (o7 1) 0 0,o3 10 (oB 4 4) 0 0,o3 11 (oK 338 [.t 9,.t 10]) 0 1,o3 12 (.bin .and (.t 8) (.t 11)) 1 1,⟨o1 (.store 1 (.t 2) (.t 12)),1,2⟩])
 (.dreg [o3 13 (o7 3) 0 1,o3 14 (o7 1) 0 0,o3 15 (oB 4 4) 0 0,o3 16 (oK 338 [.t 14,.t 15]) 0 1,o3 17 (.bin .or (.t 13) (.t 16)) 1 1,⟨o1 (.store 1 (.t 3) (.t 17)),1,2⟩]))
def aJJ:AFunc:=⟨20,[.cell 2 none,.cell 3 none],
 oN [o0 1 (.box 1 (.t 0)),o0 2 (.alloc [.int .i64 0]),o0 3 (.alloc [.int .i64 0])]
 (oN [o1 (.store 1 (.t 2) (.c (.int .i64 (-1))))]
 (.seq (oN [o0 5 (o7 1),o0 6 (oK 334 [.t 5])]
 (.block 0 (.rangeFunc (.t 6) [7] (.reg [o0 4 (.alloc [.int .i64 0,.int .i64 0,.int .i64 0,.int .i64 0]),o1 (.store 4 (.t 4) (.t 7))])
 (aD0))))
 (.seq (.dreg [o3 18 (o7 2) 0 0,o3 19 (o7 3) 0 1,⟨o1 (.store 1 (.t 2) (.t 18)),0,1⟩,⟨o1 (.store 1 (.t 3) (.t 19)),1,2⟩])
 oL)))⟩
def aG6:ACode:=oN [o0 63 (oH 62 61)]
 (.seq (.cond (.t 63) .skip
 (oM 2))
 (.seq (.block 3 (oN [o4 64 62,o0 65 (oC 3 60 62),o0 66 (oB 3 65),o0 10 (.alloc [.int .i64 0,.int .i64 0,.int .i64 0]),o4 9 64,o1 (.store 3 (.t 10) (.t 66))]
 (oN [o0 67 (o8 8 0),o0 68 (o7 67),o0 69 (o8 8 1),o0 70 (o7 69),o0 71 (o8 10 2),o0 72 (o7 71),o0 73 (.build [.int .i64 0,.int .i64 0,.int .i64 0] [(0,1,(.t 68)),(1,1,(.t 70)),(2,1,(.t 72))]),o0 11 (.alloc [.int .i64 0,.int .i64 0,.int .i64 0]),o1 (.store 3 (.t 11) (.t 73))]
 (oN [o0 74 (oB 3 10),o0 75 (oB 3 11),o0 76 (.eql (.agg [.i,.i,.i]) false (.t 74) (.t 75)),o4 77 76,o2 78 (o8 10 2) 77 true,o2 79 (o7 78) 77 true,o2 80 (o8 8 2) 77 true,o2 81 (o7 80) 77 true,o2 82 (oH 79 81) 77 true,o2 83 (o9 82) 77 true,o2 84 (o8 10 2) 83 false,o2 85 (o7 84) 83 false,o2 86 (o8 8 2) 83 false,o2 87 (o7 86) 83 false,o2 88 (oG false (.t 85) (.t 87)) 83 false,o2 89 (o9 88) 83 false,o2 90 (o9 9) 89 true,o2 91 (o9 7) 89 true,o2 92 (oH 90 91) 89 true,o2 93 (.pick (.t 89) (.t 92) (.c (.bool false))) 83 false,o2 94 (.pick (.t 83) (.c (.bool true)) (.t 93)) 77 true,o0 95 (.pick (.t 77) (.t 94) (.c (.bool false)))]
 (.cond (.t 95) (oM 1)
 .skip)))))
 (.reg [o0 96 (oI 62 1),o4 62 96])))
def aFN:ACode:=oN [o0 30 (oH 29 28)]
 (.seq (.cond (.t 30) .skip
 (oM 0))
 (.seq (.block 1 (oN [o4 31 29,o0 32 (oC 3 27 29),o0 33 (oB 3 32),o0 8 (.alloc [.int .i64 0,.int .i64 0,.int .i64 0]),o4 7 31,o1 (.store 3 (.t 8) (.t 33))]
 (.seq (.seq (.dreg [o3 34 (o9 0) 0 0,o3 35 (oB 4 3) 0 0,o3 36 (o8 8 0) 0 0,o3 37 (o7 36) 0 0,o3 38 (oK 335 [.t 34,.t 35,.t 37]) 0 1,o3 39 (o8 8 1) 0 1,o3 40 (o7 39) 0 1,o3 41 (oG true (.t 38) (.t 40)) 1 1,o3 42 (o9 41) 1 1,⟨o2 43 (o8 8 2) 42 false,1,1⟩,⟨o2 44 (o7 43) 42 false,1,1⟩,⟨o2 45 (o9 0) 42 false,1,1⟩,⟨o2 46 (.nilCheck (.t 45)) 42 false,1,1⟩,⟨o2 47 (o8 46 0) 42 false,1,1⟩,⟨o2 48 (o8 47 1) 42 false,1,1⟩,⟨o2 49 (o7 48) 42 false,1,1⟩,⟨o2 50 (o8 8 1) 42 false,1,1⟩,⟨o2 51 (o7 50) 42 false,1,1⟩,⟨o2 52 (oC 1 49 51) 42 false,1,1⟩,⟨o2 53 (o7 52) 42 false,1,1⟩,⟨o2 54 (.bin .gtr (.t 44) (.t 53)) 42 false,1,1⟩,o3 55 (.pick (.t 42) (.c (.bool true)) (.t 54)) 1 1])
 (.cond (.t 55) (oM 1)
 .skip))
 (.seq (oN [o4 56 0,o0 57 (.nilCheck (.t 56)),o0 58 (o8 57 0),o0 59 (o8 58 4),o0 60 (o7 59),o0 61 (oF 60),o0 62 (oA 0)]
 (.block 2 (.loop aG6)))
 (.reg [o4 97 4,o4 98 7,o0 99 (.bin .shl (o5 1) (.t 98)),o0 100 (.bin .or (.t 97) (.t 99)),o4 4 100])))))
 (.reg [o0 101 (oI 29 1),o4 29 101])))
def aOO:AFunc:=⟨109,[.tmp 4],
 oN [o0 3 (.box 4 (.t 1)),o0 4 (oA 0)]
 (.scope (.seq (.seq (.dreg [o3 13 (o9 0) 0 0,o3 14 (.nilCheck (.t 13)) 0 0,o3 15 (o8 14 6) 0 0,o3 16 (o7 15) 0 0,o3 17 (oB 4 3) 0 0,o3 18 (.lookup (.agg [.i,.i,.i,.i]) true (.int .i64 0) (.t 16) (.t 17)) 0 0,o3 12 (o9 18) 0 0,o3 19 (oD 12 0) 0 0,o3 20 (oD 12 1) 0 0,o3 5 (o9 19) 0 0,o3 6 (o9 20) 0 0])
 (oN [o4 21 6]
 (.cond (.t 21) (oN [o4 22 5,o4 4 22]
 oL)
 .skip)))
 (.seq .skip
 (.seq (oN [o4 23 0,o0 24 (.nilCheck (.t 23)),o0 25 (o8 24 0),o0 26 (o8 25 4),o0 27 (o7 26),o0 28 (oF 27),o0 29 (oA 0)]
 (.block 0 (.loop aFN)))
 (.seq (.dreg [o3 102 (o9 0) 0 0,o3 103 (.nilCheck (.t 102)) 0 0,o3 104 (o8 103 6) 0 0,o3 105 (o7 104) 0 0,o3 106 (oB 4 3) 0 0,o3 107 (o9 4) 0 0,⟨o1 (.mapset (.agg [.i,.i,.i,.i]) (.t 105) (.t 106) (.t 107)),0,1⟩])
 (oN [o4 108 4,o4 4 108]
 oL))))))⟩
def aNC:AFunc:=⟨19,[.tmp 6],
 oN [o0 3 (.box 1 (.t 0)),o0 4 (.box 4 (.t 1)),o0 5 (.box 1 (.t 2)),o0 6 (.mov (.c (.bool false)))]
 (.seq (.dreg [o3 7 (o7 3) 0 0,o3 8 (oB 4 4) 0 0,o3 9 (oK 338 [.t 7,.t 8]) 0 1,o3 10 (o7 3) 0 1,o3 11 (.nilCheck (.t 10)) 0 1,o3 12 (o8 11 0) 0 1,o3 13 (o8 12 4) 0 1,o3 14 (o7 13) 0 1,o3 15 (oF 14) 0 1,o3 16 (oK 336 [.t 9,.t 15]) 1 2,o3 17 (.mkfun 449 [] [.t 3,.t 5]) 0 2,o3 18 (oK 356 [.t 16,.t 17]) 2 3,o3 6 (o9 18) 3 3])
 oL)⟩
def aMW:AFunc:=⟨10,[.tmp 6],
 oN [o0 3 (.box 1 (.t 0)),o0 4 (.box 1 (.t 1)),o0 6 (.mov (.c (.bool false)))]
 (oN [o4 7 2,o0 8 (.mkfun 450 [] [.t 3,.t 4]),o0 9 (oK 356 [.t 7,.t 8]),o4 6 9]
 oL)⟩
def aKC:AFunc:=⟨68,[.tmp 2,.tmp 3,.tmp 4],
 oN [o0 1 (.box 5 (.t 0)),o0 2 (oA 0),o0 3 (oA 0),o0 4 (oA 0)]
 (oN [o0 6 (o8 1 0),o0 7 (o7 6),o0 8 (.mkfun 452 [] [.t 1]),o0 9 (oK 451 [(.t 7),(o5 4),(.t 8)]),o4 5 9,o0 10 (oD 5 0),o0 11 (oD 5 1),o4 3 10,o4 4 11]
 (.seq (.block 0 (oN [o4 13 4,o0 14 (oG true (.t 13) (o5 0)),o4 12 14]
 (.cond (.t 12) (oN [o4 15 3,o4 16 4,o0 2 (oA 1),o4 3 15,o4 4 16]
 oL)
 (oN [o0 18 (o8 1 1),o0 19 (o7 18),o0 20 (oF 19),o0 21 (o8 1 0),o0 22 (o7 21),o0 23 (oF 22),o0 24 (oG true (.t 20) (.t 23)),o4 17 24]
 (.cond (.t 17) (oN [o0 2 (oA 2),o0 3 (oA 0),o0 4 (oA 3)]
 oL)
 .skip)))))
 (oN [o0 26 (o8 1 1),o0 27 (o7 26),o0 28 (oK 454 [(.t 27),(o5 4),(o6 455)]),o4 25 28,o0 29 (oD 25 0),o0 30 (oD 25 1),o4 3 29,o4 4 30]
 (.seq (oN [o4 31 4,o0 32 (oG true (.t 31) (o5 0))]
 (.cond (.t 32) (oN [o4 33 3,o4 34 4,o0 2 (oA 2),o4 3 33,o4 4 34]
 oL)
 .skip))
 (oN [o0 36 (o8 1 2),o0 37 (o7 36),o0 38 (.mkfun 457 [] [.t 1]),o0 39 (oK 456 [(.t 37),(o5 4),(.t 38)]),o4 35 39,o0 40 (oD 35 0),o0 41 (oD 35 1),o4 3 40,o4 4 41]
 (.seq (oN [o4 42 4,o0 43 (oG true (.t 42) (o5 0))]
 (.cond (.t 43) (oN [o4 44 3,o4 45 4,o0 2 (oA 3),o4 3 44,o4 4 45]
 oL)
 .skip))
 (oN [o0 47 (o8 1 3),o0 48 (o7 47),o0 49 (.mkfun 462 [] [.t 1]),o0 50 (oK 461 [(.t 48),(o5 5),(.t 49)]),o4 46 50,o0 51 (oD 46 0),o0 52 (oD 46 1),o4 3 51,o4 4 52]
 (.seq (oN [o4 53 4,o0 54 (oG true (.t 53) (o5 0))]
 (.cond (.t 54) (oN [o4 55 3,o4 56 4,o0 2 (oA 4),o4 3 55,o4 4 56]
 oL)
 .skip))
 (oN [o0 58 (o8 1 4),o0 59 (o7 58),o0 60 (.mkfun 465 [] [.t 1]),o0 61 (oK 464 [(.t 59),(o5 5),(.t 60)]),o4 57 61,o0 62 (oD 57 0),o0 63 (oD 57 1),o4 3 62,o4 4 63]
 (.seq (oN [o4 64 4,o0 65 (oG true (.t 64) (o5 0))]
 (.cond (.t 65) (oN [o4 66 3,o4 67 4,o0 2 (oA 5),o4 3 66,o4 4 67]
 oL)
 .skip))
 (oN [o0 2 (oA 0),o0 3 (oA 0),o0 4 (oA 0)]
 oL)))))))))))⟩
def aJB:AFunc:=⟨10,[.tmp 4],
 oN [o0 2 (.box 5 (.t 0)),o0 4 (.mov (.c (.nilPtr)))]
 (.seq (.reg [o0 5 (oB 5 2),o4 6 1,o0 7 .mkmap,o0 8 (.build [.lit [] true none,.lit [] true none,.lit [] true none,.lit [] true none,.lit [] true none,.int .i64 0,.nilMap] [(0,5,(.t 5)),(5,1,(.t 6)),(6,1,(.t 7))]),o0 9 (.box 7 (.t 8)),o4 4 9])
 oL)⟩
def aCP:ACode:=.block 1 (oN [o1 (.store 1 (.t 2) (.c (.bool true)))]
 oL)
def aI5:AFunc:=⟨6,[.cell 2 none],
 oN [o0 2 (.alloc [.bool false])]
 (.seq (oN [o4 3 0,o0 4 (oK 334 [.t 3])]
 (.block 0 (.rangeFunc (.t 4) [5] .skip
 (aCP))))
 (oN [o1 (.store 1 (.t 2) (.c (.bool false)))]
 oL))⟩
def SI:AFunc:=⟨9,[.tmp 4],
 oN [o0 4 (.mov (.c (.bool false)))]
 (oN [o4 5 0,o4 6 1,o0 7 (oK 257 [.t 5,.t 6]),o0 8 (.bin .geq (.t 7) (o5 0)),o4 4 8]
 oL)⟩
def PH:AFunc:=⟨13,[.tmp 4],
 oN [o0 4 (.mov (.c (.bool false)))]
 (oN [o4 5 0,o0 6 (o7 1),o0 7 (oH 5 6),o4 8 7,o2 9 (o9 0) 8 false,o2 10 (o7 2) 8 false,o2 11 (.bin .gtr (.t 9) (.t 10)) 8 false,o0 12 (.pick (.t 8) (.c (.bool true)) (.t 11)),o4 4 12]
 oL)⟩
def QY:AFunc:=⟨6,[.tmp 2],
 oN [o0 2 (.mov (.c (.bool false)))]
 (oN [o4 3 0,o4 4 0,o0 5 (oG true (.t 3) (.t 4)),o4 2 5]
 oL)⟩
def U8:AFunc:=⟨7,[],
 oN [o0 2 (.box 1 (.t 0))]
 (oN [o0 3 (.alloc [.nilFunc])]
 (oN [o0 4 (.mkfun 411 [] [.t 1,.t 3,.t 2]),o1 (.store 1 (.t 3) (.t 4))]
 (.reg [o0 5 (o7 3),o0 6 (.call (.t 5) [(o5 0),(o5 0)])])))⟩
def H2:ACode:=oN [o0 51 (oH 50 49)]
 (.seq (.cond (.t 51) .skip
 (oM 0))
 (.seq (.block 1 (oN [o4 52 50,o4 9 52]
 (oN [o0 53 (o7 2),o4 54 9,o4 55 1,o0 56 (.build [.int .i64 0,.int .i64 0] [(0,1,(.t 54)),(1,1,(.t 55))]),o0 57 (oK 412 [.t 53,.t 56]),o0 10 (.alloc [.int .i64 0,.int .i64 0,.int .i64 0,.int .i64 0,.int .i64 0,.int .i64 0,.int .i64 0,.int .i64 0,.int .i64 0,.int .i64 0,.int .i64 0,.int .i64 0,.int .i64 0,.int .i64 0,.int .i64 0,.int .i64 0,.int .i64 0,.int .i64 0,.int .i64 0,.int .i64 0,.int .i64 0,.int .i64 0,.int .i64 0,.int .i64 0,.int .i64 0,.int .i64 0]),o1 (.store 26 (.t 10) (.t 57))]
 (.seq (oN [o0 58 (oB 26 10),o0 59 (.build [.int .i64 0,.int .i64 0,.int .i64 0,.int .i64 0,.int .i64 0,.int .i64 0,.int .i64 0,.int .i64 0,.int .i64 0,.int .i64 0,.int .i64 0,.int .i64 0,.int .i64 0,.int .i64 0,.int .i64 0,.int .i64 0,.int .i64 0,.int .i64 0,.int .i64 0,.int .i64 0,.int .i64 0,.int .i64 0,.int .i64 0,.int .i64 0,.int .i64 0,.int .i64 0] []),o0 60 (.eql (.agg [.i,.i,.i,.i,.i,.i,.i,.i,.i,.i,.i,.i,.i,.i,.i,.i,.i,.i,.i,.i,.i,.i,.i,.i,.i,.i]) false (.t 58) (.t 59))]
 (.cond (.t 60) (oN [o0 7 (.mov (.c (.bool true)))]
 oL)
 .skip))
 (.reg [o4 61 8,o0 62 (oB 26 10),o0 63 (.mklit 26 [.t 62]),o0 64 (.append 26 208 (.t 61) (.t 63)),o4 8 64])))))
 (.reg [o0 65 (oI 50 1),o4 50 65])))
def wK:AFunc:=⟨70,[.tmp 7],
 oN [o0 7 (.mov (.c (.bool false)))]
 (.seq (oN [o4 11 0,o0 12 (o7 2),o0 13 (.nilCheck (.t 12)),o0 14 (o8 13 0),o0 15 (o8 14 4),o0 16 (o7 15),o0 17 (oF 16),o0 18 (oH 11 17)]
 (.cond (.t 18) (.seq (oN [o0 19 (o7 2),o0 20 (.nilCheck (.t 19)),o0 21 (o8 20 0),o0 22 (o8 21 4),o0 23 (o7 22),o4 24 0,o0 25 (oC 2 23 24),o0 26 (o8 25 1),o0 27 (o7 26),o0 28 (.not (.t 27)),o4 29 28,o2 30 (o7 3) 29 true,o2 31 (o9 0) 29 true,o2 32 (oI 31 1) 29 true,o2 33 (o9 1) 29 true,o2 34 (.call (.t 30) [.t 32,.t 33]) 29 true,o2 35 (.not (.t 34)) 29 true,o0 36 (.pick (.t 29) (.t 35) (.c (.bool false)))]
 (.cond (.t 36) (oN [o0 7 (.mov (.c (.bool false)))]
 oL)
 .skip))
 (.seq (.dreg [o3 37 (o7 3) 0 0,o3 38 (o9 0) 0 0,o3 39 (oI 38 1) 0 0,o3 40 (o9 1) 0 0,o3 41 (o9 0) 0 0,o3 42 (.bin .shl (o5 1) (.t 41)) 0 0,o3 43 (.bin .or (.t 40) (.t 42)) 0 0,o3 44 (.call (.t 37) [.t 39,.t 43]) 0 1,o3 7 (o9 44) 1 1])
 oL))
 .skip))
 (oN [o0 8 (.mov (.c (.lit [] true none)))]
 (.seq (oN [o0 45 (o7 2),o0 46 (.nilCheck (.t 45)),o0 47 (o8 46 0),o0 48 (o8 47 5),o0 49 (o7 48),o0 50 (oA 0)]
 (.block 0 (.loop H2)))
 (oN [o0 66 (o7 4),o4 67 1,o4 68 8,o0 69 (.call (.t 66) [.t 67,.t 68]),o4 7 69]
 oL))))⟩
def PF:ACode:=.seq (.seq (.dreg [o3 45 (o9 11) 0 0,o3 46 (o9 0) 0 0,o3 47 (.nilCheck (.t 46)) 0 0,o3 48 (o8 47 0) 0 0,o3 49 (o8 48 1) 0 0,o3 50 (o8 49 1) 0 0,o3 51 (o7 50) 0 0,o3 52 (.bin .leq (.t 45) (.t 51)) 0 0,o3 53 (o9 52) 0 0,⟨o2 54 (o8 10 0) 53 true,0,0⟩,⟨o2 55 (o7 54) 53 true,0,0⟩,⟨o2 56 (o9 11) 53 true,0,0⟩,⟨o2 57 (.bin .add (.t 55) (.t 56)) 53 true,0,0⟩,⟨o2 58 (o9 0) 53 true,0,0⟩,⟨o2 59 (.nilCheck (.t 58)) 53 true,0,0⟩,⟨o2 60 (o8 59 0) 53 true,0,0⟩,⟨o2 61 (o8 60 0) 53 true,0,0⟩,⟨o2 62 (o7 61) 53 true,0,0⟩,⟨o2 63 (.bin .leq (.t 57) (.t 62)) 53 true,0,0⟩,o3 64 (.pick (.t 53) (.t 63) (.c (.bool false))) 0 0])
 (.cond (.t 64) .skip
 (oM 2)))
 (.seq (.block 3 (.dreg [o3 67 (o8 10 0) 0 0,o3 68 (o7 67) 0 0,o3 69 (o9 11) 0 0,o3 70 (.bin .add (.t 68) (.t 69)) 0 0,o3 71 (.iaddr (some 26) 1 (.t 7) (.t 70)) 0 0,o3 72 (o7 71) 0 0,o3 73 (o8 3 1) 0 0,o3 74 (o7 73) 0 0,o3 75 (o9 9) 0 0,o3 76 (.bin .shl (o5 1) (.t 75)) 0 0,o3 77 (.bin .and (.t 74) (.t 76)) 0 0,o3 78 (.bin .or (.t 72) (.t 77)) 0 0,o3 79 (.iaddr (some 26) 1 (.t 7) (.t 70)) 0 0,⟨o1 (.store 1 (.t 79) (.t 78)),0,1⟩]))
 (.reg [o4 65 11,o0 66 (oI 65 1),o4 11 66]))
def R4:ACode:=oN [o0 35 (oH 34 33)]
 (.seq (.cond (.t 35) .skip
 (oM 0))
 (.seq (.block 1 (oN [o4 36 34,o0 37 (oC 2 32 34),o0 38 (oB 2 37),o0 10 (.alloc [.int .i64 0,.bool false]),o4 9 36,o1 (.store 2 (.t 10) (.t 38))]
 (oN [o4 39 0,o0 40 (.nilCheck (.t 39)),o0 41 (o8 40 0),o0 42 (o8 41 1),o0 43 (o8 42 0),o0 44 (o7 43),o4 11 44]
 (.block 2 (.loop PF)))))
 (.reg [o0 80 (oI 34 1),o4 34 80])))
def PJ:ACode:=oN [o0 95 (oH 94 93)]
 (.seq (.cond (.t 95) .skip
 (oM 6))
 (.seq (.block 7 (oN [o4 96 94,o0 97 (oC 3 92 94),o0 98 (oB 3 97),o0 14 (.alloc [.int .i64 0,.int .i64 0,.bool false]),o4 13 96,o1 (.store 3 (.t 14) (.t 98))]
 (oN [o0 99 (o8 14 0),o0 100 (o7 99),o0 101 (o8 3 0),o0 102 (o7 101),o0 103 (oG false (.t 100) (.t 102)),o4 104 103,o2 105 (o9 0) 104 true,o2 106 (.nilCheck (.t 105)) 104 true,o2 107 (o8 106 7) 104 true,o2 108 (o7 107) 104 true,o2 109 (o9 13) 104 true,o2 110 (.bin .shr (.t 108) (.t 109)) 104 true,o2 111 (.bin .and (.t 110) (o5 1)) 104 true,o2 112 (oG false (.t 111) (o5 0)) 104 true,o0 113 (.pick (.t 104) (.t 112) (.c (.bool false))),o4 114 113,o2 115 (o8 14 2) 114 true,o2 116 (o7 115) 114 true,o2 117 (o9 12) 114 true,o2 118 (o8 14 1) 114 true,o2 119 (o7 118) 114 true,o2 120 (.bin .leq (.t 117) (.t 119)) 114 true,o2 121 (.eql (.one .b) true (.t 116) (.t 120)) 114 true,o0 122 (.pick (.t 114) (.t 121) (.c (.bool false)))]
 (.cond (.t 122) (oN [o4 123 12,o0 124 (.iaddr (some 26) 1 (.t 7) (.t 123)),o1 (.store 1 (.t 124) (o5 0))]
 (oM 5))
 .skip))))
 (.reg [o0 125 (oI 94 1),o4 94 125])))
def P3:ACode:=oN [o0 82 (.bin .lss (.t 81) (o5 26))]
 (.seq (.cond (.t 82) .skip
 (oM 4))
 (.seq (.block 5 (oN [o4 83 81,o4 12 83]
 (.seq (oN [o4 84 12,o0 85 (.iaddr (some 26) 1 (.t 7) (.t 84)),o0 86 (o7 85),o0 87 (oG false (.t 86) (o5 0))]
 (.cond (.t 87) (oM 5)
 .skip))
 (oN [o4 88 0,o0 89 (.nilCheck (.t 88)),o0 90 (o8 89 0),o0 91 (o8 90 6),o0 92 (o7 91),o0 93 (oF 92),o0 94 (oA 0)]
 (.block 6 (.loop PJ))))))
 (.reg [o0 126 (oI 81 1),o4 81 126])))
def SN:AFunc:=⟨134,[.cell 4 (some 26)],
 oN [o0 3 (.box 2 (.t 1)),o0 4 (.alloc [.int .i64 0,.int .i64 0,.int .i64 0,.int .i64 0,.int .i64 0,.int .i64 0,.int .i64 0,.int .i64 0,.int .i64 0,.int .i64 0,.int .i64 0,.int .i64 0,.int .i64 0,.int .i64 0,.int .i64 0,.int .i64 0,.int .i64 0,.int .i64 0,.int .i64 0,.int .i64 0,.int .i64 0,.int .i64 0,.int .i64 0,.int .i64 0,.int .i64 0,.int .i64 0])]
 (.scope (.seq (.seq (.dreg [o3 16 (o9 0) 0 0,o3 17 (.nilCheck (.t 16)) 0 0,o3 18 (o8 17 8) 0 0,o3 19 (o7 18) 0 0,o3 20 (oB 2 3) 0 0,o3 21 (.lookup (.agg [.i,.i]) true (.agg [.int .i64 0,.int .i64 0,.int .i64 0,.int .i64 0,.int .i64 0,.int .i64 0,.int .i64 0,.int .i64 0,.int .i64 0,.int .i64 0,.int .i64 0,.int .i64 0,.int .i64 0,.int .i64 0,.int .i64 0,.int .i64 0,.int .i64 0,.int .i64 0,.int .i64 0,.int .i64 0,.int .i64 0,.int .i64 0,.int .i64 0,.int .i64 0,.int .i64 0,.int .i64 0]) (.t 19) (.t 20)) 0 0,o3 15 (o9 21) 0 0,o3 22 (oD 15 0) 0 0,o3 23 (oD 15 1) 0 1,o3 5 (.alloc [.int .i64 0,.int .i64 0,.int .i64 0,.int .i64 0,.int .i64 0,.int .i64 0,.int .i64 0,.int .i64 0,.int .i64 0,.int .i64 0,.int .i64 0,.int .i64 0,.int .i64 0,.int .i64 0,.int .i64 0,.int .i64 0,.int .i64 0,.int .i64 0,.int .i64 0,.int .i64 0,.int .i64 0,.int .i64 0,.int .i64 0,.int .i64 0,.int .i64 0,.int .i64 0]) 0 0,⟨o1 (.store 26 (.t 5) (.t 22)),0,1⟩,o3 6 (o9 23) 1 1])
 (oN [o4 24 6]
 (.cond (.t 24) (oN [o0 25 (oB 26 5),o1 (.store 26 (.t 4) (.t 25))]
 oL)
 .skip)))
 (oN [o0 7 (.alloc [.int .i64 0,.int .i64 0,.int .i64 0,.int .i64 0,.int .i64 0,.int .i64 0,.int .i64 0,.int .i64 0,.int .i64 0,.int .i64 0,.int .i64 0,.int .i64 0,.int .i64 0,.int .i64 0,.int .i64 0,.int .i64 0,.int .i64 0,.int .i64 0,.int .i64 0,.int .i64 0,.int .i64 0,.int .i64 0,.int .i64 0,.int .i64 0,.int .i64 0,.int .i64 0])]
 (oN [o0 8 (oA 25)]
 (oN [o4 26 8,o0 27 (.iaddr (some 26) 1 (.t 7) (.t 26)),o1 (.store 1 (.t 27) (o5 16))]
 (.seq (oN [o4 28 0,o0 29 (.nilCheck (.t 28)),o0 30 (o8 29 0),o0 31 (o8 30 4),o0 32 (o7 31),o0 33 (oF 32),o0 34 (oA 0)]
 (.block 0 (.loop R4)))
 (.seq .skip
 (.seq (oN [o0 81 (oA 0)]
 (.block 4 (.loop P3)))
 (.seq (.dreg [o3 127 (o9 0) 0 0,o3 128 (.nilCheck (.t 127)) 0 0,o3 129 (o8 128 8) 0 0,o3 130 (o7 129) 0 0,o3 131 (oB 2 3) 0 0,o3 132 (oB 26 7) 0 0,⟨o1 (.mapset (.agg [.i,.i]) (.t 130) (.t 131) (.t 132)),0,1⟩])
 (oN [o0 133 (oB 26 7),o1 (.store 26 (.t 4) (.t 133))]
 oL))))))))))⟩
def V4:AFunc:=⟨13,[.tmp 4],
 oN [o0 4 (.mov (.c (.bool false)))]
 (oN [o4 5 0,o0 6 (o7 1),o0 7 (oH 5 6),o4 8 7,o2 9 (o9 0) 8 false,o2 10 (o7 2) 8 false,o2 11 (.bin .gtr (.t 9) (.t 10)) 8 false,o0 12 (.pick (.t 8) (.c (.bool true)) (.t 11)),o4 4 12]
 oL)⟩
def RJ:ACode:=oN [o0 9 (oH 8 7)]
 (.seq (.cond (.t 9) .skip
 (oM 0))
 (.seq (.block 1 (oN [o4 10 8,o4 5 10]
 (oN [o4 11 1,o4 12 0,o4 13 5,o0 14 (oC 2 12 13),o0 15 (oB 2 14),o0 16 (.call (.t 11) [.t 15])]
 (.cond (.t 16) (oN [o4 17 5,o4 4 17]
 oL)
 .skip))))
 (.reg [o0 18 (oI 8 1),o4 8 18])))
def PL:AFunc:=⟨19,[.tmp 4],
 oN [o0 4 (oA 0)]
 (.seq (oN [o4 6 0,o0 7 (oF 6),o0 8 (oA 0)]
 (.block 0 (.loop RJ)))
 (oN [o0 4 (.mov (.c (.int .i64 (-1))))]
 oL))⟩
def aMF:AFunc:=⟨13,[],
 oN [o0 2 (.box 1 (.t 0))]
 (oN [o0 7 (o7 1),o0 8 (.mkfun 447 [.t 7] []),o0 3 (.alloc [.nilFunc]),o1 (.store 1 (.t 3) (.t 8))]
 (oN [o0 4 (.alloc [.int .i64 0,.int .i64 0,.int .i64 0,.int .i64 0]),o0 5 (.alloc [.int .i64 0,.int .i64 0,.int .i64 0,.int .i64 0])]
 (oN [o0 9 (.iaddr (some 4) 1 (.t 5) (o5 0)),o1 (.store 1 (.t 9) (.c (.int .i64 (-1))))]
 (oN [o0 6 (.alloc [.nilFunc])]
 (oN [o0 10 (.mkfun 448 [] [.t 1,.t 4,.t 5,.t 3,.t 2,.t 6]),o1 (.store 1 (.t 6) (.t 10))]
 (.reg [o0 11 (o7 6),o0 12 (.call (.t 11) [(o5 0)])]))))))⟩
def aDQ:ACode:=oN [o0 18 (oH 17 16)]
 (.seq (.cond (.t 18) .skip
 (oM 0))
 (.seq (.block 1 (oN [o4 19 17,o0 20 (oC 3 15 17),o0 21 (oB 3 20),o0 7 (.alloc [.int .i64 0,.int .i64 0,.int .i64 0]),o4 6 19,o1 (.store 3 (.t 7) (.t 21))]
 (.seq (oN [o4 22 0,o0 23 (.nilCheck (.t 22)),o0 24 (o8 23 5),o0 25 (o7 24),o4 26 6,o0 27 (.bin .shr (.t 25) (.t 26)),o0 28 (.bin .and (.t 27) (o5 1)),o0 29 (oG false (.t 28) (o5 1))]
 (.cond (.t 29) (oM 1)
 .skip))
 (.seq (.dreg [o3 30 (o8 7 1) 0 1,o3 31 (o7 30) 0 1,o3 32 (.iaddr (some 4) 1 (.t 3) (.t 31)) 0 1,o3 33 (o7 32) 0 1,o3 34 (o9 0) 0 0,o3 35 (.nilCheck (.t 34)) 0 0,o3 36 (o8 35 0) 0 0,o3 37 (o8 36 2) 0 0,o3 38 (o7 37) 0 0,o3 39 (o8 7 1) 0 0,o3 40 (o7 39) 0 0,o3 41 (oC 4 38 40) 0 0,o3 42 (o8 41 0) 0 0,o3 43 (o7 42) 0 0,o3 44 (o8 7 2) 0 0,o3 45 (o7 44) 0 0,o3 46 (oK 491 [.t 43,.t 45]) 0 1,o3 8 (o9 33) 1 1,o3 9 (o9 46) 1 1])
 (.seq (oN [o0 47 (o8 7 0),o0 48 (o7 47),o0 49 (.bin .geq (.t 48) (o5 2))]
 (.cond (.t 49) (.dreg [o3 50 (o9 0) 0 0,o3 51 (oB 4 3) 0 0,o3 52 (o8 7 1) 0 0,o3 53 (o7 52) 0 0,o3 54 (oK 335 [.t 50,.t 51,.t 53]) 0 1,o3 55 (o9 0) 0 1,o3 56 (oB 4 3) 0 1,o3 57 (o8 7 2) 0 1,o3 58 (o7 57) 0 1,o3 59 (oK 335 [.t 55,.t 56,.t 58]) 1 2,o3 8 (o9 54) 2 2,o3 9 (o9 59) 2 2])
 .skip))
 (oN [o0 60 (o8 7 0),o0 61 (o7 60),o0 62 (.iaddr (some 4) 1 (.t 5) (.t 61)),o0 63 (o8 62 0),o0 64 (o7 63),o4 65 8,o4 66 9,o0 67 (.call (.t 64) [.t 65,.t 66]),o0 68 (.not (.t 67))]
 (.cond (.t 68) (oN [o0 4 (.mov (.c (.bool false)))]
 oL)
 .skip)))))))
 (.reg [o0 69 (oI 17 1),o4 17 69])))
def aMG:AFunc:=⟨70,[.tmp 4],
 oN [o0 3 (.box 4 (.t 1)),o0 4 (.mov (.c (.bool false)))]
 (oN [o0 10 (oK 490 []),o0 5 (.alloc [.nilFunc,.nilFunc,.nilFunc,.nilFunc]),o1 (.store 4 (.t 5) (.t 10))]
 (.seq (oN [o4 11 0,o0 12 (.nilCheck (.t 11)),o0 13 (o8 12 0),o0 14 (o8 13 3),o0 15 (o7 14),o0 16 (oF 15),o0 17 (oA 0)]
 (.block 0 (.loop aDQ)))
 (oN [o0 4 (.mov (.c (.bool true)))]
 oL)))⟩
def aFR:ACode:=.seq (oN [o4 43 10,o0 44 (o8 9 1),o0 45 (o7 44),o0 46 (.bin .leq (.t 43) (.t 45))]
 (.cond (.t 46) .skip
 (oM 0)))
 (.seq (.block 1 (oN [o4 49 0,o4 50 10,o0 51 (.iaddr (some 4) 1 (.t 2) (.t 49)),o1 (.store 1 (.t 51) (.t 50))]
 (oN [o0 52 (o7 6),o4 53 0,o0 54 (oI 53 1),o0 55 (.call (.t 52) [.t 54]),o0 56 (.not (.t 55))]
 (.cond (.t 56) (oN [o0 8 (.mov (.c (.bool false)))]
 oL)
 .skip))))
 (.reg [o4 47 10,o0 48 (oI 47 1),o4 10 48]))
def aH5:AFunc:=⟨57,[.tmp 8],
 oN [o0 8 (.mov (.c (.bool false)))]
 (.seq (oN [o4 11 0,o0 12 (o7 1),o0 13 (.nilCheck (.t 12)),o0 14 (o8 13 0),o0 15 (o8 14 2),o0 16 (o7 15),o0 17 (oF 16),o0 18 (oG false (.t 11) (.t 17))]
 (.cond (.t 18) (.seq (oN [o0 19 (oB 4 2),o0 20 (oB 4 3),o0 21 (.eql (.agg [.i,.i,.i,.i]) false (.t 19) (.t 20)),o4 22 21,o2 23 (o7 4) 22 false,o2 24 (oB 4 2) 22 false,o2 25 (.call (.t 23) [.t 24]) 22 false,o2 26 (.not (.t 25)) 22 false,o0 27 (.pick (.t 22) (.c (.bool true)) (.t 26))]
 (.cond (.t 27) (oN [o0 8 (.mov (.c (.bool true)))]
 oL)
 .skip))
 (oN [o0 28 (oB 4 2),o1 (.store 4 (.t 3) (.t 28))]
 (oN [o0 29 (o7 5),o0 30 (oB 4 2),o0 31 (.call (.t 29) [.t 30]),o4 8 31]
 oL)))
 .skip))
 (oN [o0 32 (o7 1),o0 33 (.nilCheck (.t 32)),o0 34 (o8 33 0),o0 35 (o8 34 2),o0 36 (o7 35),o4 37 0,o0 38 (oC 4 36 37),o0 39 (o8 38 1),o0 40 (oB 2 39),o0 9 (.alloc [.int .i64 0,.int .i64 0]),o1 (.store 2 (.t 9) (.t 40))]
 (.seq (oN [o0 41 (o8 9 0),o0 42 (o7 41),o4 10 42]
 (.block 0 (.loop aFR)))
 (oN [o0 8 (.mov (.c (.bool true)))]
 oL))))⟩
def aJ4:AFunc:=⟨16,[.tmp 4],
 oN [o0 4 (.mov (.c (.bool false)))]
 (.seq (.dreg [o3 5 (o7 1) 0 0,o3 6 (.nilCheck (.t 5)) 0 0,o3 7 (o8 6 0) 0 0,o3 8 (o8 7 4) 0 0,o3 9 (o7 8) 0 0,o3 10 (o9 0) 0 0,o3 11 (oC 3 9 10) 0 0,o3 12 (o8 11 0) 0 0,o3 13 (o7 12) 0 0,o3 14 (o7 2) 0 0,o3 15 (oG false (.t 13) (.t 14)) 0 0,o3 4 (o9 15) 0 0])
 oL)⟩
def aJZ:AFunc:=⟨13,[.tmp 4],
 oN [o0 4 (.mov (.c (.bool false)))]
 (oN [o4 5 0,o0 6 (o7 1),o0 7 (oH 5 6),o4 8 7,o2 9 (o9 0) 8 false,o2 10 (o7 2) 8 false,o2 11 (.bin .gtr (.t 9) (.t 10)) 8 false,o0 12 (.pick (.t 8) (.c (.bool true)) (.t 11)),o4 4 12]
 oL)⟩
def aD3:ACode:=oN [o0 18 (oH 17 16)]
 (.seq (.cond (.t 18) .skip
 (oM 0))
 (.seq (.block 1 (oN [o4 19 17,o0 20 (oC 1 15 17),o0 21 (o7 20),o4 8 19,o4 9 21]
 (oN [o4 22 2,o4 23 8,o4 24 9,o0 25 (.call (.t 22) [.t 23,.t 24]),o4 10 25]
 (oN [o4 26 10,o0 27 (oG true (.t 26) (o5 0))]
 (.cond (.t 27) (oN [o4 28 8,o4 29 10,o4 6 28,o4 7 29]
 oL)
 .skip)))))
 (.reg [o0 30 (oI 17 1),o4 17 30])))
def aMU:AFunc:=⟨31,[.tmp 6,.tmp 7],
 oN [o0 6 (oA 0),o0 7 (oA 0)]
 (.seq (oN [o4 11 0,o0 12 (oF 11),o4 13 1,o0 14 (.bin .gtr (.t 12) (.t 13))]
 (.cond (.t 14) (oN [o0 6 (oA 0),o0 7 (oA 3)]
 oL)
 .skip))
 (.seq (oN [o4 15 0,o0 16 (oF 15),o0 17 (oA 0)]
 (.block 0 (.loop aD3)))
 (oN [o0 6 (oA 0),o0 7 (oA 0)]
 oL)))⟩
def aLK:AFunc:=⟨17,[.tmp 5],
 oN [o0 5 (oA 0)]
 (.seq (.block 0 (oN [o4 7 1,o0 8 (oK 111 [.t 7]),o0 9 (.not (.t 8)),o4 6 9]
 (.cond (.t 6) (oN [o0 5 (oA 6)]
 oL)
 (oN [o0 11 (o8 2 0),o0 12 (o7 11),o4 13 0,o0 14 (.slicev 1 (.t 12) none (some (.t 13)) none),o4 15 1,o0 16 (oK 453 [.t 14,.t 15]),o4 10 16]
 (.cond (.t 10) (oN [o0 5 (oA 5)]
 oL)
 .skip)))))
 (oN [o0 5 (oA 0)]
 oL))⟩
def aJ7:AFunc:=⟨9,[.tmp 4],
 oN [o0 4 (.mov (.c (.bool false)))]
 (oN [o4 5 0,o4 6 1,o0 7 (oK 492 [.t 5,.t 6]),o0 8 (.bin .geq (.t 7) (o5 0)),o4 4 8]
 oL)⟩
def aEL:ACode:=oN [o0 18 (oH 17 16)]
 (.seq (.cond (.t 18) .skip
 (oM 0))
 (.seq (.block 1 (oN [o4 19 17,o0 20 (oC 1 15 17),o0 21 (o7 20),o4 8 19,o4 9 21]
 (oN [o4 22 2,o4 23 8,o4 24 9,o0 25 (.call (.t 22) [.t 23,.t 24]),o4 10 25]
 (oN [o4 26 10,o0 27 (oG true (.t 26) (o5 0))]
 (.cond (.t 27) (oN [o4 28 8,o4 29 10,o4 6 28,o4 7 29]
 oL)
 .skip)))))
 (.reg [o0 30 (oI 17 1),o4 17 30])))
def aLX:AFunc:=⟨31,[.tmp 6,.tmp 7],
 oN [o0 6 (oA 0),o0 7 (oA 0)]
 (.seq (oN [o4 11 0,o0 12 (oF 11),o4 13 1,o0 14 (.bin .gtr (.t 12) (.t 13))]
 (.cond (.t 14) (oN [o0 6 (oA 0),o0 7 (oA 3)]
 oL)
 .skip))
 (.seq (oN [o4 15 0,o0 16 (oF 15),o0 17 (oA 0)]
 (.block 0 (.loop aEL)))
 (oN [o0 6 (oA 0),o0 7 (oA 0)]
 oL)))⟩
def aN6:AFunc:=⟨8,[.tmp 4],
 oN [o0 4 (oA 0)]
 (.seq (oN [o4 5 1,o0 6 (.mklit 1 [.t 5]),o0 7 (oK 340 [(o5 0),(o5 60),(.t 6)])]
 (.cond (.t 7) (oN [o0 4 (oA 7)]
 oL)
 .skip))
 (oN [o0 4 (oA 0)]
 oL))⟩
def aDJ:ACode:=oN [o0 18 (oH 17 16)]
 (.seq (.cond (.t 18) .skip
 (oM 0))
 (.seq (.block 1 (.seq (.reg [o4 19 17,o0 20 (oC 4 15 17),o0 21 (oB 4 20),o0 9 (.alloc [.lit [] true none,.int .i64 0,.int .i64 0,.int .i64 0]),o4 8 19,o1 (.store 4 (.t 9) (.t 21))])
 (oN [o4 22 2,o4 23 8,o0 24 (oB 4 9),o0 25 (.call (.t 22) [.t 23,.t 24]),o4 10 25]
 (oN [o4 26 10,o0 27 (oG true (.t 26) (o5 0))]
 (.cond (.t 27) (oN [o4 28 8,o4 29 10,o4 6 28,o4 7 29]
 oL)
 .skip)))))
 (.reg [o0 30 (oI 17 1),o4 17 30])))
def aIL:AFunc:=⟨31,[.tmp 6,.tmp 7],
 oN [o0 6 (oA 0),o0 7 (oA 0)]
 (.seq (oN [o4 11 0,o0 12 (oF 11),o4 13 1,o0 14 (.bin .gtr (.t 12) (.t 13))]
 (.cond (.t 14) (oN [o0 6 (oA 0),o0 7 (oA 3)]
 oL)
 .skip))
 (.seq (oN [o4 15 0,o0 16 (oF 15),o0 17 (oA 0)]
 (.block 0 (.loop aDJ)))
 (oN [o0 6 (oA 0),o0 7 (oA 0)]
 oL)))⟩
def aOD:AFunc:=⟨58,[.tmp 5],
 oN [o0 4 (.box 4 (.t 1)),o0 5 (oA 0)]
 (.seq (oN [o0 7 (o8 4 0),o0 8 (o7 7),o0 9 (oK 459 [.t 8]),o0 10 (oK 458 [.t 9]),o4 6 10]
 (.block 0 (oN [o4 12 6,o0 13 (oF 12),o0 14 (.mklit 1 [.t 13]),o0 15 (oK 340 [(o5 1),(o5 4),(.t 14)]),o4 11 15]
 (.cond (.t 11) (oN [o0 5 (oA 3)]
 oL)
 (oN [o0 17 (o8 2 0),o0 18 (o7 17),o0 19 (oF 18),o0 20 (.bin .sub (.t 19) (o5 1)),o4 21 6,o0 22 (oK 340 [(o5 0),(.t 20),(.t 21)]),o4 16 22]
 (.cond (.t 16) (oN [o0 5 (oA 4)]
 oL)
 (.seq (.dreg [o3 24 (o9 6) 0 0,o3 25 (oK 460 [.t 24]) 0 1,o3 26 (oF 25) 1 1,o3 27 (o8 4 0) 0 1,o3 28 (o7 27) 0 1,o3 29 (oF 28) 0 1,o3 30 (oH 26 29) 1 1,o3 23 (o9 30) 1 1])
 (.cond (.t 23) (oN [o0 5 (oA 5)]
 oL)
 (oN [o0 32 (o8 4 0),o0 33 (o7 32),o0 34 (oF 33),o0 35 (.bin .sub (.t 34) (o5 1)),o0 36 (o8 4 1),o0 37 (o8 36 0),o0 38 (o7 37),o0 39 (o8 4 1),o0 40 (o8 39 1),o0 41 (o7 40),o0 42 (.mklit 1 [.t 38,.t 41]),o0 43 (oK 340 [(o5 0),(.t 35),(.t 42)]),o4 44 43,o2 45 (o8 4 3) 44 false,o2 46 (o7 45) 44 false,o2 47 (.mklit 1 [.t 46]) 44 false,o2 48 (oK 340 [(o5 1),(o5 99),(.t 47)]) 44 false,o0 49 (.pick (.t 44) (.c (.bool true)) (.t 48)),o4 31 49]
 (.cond (.t 31) (oN [o0 5 (oA 7)]
 oL)
 (oN [o0 51 (o8 4 1),o0 52 (o8 51 0),o0 53 (o7 52),o0 54 (o8 4 1),o0 55 (o8 54 1),o0 56 (o7 55),o0 57 (.bin .gtr (.t 53) (.t 56)),o4 50 57]
 (.cond (.t 50) (oN [o0 5 (oA 2)]
 oL)
 .skip))))))))))))
 (oN [o0 5 (oA 0)]
 oL))⟩
def aJY:AFunc:=⟨9,[.tmp 2],
 oN [o0 2 (.mov (.c (.lit [] true none)))]
 (oN [o4 4 0,o0 5 (oK 493 [.t 4]),o4 3 5]
 (oN [o4 6 3,o0 7 (oK 494 [.t 6])]
 (oN [o4 8 3,o4 2 8]
 oL)))⟩
def aJM:AFunc:=⟨4,[.tmp 2],
 oN [o0 1 (.box 1 (.t 0)),o0 2 (.mov (.c (.nilFunc)))]
 (oN [o0 3 (.mkfun 495 [] [.t 1]),o4 2 3]
 oL)⟩
def aGA:ACode:=.seq (oN [o4 29 5,o4 30 4,o0 31 (oF 30),o0 32 (oH 29 31)]
 (.cond (.t 32) .skip
 (oM 2)))
 (.seq (.block 3 (.seq (.dreg [o3 35 (o9 4) 0 0,o3 36 (o9 5) 0 0,o3 37 (oC 1 35 36) 0 0,o3 38 (o7 37) 0 0,o3 39 (o9 4) 0 0,o3 40 (o9 5) 0 0,o3 41 (.bin .sub (.t 40) (o5 1)) 0 0,o3 42 (oC 1 39 41) 0 0,o3 43 (o7 42) 0 0,o3 44 (oG true (.t 38) (.t 43)) 0 0])
 (.cond (.t 44) (oN [o4 45 0,o4 46 3,o4 47 4,o4 48 5,o0 49 (oC 1 47 48),o0 50 (o7 49),o0 51 (oC 1 45 46),o1 (.store 1 (.t 51) (.t 50))]
 (.reg [o4 52 3,o0 53 (oI 52 1),o4 3 53]))
 .skip)))
 (.reg [o4 33 5,o0 34 (oI 33 1),o4 5 34]))
def aEF:ACode:=.seq (oN [o4 10 3,o4 11 0,o0 12 (oF 11),o0 13 (oH 10 12)]
 (.cond (.t 13) .skip
 (oM 0)))
 (.seq (.block 1 (.seq (.dreg [o3 16 (o9 0) 0 0,o3 17 (o9 3) 0 0,o3 18 (oC 1 16 17) 0 0,o3 19 (o7 18) 0 0,o3 20 (o9 0) 0 0,o3 21 (o9 3) 0 0,o3 22 (.bin .sub (.t 21) (o5 1)) 0 0,o3 23 (oC 1 20 22) 0 0,o3 24 (o7 23) 0 0,o3 25 (oG false (.t 19) (.t 24)) 0 0])
 (.cond (.t 25) (oN [o4 26 0,o4 27 3,o0 28 (.slicev 1 (.t 26) (some (.t 27)) none none),o4 4 28]
 (.seq (oN [o0 5 (oA 1)]
 (.block 2 (.loop aGA)))
 (oN [o4 54 0,o4 55 3,o0 56 (.slicev 1 (.t 54) (some (.t 55)) none none),o1 (.nilCheck (.c (.undef)))]
 (oN [o4 57 0,o4 58 3,o0 59 (.slicev 1 (.t 57) none (some (.t 58)) none),o4 2 59]
 oL))))
 .skip)))
 (.reg [o4 14 3,o0 15 (oI 14 1),o4 3 15]))
def aNX:AFunc:=⟨61,[.tmp 2],
 oN [o0 2 (.mov (.c (.lit [] true none)))]
 (.seq (oN [o4 6 0,o0 7 (oF 6),o0 8 (.bin .lss (.t 7) (o5 2))]
 (.cond (.t 8) (oN [o4 9 0,o4 2 9]
 oL)
 .skip))
 (.seq (oN [o0 3 (oA 1)]
 (.block 0 (.loop aEF)))
 (oN [o4 60 0,o4 2 60]
 oL)))⟩
def aF0:ACode:=oN [o0 18 (oH 17 16)]
 (.seq (.cond (.t 18) .skip
 (oM 0))
 (.seq (.block 1 (oN [o4 19 17,o0 20 (oC 3 15 17),o0 21 (oB 3 20),o0 9 (.alloc [.int .i64 0,.int .i64 0,.int .i64 0]),o4 8 19,o1 (.store 3 (.t 9) (.t 21))]
 (oN [o4 22 2,o4 23 8,o0 24 (oB 3 9),o0 25 (.call (.t 22) [.t 23,.t 24]),o4 10 25]
 (oN [o4 26 10,o0 27 (oG true (.t 26) (o5 0))]
 (.cond (.t 27) (oN [o4 28 8,o4 29 10,o4 6 28,o4 7 29]
 oL)
 .skip)))))
 (.reg [o0 30 (oI 17 1),o4 17 30])))
def aNZ:AFunc:=⟨31,[.tmp 6,.tmp 7],
 oN [o0 6 (oA 0),o0 7 (oA 0)]
 (.seq (oN [o4 11 0,o0 12 (oF 11),o4 13 1,o0 14 (.bin .gtr (.t 12) (.t 13))]
 (.cond (.t 14) (oN [o0 6 (oA 0),o0 7 (oA 3)]
 oL)
 .skip))
 (.seq (oN [o4 15 0,o0 16 (oF 15),o0 17 (oA 0)]
 (.block 0 (.loop aF0)))
 (oN [o0 6 (oA 0),o0 7 (oA 0)]
 oL)))⟩
def aLC:AFunc:=⟨63,[.tmp 5],
 oN [o0 4 (.box 3 (.t 1)),o0 5 (oA 0)]
 (.seq (.block 0 (oN [o0 7 (o8 4 0),o0 8 (o7 7),o0 9 (.mklit 1 [.t 8]),o0 10 (oK 340 [(o5 0),(o5 3),(.t 9)]),o4 6 10]
 (.cond (.t 6) (oN [o0 5 (oA 7)]
 oL)
 (oN [o0 12 (o8 2 2),o0 13 (o7 12),o0 14 (oF 13),o0 15 (.bin .sub (.t 14) (o5 1)),o0 16 (o8 4 1),o0 17 (o7 16),o0 18 (.mklit 1 [.t 17]),o0 19 (oK 340 [(o5 0),(.t 15),(.t 18)]),o4 11 19]
 (.cond (.t 11) (oN [o0 5 (oA 4)]
 oL)
 (.seq (.dreg [o3 21 (o8 4 0) 0 0,o3 22 (o7 21) 0 0,o3 23 (.bin .lss (.t 22) (o5 2)) 0 0,o3 24 (o9 23) 0 0,⟨o2 25 (o8 2 2) 24 true,0,0⟩,⟨o2 26 (o7 25) 24 true,0,0⟩,⟨o2 27 (o8 4 1) 24 true,0,0⟩,⟨o2 28 (o7 27) 24 true,0,0⟩,⟨o2 29 (oC 4 26 28) 24 true,0,0⟩,⟨o2 30 (o8 29 0) 24 true,0,0⟩,⟨o2 31 (o7 30) 24 true,0,0⟩,⟨o2 32 (o8 4 2) 24 true,0,0⟩,⟨o2 33 (o7 32) 24 true,0,0⟩,⟨o2 34 (oK 463 [.t 31,.t 33]) 24 true,0,1⟩,⟨o2 35 (.not (.t 34)) 24 true,1,1⟩,o3 36 (.pick (.t 24) (.t 35) (.c (.bool false))) 1 1,o3 37 (o9 36) 1 1,⟨o2 38 (o8 4 0) 37 false,1,1⟩,⟨o2 39 (o7 38) 37 false,1,1⟩,⟨o2 40 (.bin .geq (.t 39) (o5 2)) 37 false,1,1⟩,⟨o2 41 (o9 40) 37 false,1,1⟩,⟨o2 42 (o8 2 2) 41 true,1,1⟩,⟨o2 43 (o7 42) 41 true,1,1⟩,⟨o2 44 (oF 43) 41 true,1,1⟩,⟨o2 45 (.bin .sub (.t 44) (o5 1)) 41 true,1,1⟩,⟨o2 46 (o8 4 2) 41 true,1,1⟩,⟨o2 47 (o7 46) 41 true,1,1⟩,⟨o2 48 (.mklit 1 [.t 47]) 41 true,1,1⟩,⟨o2 49 (oK 340 [(o5 0),(.t 45),(.t 48)]) 41 true,1,2⟩,⟨o2 50 (.pick (.t 41) (.t 49) (.c (.bool false))) 37 false,2,2⟩,o3 51 (.pick (.t 37) (.c (.bool true)) (.t 50)) 2 2,o3 20 (o9 51) 2 2])
 (.cond (.t 20) (oN [o0 5 (oA 4)]
 oL)
 (oN [o0 53 (o8 4 0),o0 54 (o7 53),o0 55 (.bin .geq (.t 54) (o5 2)),o4 56 55,o2 57 (o8 4 1) 56 true,o2 58 (o7 57) 56 true,o2 59 (o8 4 2) 56 true,o2 60 (o7 59) 56 true,o2 61 (oG false (.t 58) (.t 60)) 56 true,o0 62 (.pick (.t 56) (.t 61) (.c (.bool false))),o4 52 62]
 (.cond (.t 52) (oN [o0 5 (oA 2)]
 oL)
 .skip)))))))))
 (oN [o0 5 (oA 0)]
 oL))⟩
def aM7:AFunc:=⟨9,[.tmp 4],
 oN [o0 4 (.mov (.c (.bool false)))]
 (oN [o4 5 0,o4 6 1,o0 7 (oK 491 [.t 5,.t 6]),o0 8 (.bin .geq (.t 7) (o5 0)),o4 4 8]
 oL)⟩
def aF7:ACode:=oN [o0 18 (oH 17 16)]
 (.seq (.cond (.t 18) .skip
 (oM 0))
 (.seq (.block 1 (oN [o4 19 17,o0 20 (oC 3 15 17),o0 21 (oB 3 20),o0 9 (.alloc [.int .i64 0,.int .i64 0,.int .i64 0]),o4 8 19,o1 (.store 3 (.t 9) (.t 21))]
 (oN [o4 22 2,o4 23 8,o0 24 (oB 3 9),o0 25 (.call (.t 22) [.t 23,.t 24]),o4 10 25]
 (oN [o4 26 10,o0 27 (oG true (.t 26) (o5 0))]
 (.cond (.t 27) (oN [o4 28 8,o4 29 10,o4 6 28,o4 7 29]
 oL)
 .skip)))))
 (.reg [o0 30 (oI 17 1),o4 17 30])))
def aN3:AFunc:=⟨31,[.tmp 6,.tmp 7],
 oN [o0 6 (oA 0),o0 7 (oA 0)]
 (.seq (oN [o4 11 0,o0 12 (oF 11),o4 13 1,o0 14 (.bin .gtr (.t 12) (.t 13))]
 (.cond (.t 14) (oN [o0 6 (oA 0),o0 7 (oA 3)]
 oL)
 .skip))
 (.seq (oN [o4 15 0,o0 16 (oF 15),o0 17 (oA 0)]
 (.block 0 (.loop aF7)))
 (oN [o0 6 (oA 0),o0 7 (oA 0)]
 oL)))⟩
def aOM:AFunc:=⟨30,[.tmp 5],
 oN [o0 4 (.box 3 (.t 1)),o0 5 (oA 0)]
 (.seq (.block 0 (oN [o0 7 (o8 2 2),o0 8 (o7 7),o0 9 (oF 8),o0 10 (.bin .sub (.t 9) (o5 1)),o0 11 (o8 4 0),o0 12 (o7 11),o0 13 (.mklit 1 [.t 12]),o0 14 (oK 340 [(o5 0),(.t 10),(.t 13)]),o4 15 14,o2 16 (o8 2 0) 15 false,o2 17 (o7 16) 15 false,o2 18 (oF 17) 15 false,o2 19 (.bin .sub (.t 18) (o5 1)) 15 false,o2 20 (o8 4 1) 15 false,o2 21 (o7 20) 15 false,o2 22 (.mklit 1 [.t 21]) 15 false,o2 23 (oK 340 [(o5 0),(.t 19),(.t 22)]) 15 false,o0 24 (.pick (.t 15) (.c (.bool true)) (.t 23)),o4 6 24]
 (.cond (.t 6) (oN [o0 5 (oA 4)]
 oL)
 (oN [o0 26 (o8 4 2),o0 27 (o7 26),o0 28 (.mklit 1 [.t 27]),o0 29 (oK 340 [(o5 0),(o5 60),(.t 28)]),o4 25 29]
 (.cond (.t 25) (oN [o0 5 (oA 7)]
 oL)
 .skip)))))
 (oN [o0 5 (oA 0)]
 oL))⟩
def aKI:AFunc:=⟨6,[.cell 0 (some 4)],
 oN [o0 0 (.alloc [.nilFunc,.nilFunc,.nilFunc,.nilFunc])]
 (oN [o0 1 (.build [.nilFunc] [(0,1,(o6 500))]),o0 2 (.build [.nilFunc] [(0,1,(o6 501))]),o0 3 (.build [.nilFunc] [(0,1,(o6 502))]),o0 4 (.build [.nilFunc] [(0,1,(o6 503))]),o0 5 (.build [.nilFunc,.nilFunc,.nilFunc,.nilFunc] [(0,1,(.t 1)),(1,1,(.t 2)),(2,1,(.t 3)),(3,1,(.t 4))]),o1 (.store 4 (.t 0) (.t 5))]
 oL)⟩
def aD1:ACode:=oN [o0 9 (oH 8 7)]
 (.seq (.cond (.t 9) .skip
 (oM 0))
 (.seq (.block 1 (oN [o4 10 8,o4 5 10]
 (oN [o4 11 1,o4 12 0,o4 13 5,o0 14 (oC 1 12 13),o0 15 (o7 14),o0 16 (oG false (.t 11) (.t 15))]
 (.cond (.t 16) (oN [o4 17 5,o4 4 17]
 oL)
 .skip))))
 (.reg [o0 18 (oI 8 1),o4 8 18])))
def aM2:AFunc:=⟨19,[.tmp 4],
 oN [o0 4 (oA 0)]
 (.seq (oN [o4 6 0,o0 7 (oF 6),o0 8 (oA 0)]
 (.block 0 (.loop aD1)))
 (oN [o0 4 (.mov (.c (.int .i64 (-1))))]
 oL))⟩
def aFI:ACode:=oN [o0 9 (oH 8 7)]
 (.seq (.cond (.t 9) .skip
 (oM 0))
 (.seq (.block 1 (oN [o4 10 8,o4 5 10]
 (oN [o4 11 1,o4 12 0,o4 13 5,o0 14 (oC 1 12 13),o0 15 (o7 14),o0 16 (.eql (.one .s) false (.t 11) (.t 15))]
 (.cond (.t 16) (oN [o4 17 5,o4 4 17]
 oL)
 .skip))))
 (.reg [o0 18 (oI 8 1),o4 8 18])))
def aMO:AFunc:=⟨19,[.tmp 4],
 oN [o0 4 (oA 0)]
 (.seq (oN [o4 6 0,o0 7 (oF 6),o0 8 (oA 0)]
 (.block 0 (.loop aFI)))
 (oN [o0 4 (.mov (.c (.int .i64 (-1))))]
 oL))⟩
def aIG:AFunc:=⟨5,[.tmp 2],
 oN [o0 2 (.mov (.c (.lit [] true none)))]
 (.seq (.reg [o4 3 0,o0 4 (oK 504 [(.c (.lit [] true none)),(.t 3)]),o4 2 4])
 oL)⟩
def aLV:AFunc:=⟨11,[],
 oN [o4 3 0,o0 4 (oF 3),o4 2 4]
 (.reg [o4 5 0,o4 6 2,o4 7 2,o0 8 (.conv .u64 (.t 7)),o0 9 (oK 506 [.t 8]),o0 10 (oK 505 [(.t 5),(o5 0),(.t 6),(.t 9)])])⟩
def aGI:ACode:=oN [o0 8 (oH 7 6)]
 (.seq (.cond (.t 8) .skip
 (oM 0))
 (.seq (.block 1 (oN [o0 9 (oC 1 5 7),o0 10 (o7 9),o4 4 10]
 (oN [o4 11 0,o4 12 4,o0 13 (.call (.t 11) [.t 12]),o0 14 (.not (.t 13))]
 (.cond (.t 14) oL
 .skip))))
 (.reg [o0 15 (oI 7 1),o4 7 15])))
def aJR:AFunc:=⟨16,[],
 oN [o0 5 (o7 1),o0 6 (oF 5),o0 7 (oA 0)]
 (.block 0 (.loop aGI))⟩
def aOA:AFunc:=⟨8,[.tmp 4],
 oN [o0 4 (.mov (.c (.bool false)))]
 (oN [o4 5 0,o4 6 1,o0 7 (.bin .geq (.t 5) (.t 6)),o4 4 7]
 oL)⟩
def aJ2:AFunc:=⟨8,[.tmp 4],
 oN [o0 4 (.mov (.c (.bool false)))]
 (oN [o4 5 0,o4 6 1,o0 7 (oH 5 6),o4 4 7]
 oL)⟩
def aMV:AFunc:=⟨8,[.tmp 4],
 oN [o0 4 (.mov (.c (.bool false)))]
 (oN [o4 5 0,o4 6 1,o0 7 (oG false (.t 5) (.t 6)),o4 4 7]
 oL)⟩
def aI1:AFunc:=⟨8,[.tmp 4],
 oN [o0 4 (.mov (.c (.bool false)))]
 (oN [o4 5 0,o4 6 1,o0 7 (oG true (.t 5) (.t 6)),o4 4 7]
 oL)⟩
def aCK:ACode:=.block 1 (.reg [o0 8 (o7 2),o4 9 5,o0 10 (.mklit 1 [.t 9]),o0 11 (.append 1 8 (.t 8) (.t 10)),o1 (.store 1 (.t 2) (.t 11))])
def aJX:AFunc:=⟨13,[.tmp 4],
 oN [o0 2 (.box 1 (.t 0)),o0 4 (.mov (.c (.lit [] true none)))]
 (.seq (oN [o4 6 1]
 (.block 0 (.rangeFunc (.t 6) [7] (.reg [o4 5 7])
 (aCK))))
 (oN [o0 12 (o7 2),o4 4 12]
 oL))⟩
def aD2:ACode:=.block 1 (oN [o4 19 2,o4 20 1,o0 21 (.bin .sub (.t 19) (.t 20)),o4 10 21]
 (.seq (oN [o4 22 10,o0 23 (.bin .leq (.t 22) (o5 12))]
 (.cond (.t 23) (oN [o4 24 0,o4 25 1,o4 26 2,o0 27 (oK 507 [.t 24,.t 25,.t 26])]
 oL)
 .skip))
 (.seq (oN [o4 28 3,o0 29 (oG false (.t 28) (o5 0))]
 (.cond (.t 29) (oN [o4 30 0,o4 31 1,o4 32 2,o0 33 (oK 508 [.t 30,.t 31,.t 32])]
 oL)
 .skip))
 (.seq (oN [o4 34 8,o0 35 (.not (.t 34))]
 (.cond (.t 35) (oN [o4 36 0,o4 37 1,o4 38 2,o0 39 (oK 509 [.t 36,.t 37,.t 38])]
 (.reg [o4 40 3,o0 41 (.bin .sub (.t 40) (o5 1)),o4 3 41]))
 .skip))
 (oN [o4 43 0,o4 44 1,o4 45 2,o0 46 (oK 510 [.t 43,.t 44,.t 45]),o4 42 46,o0 47 (oD 42 0),o0 48 (oD 42 1),o4 11 47,o4 12 48]
 (.seq (oN [o4 49 12,o0 50 (oG false (.t 49) (o5 2))]
 (.cond (.t 50) (oN [o4 51 0,o4 52 1,o4 53 2,o0 54 (oK 511 [.t 51,.t 52,.t 53])]
 (oN [o4 55 2,o0 56 (.bin .sub (.t 55) (o5 1)),o4 57 11,o4 58 1,o0 59 (.bin .sub (.t 57) (.t 58)),o0 60 (.bin .sub (.t 56) (.t 59)),o4 11 60]
 (.reg [o0 12 (oA 1)])))
 .skip))
 (.seq (oN [o4 61 8,o4 62 61,o2 63 (o9 9) 62 true,o0 64 (.pick (.t 62) (.t 63) (.c (.bool false))),o4 65 64,o2 66 (o9 12) 65 true,o2 67 (oG false (.t 66) (o5 1)) 65 true,o0 68 (.pick (.t 65) (.t 67) (.c (.bool false)))]
 (.cond (.t 68) (oN [o4 69 0,o4 70 1,o4 71 2,o0 72 (oK 512 [.t 69,.t 70,.t 71])]
 (.cond (.t 72) oL
 .skip))
 .skip))
 (.seq (.seq (.dreg [o3 73 (o9 1) 0 0,o3 74 (.bin .gtr (.t 73) (o5 0)) 0 0,o3 75 (o9 74) 0 0,⟨o2 76 (o9 0) 75 true,0,0⟩,⟨o2 77 (o9 1) 75 true,0,0⟩,⟨o2 78 (.bin .sub (.t 77) (o5 1)) 75 true,0,0⟩,⟨o2 79 (oC 1 76 78) 75 true,0,0⟩,⟨o2 80 (o7 79) 75 true,0,0⟩,⟨o2 81 (o9 0) 75 true,0,0⟩,⟨o2 82 (o9 11) 75 true,0,0⟩,⟨o2 83 (oC 1 81 82) 75 true,0,0⟩,⟨o2 84 (o7 83) 75 true,0,0⟩,⟨o2 85 (oK 513 [.t 80,.t 84]) 75 true,0,1⟩,⟨o2 86 (.not (.t 85)) 75 true,1,1⟩,o3 87 (.pick (.t 75) (.t 86) (.c (.bool false))) 1 1])
 (.cond (.t 87) (oN [o4 88 0,o4 89 1,o4 90 2,o4 91 11,o0 92 (oK 514 [.t 88,.t 89,.t 90,.t 91]),o4 13 92]
 (oN [o4 93 13,o4 1 93]
 (oM 1)))
 .skip))
 (oN [o4 95 0,o4 96 1,o4 97 2,o4 98 11,o0 99 (oK 515 [.t 95,.t 96,.t 97,.t 98]),o4 94 99,o0 100 (oD 94 0),o0 101 (oD 94 1),o4 14 100,o4 15 101]
 (oN [o4 102 15,o4 9 102]
 (oN [o4 103 14,o4 104 1,o0 105 (.bin .sub (.t 103) (.t 104)),o4 106 2,o4 107 14,o0 108 (.bin .sub (.t 106) (.t 107)),o4 16 105,o4 17 108]
 (oN [o4 109 10,o0 110 (.bin .quo (.t 109) (o5 8)),o4 18 110]
 (oN [o4 111 16,o4 112 17,o0 113 (oH 111 112)]
 (.cond (.t 113) (oN [o4 114 16,o4 115 18,o0 116 (.bin .geq (.t 114) (.t 115)),o4 8 116]
 (oN [o4 117 0,o4 118 1,o4 119 14,o4 120 3,o0 121 (oK 505 [.t 117,.t 118,.t 119,.t 120])]
 (.reg [o4 122 14,o0 123 (oI 122 1),o4 1 123])))
 (oN [o4 124 17,o4 125 18,o0 126 (.bin .geq (.t 124) (.t 125)),o4 8 126]
 (oN [o4 127 0,o4 128 14,o0 129 (oI 128 1),o4 130 2,o4 131 3,o0 132 (oK 505 [.t 127,.t 129,.t 130,.t 131])]
 (.reg [o4 133 14,o4 2 133])))))))))))))))))
def aLR:AFunc:=⟨134,[],
 oN [o0 8 (.mov (.c (.bool true)))]
 (oN [o0 9 (.mov (.c (.bool true)))]
 (.block 0 (.loop aD2)))⟩
def aKY:AFunc:=⟨8,[.tmp 2],
 oN [o0 2 (oA 0)]
 (.seq (.cond (.c (.bool false)) (oN [o4 3 0,o0 4 (.conv .u32 (.t 3)),o0 5 (oK 516 [.t 4]),o4 2 5]
 oL)
 .skip)
 (oN [o4 6 0,o0 7 (oK 517 [.t 6]),o4 2 7]
 oL))⟩
def aDS:ACode:=.seq (.seq (.dreg [o3 16 (o9 7) 0 0,o3 17 (o9 1) 0 0,o3 18 (.bin .gtr (.t 16) (.t 17)) 0 0,o3 19 (o9 18) 0 0,⟨o2 20 (o9 0) 19 true,0,0⟩,⟨o2 21 (o9 7) 19 true,0,0⟩,⟨o2 22 (oC 1 20 21) 19 true,0,0⟩,⟨o2 23 (o7 22) 19 true,0,0⟩,⟨o2 24 (o9 0) 19 true,0,0⟩,⟨o2 25 (o9 7) 19 true,0,0⟩,⟨o2 26 (.bin .sub (.t 25) (o5 1)) 19 true,0,0⟩,⟨o2 27 (oC 1 24 26) 19 true,0,0⟩,⟨o2 28 (o7 27) 19 true,0,0⟩,⟨o2 29 (oK 513 [.t 23,.t 28]) 19 true,0,1⟩,o3 30 (.pick (.t 19) (.t 29) (.c (.bool false))) 1 1])
 (.cond (.t 30) .skip
 (oM 2)))
 (.seq (.block 3 (.dreg [o3 33 (o9 0) 0 0,o3 34 (o9 7) 0 0,o3 35 (o9 0) 0 1,o3 36 (o9 7) 0 1,o3 37 (.bin .sub (.t 36) (o5 1)) 0 1,o3 38 (o9 0) 0 0,o3 39 (o9 7) 0 0,o3 40 (.bin .sub (.t 39) (o5 1)) 0 0,o3 41 (oC 1 38 40) 0 0,o3 42 (o7 41) 0 0,o3 43 (o9 0) 0 0,o3 44 (o9 7) 0 0,o3 45 (oC 1 43 44) 0 0,o3 46 (o7 45) 0 0,o3 47 (oC 1 33 34) 0 0,⟨o1 (.store 1 (.t 47) (.t 42)),0,1⟩,o3 48 (oC 1 35 37) 1 1,⟨o1 (.store 1 (.t 48) (.t 46)),1,2⟩]))
 (.reg [o4 31 7,o0 32 (.bin .sub (.t 31) (o5 1)),o4 7 32]))
def aGT:ACode:=.seq (oN [o4 10 6,o4 11 2,o0 12 (oH 10 11)]
 (.cond (.t 12) .skip
 (oM 0)))
 (.seq (.block 1 (oN [o4 15 6,o4 7 15]
 (.block 2 (.loop aDS))))
 (.reg [o4 13 6,o0 14 (oI 13 1),o4 6 14]))
def aIV:AFunc:=⟨49,[],
 oN [o4 8 1,o0 9 (oI 8 1),o4 6 9]
 (.block 0 (.loop aGT))⟩
def aDA:ACode:=.seq (oN [o4 18 9,o0 19 (.bin .geq (.t 18) (o5 0))]
 (.cond (.t 19) .skip
 (oM 0)))
 (.seq (.block 1 (.reg [o4 22 0,o4 23 9,o4 24 8,o4 25 6,o0 26 (oK 518 [.t 22,.t 23,.t 24,.t 25])]))
 (.reg [o4 20 9,o0 21 (.bin .sub (.t 20) (o5 1)),o4 9 21]))
def aD4:ACode:=.seq (oN [o4 29 10,o0 30 (.bin .geq (.t 29) (o5 0))]
 (.cond (.t 30) .skip
 (oM 2)))
 (.seq (.block 3 (.seq (.dreg [o3 33 (o9 0) 0 0,o3 34 (o9 6) 0 0,o3 35 (o9 0) 0 1,o3 36 (o9 6) 0 1,o3 37 (o9 10) 0 1,o3 38 (.bin .add (.t 36) (.t 37)) 0 1,o3 39 (o9 0) 0 0,o3 40 (o9 6) 0 0,o3 41 (o9 10) 0 0,o3 42 (.bin .add (.t 40) (.t 41)) 0 0,o3 43 (oC 1 39 42) 0 0,o3 44 (o7 43) 0 0,o3 45 (o9 0) 0 0,o3 46 (o9 6) 0 0,o3 47 (oC 1 45 46) 0 0,o3 48 (o7 47) 0 0,o3 49 (oC 1 33 34) 0 0,⟨o1 (.store 1 (.t 49) (.t 44)),0,1⟩,o3 50 (oC 1 35 38) 1 1,⟨o1 (.store 1 (.t 50) (.t 48)),1,2⟩])
 (.reg [o4 51 0,o4 52 7,o4 53 10,o4 54 6,o0 55 (oK 518 [.t 51,.t 52,.t 53,.t 54])])))
 (.reg [o4 31 10,o0 32 (.bin .sub (.t 31) (o5 1)),o4 10 32]))
def aJW:AFunc:=⟨56,[],
 oN [o4 11 1,o4 6 11]
 (oN [o0 7 (oA 0)]
 (oN [o4 12 2,o4 13 1,o0 14 (.bin .sub (.t 12) (.t 13)),o4 8 14]
 (.seq (oN [o4 15 8,o0 16 (.bin .sub (.t 15) (o5 1)),o0 17 (.bin .quo (.t 16) (o5 2)),o4 9 17]
 (.block 0 (.loop aDA)))
 (oN [o4 27 8,o0 28 (.bin .sub (.t 27) (o5 1)),o4 10 28]
 (.block 2 (.loop aD4))))))⟩
def aFS:ACode:=.seq (oN [o4 26 9,o4 27 1,o4 28 6,o0 29 (.bin .quo (.t 28) (o5 4)),o0 30 (.bin .mul (.t 29) (o5 2)),o0 31 (.bin .add (.t 27) (.t 30)),o0 32 (oI 31 1),o0 33 (.bin .leq (.t 26) (.t 32))]
 (.cond (.t 33) .skip
 (oM 0)))
 (.seq (.block 1 (oN [o0 36 (oK 520 [.t 7]),o4 37 8,o0 38 (.bin .sub (.t 37) (.c (.int .u64 1))),o0 39 (.bin .and (.t 36) (.t 38)),o0 40 (.conv .i64 (.t 39)),o4 10 40]
 (.seq (oN [o4 41 10,o4 42 6,o0 43 (.bin .geq (.t 41) (.t 42))]
 (.cond (.t 43) (.reg [o4 44 10,o4 45 6,o0 46 (.bin .sub (.t 44) (.t 45)),o4 10 46])
 .skip))
 (.dreg [o3 47 (o9 0) 0 0,o3 48 (o9 9) 0 0,o3 49 (o9 0) 0 1,o3 50 (o9 1) 0 1,o3 51 (o9 10) 0 1,o3 52 (.bin .add (.t 50) (.t 51)) 0 1,o3 53 (o9 0) 0 0,o3 54 (o9 1) 0 0,o3 55 (o9 10) 0 0,o3 56 (.bin .add (.t 54) (.t 55)) 0 0,o3 57 (oC 1 53 56) 0 0,o3 58 (o7 57) 0 0,o3 59 (o9 0) 0 0,o3 60 (o9 9) 0 0,o3 61 (oC 1 59 60) 0 0,o3 62 (o7 61) 0 0,o3 63 (oC 1 47 48) 0 0,⟨o1 (.store 1 (.t 63) (.t 58)),0,1⟩,o3 64 (oC 1 49 52) 1 1,⟨o1 (.store 1 (.t 64) (.t 62)),1,2⟩]))))
 (.reg [o4 34 9,o0 35 (oI 34 1),o4 9 35]))
def aJT:AFunc:=⟨65,[],
 oN [o4 11 2,o4 12 1,o0 13 (.bin .sub (.t 11) (.t 12)),o4 6 13]
 (oN [o4 14 6,o0 15 (.bin .geq (.t 14) (o5 8))]
 (.cond (.t 15) (oN [o4 16 6,o0 17 (.conv .u64 (.t 16)),o0 7 (.alloc [.int .u64 0]),o1 (.store 1 (.t 7) (.t 17))]
 (oN [o4 18 6,o0 19 (oK 519 [.t 18]),o4 8 19]
 (oN [o4 20 1,o4 21 6,o0 22 (.bin .quo (.t 21) (o5 4)),o0 23 (.bin .mul (.t 22) (o5 2)),o0 24 (.bin .add (.t 20) (.t 23)),o0 25 (.bin .sub (.t 24) (o5 1)),o4 9 25]
 (.block 0 (.loop aFS)))))
 .skip))⟩
def aNO:AFunc:=⟨57,[.tmp 6,.tmp 7],
 oN [o0 6 (oA 0),o0 7 (oA 0)]
 (oN [o4 13 2,o4 14 1,o0 15 (.bin .sub (.t 13) (.t 14)),o4 8 15]
 (oN [o0 9 (.alloc [.int .i64 0])]
 (oN [o4 16 1,o4 17 8,o0 18 (.bin .quo (.t 17) (o5 4)),o0 19 (.bin .mul (.t 18) (o5 1)),o0 20 (.bin .add (.t 16) (.t 19)),o4 10 20]
 (oN [o4 21 1,o4 22 8,o0 23 (.bin .quo (.t 22) (o5 4)),o0 24 (.bin .mul (.t 23) (o5 2)),o0 25 (.bin .add (.t 21) (.t 24)),o4 11 25]
 (oN [o4 26 1,o4 27 8,o0 28 (.bin .quo (.t 27) (o5 4)),o0 29 (.bin .mul (.t 28) (o5 3)),o0 30 (.bin .add (.t 26) (.t 29)),o4 12 30]
 (.seq (oN [o4 31 8,o0 32 (.bin .geq (.t 31) (o5 8))]
 (.cond (.t 32) (.seq (oN [o4 33 8,o0 34 (.bin .geq (.t 33) (o5 50))]
 (.cond (.t 34) (oN [o4 35 0,o4 36 10,o0 37 (oK 521 [.t 35,.t 36,.t 9]),o4 10 37]
 (oN [o4 38 0,o4 39 11,o0 40 (oK 521 [.t 38,.t 39,.t 9]),o4 11 40]
 (.reg [o4 41 0,o4 42 12,o0 43 (oK 521 [.t 41,.t 42,.t 9]),o4 12 43])))
 .skip))
 (.reg [o4 44 0,o4 45 10,o4 46 11,o4 47 12,o0 48 (oK 522 [.t 44,.t 45,.t 46,.t 47,.t 9]),o4 11 48]))
 .skip))
 (oN [o0 49 (o7 9)]
 (.block 0 (oN [o0 52 (oG false (.t 49) (o5 0)),o4 51 52]
 (.cond (.t 51) (oN [o4 53 11,o4 6 53,o0 7 (oA 1)]
 oL)
 (oN [o0 55 (oG false (.t 49) (o5 12)),o4 54 55]
 (.cond (.t 54) (oN [o4 56 11,o4 6 56,o0 7 (oA 2)]
 oL)
 (oN [o4 50 11,o4 6 50,o0 7 (oA 0)]
 oL)))))))))))))⟩
def aDD:ACode:=.seq (oN [o4 11 6,o4 12 7,o0 13 (oH 11 12)]
 (.cond (.t 13) .skip
 (oM 0)))
 (.block 1 (.seq (.dreg [o3 14 (o9 0) 0 0,o3 15 (o9 6) 0 0,o3 16 (o9 0) 0 1,o3 17 (o9 7) 0 1,o3 18 (o9 0) 0 0,o3 19 (o9 7) 0 0,o3 20 (oC 1 18 19) 0 0,o3 21 (o7 20) 0 0,o3 22 (o9 0) 0 0,o3 23 (o9 6) 0 0,o3 24 (oC 1 22 23) 0 0,o3 25 (o7 24) 0 0,o3 26 (oC 1 14 15) 0 0,⟨o1 (.store 1 (.t 26) (.t 21)),0,1⟩,o3 27 (oC 1 16 17) 1 1,⟨o1 (.store 1 (.t 27) (.t 25)),1,2⟩])
 (oN [o4 28 6,o0 29 (oI 28 1),o4 6 29]
 (.reg [o4 30 7,o0 31 (.bin .sub (.t 30) (o5 1)),o4 7 31]))))
def aL8:AFunc:=⟨32,[],
 oN [o4 8 1,o4 6 8]
 (oN [o4 9 2,o0 10 (.bin .sub (.t 9) (o5 1)),o4 7 10]
 (.block 0 (.loop aDD)))⟩
def aGP:ACode:=.seq (.seq (.dreg [o3 17 (o9 7) 0 0,o3 18 (o9 2) 0 0,o3 19 (oH 17 18) 0 0,o3 20 (o9 19) 0 0,⟨o2 21 (o9 0) 20 true,0,0⟩,⟨o2 22 (o9 7) 20 true,0,0⟩,⟨o2 23 (oC 1 21 22) 20 true,0,0⟩,⟨o2 24 (o7 23) 20 true,0,0⟩,⟨o2 25 (o9 0) 20 true,0,0⟩,⟨o2 26 (o9 7) 20 true,0,0⟩,⟨o2 27 (.bin .sub (.t 26) (o5 1)) 20 true,0,0⟩,⟨o2 28 (oC 1 25 27) 20 true,0,0⟩,⟨o2 29 (o7 28) 20 true,0,0⟩,⟨o2 30 (oK 513 [.t 24,.t 29]) 20 true,0,1⟩,⟨o2 31 (.not (.t 30)) 20 true,1,1⟩,o3 32 (.pick (.t 20) (.t 31) (.c (.bool false))) 1 1])
 (.cond (.t 32) .skip
 (oM 2)))
 (.block 3 (.reg [o4 33 7,o0 34 (oI 33 1),o4 7 34]))
def aF4:ACode:=.seq (oN [o4 64 9,o0 65 (.bin .geq (.t 64) (o5 1))]
 (.cond (.t 65) .skip
 (oM 4)))
 (.seq (.block 5 (.seq (.seq (.dreg [o3 68 (o9 0) 0 0,o3 69 (o9 9) 0 0,o3 70 (oC 1 68 69) 0 0,o3 71 (o7 70) 0 0,o3 72 (o9 0) 0 0,o3 73 (o9 9) 0 0,o3 74 (.bin .sub (.t 73) (o5 1)) 0 0,o3 75 (oC 1 72 74) 0 0,o3 76 (o7 75) 0 0,o3 77 (oK 513 [.t 71,.t 76]) 0 1,o3 78 (.not (.t 77)) 1 1])
 (.cond (.t 78) (oM 4)
 .skip))
 (.dreg [o3 79 (o9 0) 0 0,o3 80 (o9 9) 0 0,o3 81 (o9 0) 0 1,o3 82 (o9 9) 0 1,o3 83 (.bin .sub (.t 82) (o5 1)) 0 1,o3 84 (o9 0) 0 0,o3 85 (o9 9) 0 0,o3 86 (.bin .sub (.t 85) (o5 1)) 0 0,o3 87 (oC 1 84 86) 0 0,o3 88 (o7 87) 0 0,o3 89 (o9 0) 0 0,o3 90 (o9 9) 0 0,o3 91 (oC 1 89 90) 0 0,o3 92 (o7 91) 0 0,o3 93 (oC 1 79 80) 0 0,⟨o1 (.store 1 (.t 93) (.t 88)),0,1⟩,o3 94 (oC 1 81 83) 1 1,⟨o1 (.store 1 (.t 94) (.t 92)),1,2⟩])))
 (.reg [o4 66 9,o0 67 (.bin .sub (.t 66) (o5 1)),o4 9 67]))
def aCF:ACode:=.seq (oN [o4 101 10,o4 102 2,o0 103 (oH 101 102)]
 (.cond (.t 103) .skip
 (oM 6)))
 (.seq (.block 7 (.seq (.seq (.dreg [o3 106 (o9 0) 0 0,o3 107 (o9 10) 0 0,o3 108 (oC 1 106 107) 0 0,o3 109 (o7 108) 0 0,o3 110 (o9 0) 0 0,o3 111 (o9 10) 0 0,o3 112 (.bin .sub (.t 111) (o5 1)) 0 0,o3 113 (oC 1 110 112) 0 0,o3 114 (o7 113) 0 0,o3 115 (oK 513 [.t 109,.t 114]) 0 1,o3 116 (.not (.t 115)) 1 1])
 (.cond (.t 116) (oM 6)
 .skip))
 (.dreg [o3 117 (o9 0) 0 0,o3 118 (o9 10) 0 0,o3 119 (o9 0) 0 1,o3 120 (o9 10) 0 1,o3 121 (.bin .sub (.t 120) (o5 1)) 0 1,o3 122 (o9 0) 0 0,o3 123 (o9 10) 0 0,o3 124 (.bin .sub (.t 123) (o5 1)) 0 0,o3 125 (oC 1 122 124) 0 0,o3 126 (o7 125) 0 0,o3 127 (o9 0) 0 0,o3 128 (o9 10) 0 0,o3 129 (oC 1 127 128) 0 0,o3 130 (o7 129) 0 0,o3 131 (oC 1 117 118) 0 0,⟨o1 (.store 1 (.t 131) (.t 126)),0,1⟩,o3 132 (oC 1 119 121) 1 1,⟨o1 (.store 1 (.t 132) (.t 130)),1,2⟩])))
 (.reg [o4 104 10,o0 105 (oI 104 1),o4 10 105]))
def aD6:ACode:=.seq (oN [o4 13 8,o0 14 (.bin .lss (.t 13) (o5 5))]
 (.cond (.t 14) .skip
 (oM 0)))
 (.seq (.block 1 (.seq (.block 2 (.loop aGP))
 (.seq (oN [o4 35 7,o4 36 2,o0 37 (oG false (.t 35) (.t 36))]
 (.cond (.t 37) (oN [o0 6 (.mov (.c (.bool true)))]
 oL)
 .skip))
 (.seq (oN [o4 38 2,o4 39 1,o0 40 (.bin .sub (.t 38) (.t 39)),o0 41 (.bin .lss (.t 40) (o5 50))]
 (.cond (.t 41) (oN [o0 6 (.mov (.c (.bool false)))]
 oL)
 .skip))
 (.seq (.dreg [o3 42 (o9 0) 0 0,o3 43 (o9 7) 0 0,o3 44 (o9 0) 0 1,o3 45 (o9 7) 0 1,o3 46 (.bin .sub (.t 45) (o5 1)) 0 1,o3 47 (o9 0) 0 0,o3 48 (o9 7) 0 0,o3 49 (.bin .sub (.t 48) (o5 1)) 0 0,o3 50 (oC 1 47 49) 0 0,o3 51 (o7 50) 0 0,o3 52 (o9 0) 0 0,o3 53 (o9 7) 0 0,o3 54 (oC 1 52 53) 0 0,o3 55 (o7 54) 0 0,o3 56 (oC 1 42 43) 0 0,⟨o1 (.store 1 (.t 56) (.t 51)),0,1⟩,o3 57 (oC 1 44 46) 1 1,⟨o1 (.store 1 (.t 57) (.t 55)),1,2⟩])
 (.seq (oN [o4 58 7,o4 59 1,o0 60 (.bin .sub (.t 58) (.t 59)),o0 61 (.bin .geq (.t 60) (o5 2))]
 (.cond (.t 61) (oN [o4 62 7,o0 63 (.bin .sub (.t 62) (o5 1)),o4 9 63]
 (.block 4 (.loop aF4)))
 .skip))
 (oN [o4 95 2,o4 96 7,o0 97 (.bin .sub (.t 95) (.t 96)),o0 98 (.bin .geq (.t 97) (o5 2))]
 (.cond (.t 98) (oN [o4 99 7,o0 100 (oI 99 1),o4 10 100]
 (.block 6 (.loop aCF)))
 .skip))))))))
 (.reg [o4 15 8,o0 16 (oI 15 1),o4 8 16]))
def aIY:AFunc:=⟨133,[.tmp 6],
 oN [o0 6 (.mov (.c (.bool false)))]
 (oN [o4 11 1,o0 12 (oI 11 1),o4 7 12]
 (.seq (oN [o0 8 (oA 0)]
 (.block 0 (.loop aD6)))
 (oN [o0 6 (.mov (.c (.bool false)))]
 oL)))⟩
def aH0:AFunc:=⟨17,[.tmp 4],
 oN [o0 4 (.mov (.c (.bool false)))]
 (oN [o4 5 0,o0 6 (oK 386 [.t 5]),o4 7 6,o2 8 (o9 1) 7 true,o2 9 (oK 386 [.t 8]) 7 true,o2 10 (.not (.t 9)) 7 true,o0 11 (.pick (.t 7) (.t 10) (.c (.bool false))),o4 12 11,o2 13 (o9 0) 12 false,o2 14 (o9 1) 12 false,o2 15 (oH 13 14) 12 false,o0 16 (.pick (.t 12) (.c (.bool true)) (.t 15)),o4 4 16]
 oL)⟩
def aCQ:ACode:=.seq (.seq (.dreg [o3 29 (o9 9) 0 0,o3 30 (o9 10) 0 0,o3 31 (.bin .leq (.t 29) (.t 30)) 0 0,o3 32 (o9 31) 0 0,⟨o2 33 (o9 0) 32 true,0,0⟩,⟨o2 34 (o9 1) 32 true,0,0⟩,⟨o2 35 (oC 1 33 34) 32 true,0,0⟩,⟨o2 36 (o7 35) 32 true,0,0⟩,⟨o2 37 (o9 0) 32 true,0,0⟩,⟨o2 38 (o9 9) 32 true,0,0⟩,⟨o2 39 (oC 1 37 38) 32 true,0,0⟩,⟨o2 40 (o7 39) 32 true,0,0⟩,⟨o2 41 (oK 513 [.t 36,.t 40]) 32 true,0,1⟩,⟨o2 42 (.not (.t 41)) 32 true,1,1⟩,o3 43 (.pick (.t 32) (.t 42) (.c (.bool false))) 1 1])
 (.cond (.t 43) .skip
 (oM 2)))
 (.block 3 (.reg [o4 44 9,o0 45 (oI 44 1),o4 9 45]))
def aFF:ACode:=.seq (.seq (.dreg [o3 46 (o9 9) 0 0,o3 47 (o9 10) 0 0,o3 48 (.bin .leq (.t 46) (.t 47)) 0 0,o3 49 (o9 48) 0 0,⟨o2 50 (o9 0) 49 true,0,0⟩,⟨o2 51 (o9 1) 49 true,0,0⟩,⟨o2 52 (oC 1 50 51) 49 true,0,0⟩,⟨o2 53 (o7 52) 49 true,0,0⟩,⟨o2 54 (o9 0) 49 true,0,0⟩,⟨o2 55 (o9 10) 49 true,0,0⟩,⟨o2 56 (oC 1 54 55) 49 true,0,0⟩,⟨o2 57 (o7 56) 49 true,0,0⟩,⟨o2 58 (oK 513 [.t 53,.t 57]) 49 true,0,1⟩,o3 59 (.pick (.t 49) (.t 58) (.c (.bool false))) 1 1])
 (.cond (.t 59) .skip
 (oM 4)))
 (.block 5 (.reg [o4 60 10,o0 61 (.bin .sub (.t 60) (o5 1)),o4 10 61]))
def aG2:ACode:=.block 1 (.seq (.block 2 (.loop aCQ))
 (.seq (.block 4 (.loop aFF))
 (.seq (oN [o4 62 9,o4 63 10,o0 64 (.bin .gtr (.t 62) (.t 63))]
 (.cond (.t 64) (oM 0)
 .skip))
 (.seq (.dreg [o3 65 (o9 0) 0 0,o3 66 (o9 9) 0 0,o3 67 (o9 0) 0 1,o3 68 (o9 10) 0 1,o3 69 (o9 0) 0 0,o3 70 (o9 10) 0 0,o3 71 (oC 1 69 70) 0 0,o3 72 (o7 71) 0 0,o3 73 (o9 0) 0 0,o3 74 (o9 9) 0 0,o3 75 (oC 1 73 74) 0 0,o3 76 (o7 75) 0 0,o3 77 (oC 1 65 66) 0 0,⟨o1 (.store 1 (.t 77) (.t 72)),0,1⟩,o3 78 (oC 1 67 68) 1 1,⟨o1 (.store 1 (.t 78) (.t 76)),1,2⟩])
 (oN [o4 79 9,o0 80 (oI 79 1),o4 9 80]
 (.reg [o4 81 10,o0 82 (.bin .sub (.t 81) (o5 1)),o4 10 82]))))))
def aNB:AFunc:=⟨84,[.tmp 8],
 oN [o0 8 (oA 0)]
 (.seq (.dreg [o3 11 (o9 0) 0 0,o3 12 (o9 1) 0 0,o3 13 (o9 0) 0 1,o3 14 (o9 3) 0 1,o3 15 (o9 0) 0 0,o3 16 (o9 3) 0 0,o3 17 (oC 1 15 16) 0 0,o3 18 (o7 17) 0 0,o3 19 (o9 0) 0 0,o3 20 (o9 1) 0 0,o3 21 (oC 1 19 20) 0 0,o3 22 (o7 21) 0 0,o3 23 (oC 1 11 12) 0 0,⟨o1 (.store 1 (.t 23) (.t 18)),0,1⟩,o3 24 (oC 1 13 14) 1 1,⟨o1 (.store 1 (.t 24) (.t 22)),1,2⟩])
 (oN [o4 25 1,o0 26 (oI 25 1),o4 27 2,o0 28 (.bin .sub (.t 27) (o5 1)),o4 9 26,o4 10 28]
 (.seq (.block 0 (.loop aG2))
 (oN [o4 83 9,o4 8 83]
 oL))))⟩
def aGU:ACode:=.seq (.seq (.dreg [o3 30 (o9 10) 0 0,o3 31 (o9 11) 0 0,o3 32 (.bin .leq (.t 30) (.t 31)) 0 0,o3 33 (o9 32) 0 0,⟨o2 34 (o9 0) 33 true,0,0⟩,⟨o2 35 (o9 10) 33 true,0,0⟩,⟨o2 36 (oC 1 34 35) 33 true,0,0⟩,⟨o2 37 (o7 36) 33 true,0,0⟩,⟨o2 38 (o9 0) 33 true,0,0⟩,⟨o2 39 (o9 1) 33 true,0,0⟩,⟨o2 40 (oC 1 38 39) 33 true,0,0⟩,⟨o2 41 (o7 40) 33 true,0,0⟩,⟨o2 42 (oK 513 [.t 37,.t 41]) 33 true,0,1⟩,o3 43 (.pick (.t 33) (.t 42) (.c (.bool false))) 1 1])
 (.cond (.t 43) .skip
 (oM 0)))
 (.block 1 (.reg [o4 44 10,o0 45 (oI 44 1),o4 10 45]))
def aGL:ACode:=.seq (.seq (.dreg [o3 46 (o9 10) 0 0,o3 47 (o9 11) 0 0,o3 48 (.bin .leq (.t 46) (.t 47)) 0 0,o3 49 (o9 48) 0 0,⟨o2 50 (o9 0) 49 true,0,0⟩,⟨o2 51 (o9 11) 49 true,0,0⟩,⟨o2 52 (oC 1 50 51) 49 true,0,0⟩,⟨o2 53 (o7 52) 49 true,0,0⟩,⟨o2 54 (o9 0) 49 true,0,0⟩,⟨o2 55 (o9 1) 49 true,0,0⟩,⟨o2 56 (oC 1 54 55) 49 true,0,0⟩,⟨o2 57 (o7 56) 49 true,0,0⟩,⟨o2 58 (oK 513 [.t 53,.t 57]) 49 true,0,1⟩,⟨o2 59 (.not (.t 58)) 49 true,1,1⟩,o3 60 (.pick (.t 49) (.t 59) (.c (.bool false))) 1 1])
 (.cond (.t 60) .skip
 (oM 2)))
 (.block 3 (.reg [o4 61 11,o0 62 (.bin .sub (.t 61) (o5 1)),o4 11 62]))
def aGK:ACode:=.seq (.seq (.dreg [o3 99 (o9 10) 0 0,o3 100 (o9 11) 0 0,o3 101 (.bin .leq (.t 99) (.t 100)) 0 0,o3 102 (o9 101) 0 0,⟨o2 103 (o9 0) 102 true,0,0⟩,⟨o2 104 (o9 10) 102 true,0,0⟩,⟨o2 105 (oC 1 103 104) 102 true,0,0⟩,⟨o2 106 (o7 105) 102 true,0,0⟩,⟨o2 107 (o9 0) 102 true,0,0⟩,⟨o2 108 (o9 1) 102 true,0,0⟩,⟨o2 109 (oC 1 107 108) 102 true,0,0⟩,⟨o2 110 (o7 109) 102 true,0,0⟩,⟨o2 111 (oK 513 [.t 106,.t 110]) 102 true,0,1⟩,o3 112 (.pick (.t 102) (.t 111) (.c (.bool false))) 1 1])
 (.cond (.t 112) .skip
 (oM 6)))
 (.block 7 (.reg [o4 113 10,o0 114 (oI 113 1),o4 10 114]))
def aES:ACode:=.seq (.seq (.dreg [o3 115 (o9 10) 0 0,o3 116 (o9 11) 0 0,o3 117 (.bin .leq (.t 115) (.t 116)) 0 0,o3 118 (o9 117) 0 0,⟨o2 119 (o9 0) 118 true,0,0⟩,⟨o2 120 (o9 11) 118 true,0,0⟩,⟨o2 121 (oC 1 119 120) 118 true,0,0⟩,⟨o2 122 (o7 121) 118 true,0,0⟩,⟨o2 123 (o9 0) 118 true,0,0⟩,⟨o2 124 (o9 1) 118 true,0,0⟩,⟨o2 125 (oC 1 123 124) 118 true,0,0⟩,⟨o2 126 (o7 125) 118 true,0,0⟩,⟨o2 127 (oK 513 [.t 122,.t 126]) 118 true,0,1⟩,⟨o2 128 (.not (.t 127)) 118 true,1,1⟩,o3 129 (.pick (.t 118) (.t 128) (.c (.bool false))) 1 1])
 (.cond (.t 129) .skip
 (oM 8)))
 (.block 9 (.reg [o4 130 11,o0 131 (.bin .sub (.t 130) (o5 1)),o4 11 131]))
def aFL:ACode:=.block 5 (.seq (.block 6 (.loop aGK))
 (.seq (.block 8 (.loop aES))
 (.seq (oN [o4 132 10,o4 133 11,o0 134 (.bin .gtr (.t 132) (.t 133))]
 (.cond (.t 134) (oM 4)
 .skip))
 (.seq (.dreg [o3 135 (o9 0) 0 0,o3 136 (o9 10) 0 0,o3 137 (o9 0) 0 1,o3 138 (o9 11) 0 1,o3 139 (o9 0) 0 0,o3 140 (o9 11) 0 0,o3 141 (oC 1 139 140) 0 0,o3 142 (o7 141) 0 0,o3 143 (o9 0) 0 0,o3 144 (o9 10) 0 0,o3 145 (oC 1 143 144) 0 0,o3 146 (o7 145) 0 0,o3 147 (oC 1 135 136) 0 0,⟨o1 (.store 1 (.t 147) (.t 142)),0,1⟩,o3 148 (oC 1 137 138) 1 1,⟨o1 (.store 1 (.t 148) (.t 146)),1,2⟩])
 (oN [o4 149 10,o0 150 (oI 149 1),o4 10 150]
 (.reg [o4 151 11,o0 152 (.bin .sub (.t 151) (o5 1)),o4 11 152]))))))
def aHU:AFunc:=⟨168,[.tmp 8,.tmp 9],
 oN [o0 8 (oA 0),o0 9 (.mov (.c (.bool false)))]
 (.seq (.dreg [o3 12 (o9 0) 0 0,o3 13 (o9 1) 0 0,o3 14 (o9 0) 0 1,o3 15 (o9 3) 0 1,o3 16 (o9 0) 0 0,o3 17 (o9 3) 0 0,o3 18 (oC 1 16 17) 0 0,o3 19 (o7 18) 0 0,o3 20 (o9 0) 0 0,o3 21 (o9 1) 0 0,o3 22 (oC 1 20 21) 0 0,o3 23 (o7 22) 0 0,o3 24 (oC 1 12 13) 0 0,⟨o1 (.store 1 (.t 24) (.t 19)),0,1⟩,o3 25 (oC 1 14 15) 1 1,⟨o1 (.store 1 (.t 25) (.t 23)),1,2⟩])
 (oN [o4 26 1,o0 27 (oI 26 1),o4 28 2,o0 29 (.bin .sub (.t 28) (o5 1)),o4 10 27,o4 11 29]
 (.seq (.block 0 (.loop aGU))
 (.seq (.block 2 (.loop aGL))
 (.seq (oN [o4 63 10,o4 64 11,o0 65 (.bin .gtr (.t 63) (.t 64))]
 (.cond (.t 65) (.seq (.dreg [o3 66 (o9 0) 0 0,o3 67 (o9 11) 0 0,o3 68 (o9 0) 0 1,o3 69 (o9 1) 0 1,o3 70 (o9 0) 0 0,o3 71 (o9 1) 0 0,o3 72 (oC 1 70 71) 0 0,o3 73 (o7 72) 0 0,o3 74 (o9 0) 0 0,o3 75 (o9 11) 0 0,o3 76 (oC 1 74 75) 0 0,o3 77 (o7 76) 0 0,o3 78 (oC 1 66 67) 0 0,⟨o1 (.store 1 (.t 78) (.t 73)),0,1⟩,o3 79 (oC 1 68 69) 1 1,⟨o1 (.store 1 (.t 79) (.t 77)),1,2⟩])
 (oN [o4 80 11,o4 8 80,o0 9 (.mov (.c (.bool true)))]
 oL))
 .skip))
 (.seq (.dreg [o3 81 (o9 0) 0 0,o3 82 (o9 10) 0 0,o3 83 (o9 0) 0 1,o3 84 (o9 11) 0 1,o3 85 (o9 0) 0 0,o3 86 (o9 11) 0 0,o3 87 (oC 1 85 86) 0 0,o3 88 (o7 87) 0 0,o3 89 (o9 0) 0 0,o3 90 (o9 10) 0 0,o3 91 (oC 1 89 90) 0 0,o3 92 (o7 91) 0 0,o3 93 (oC 1 81 82) 0 0,⟨o1 (.store 1 (.t 93) (.t 88)),0,1⟩,o3 94 (oC 1 83 84) 1 1,⟨o1 (.store 1 (.t 94) (.t 92)),1,2⟩])
 (oN [o4 95 10,o0 96 (oI 95 1),o4 10 96]
 (oN [o4 97 11,o0 98 (.bin .sub (.t 97) (o5 1)),o4 11 98]
 (.seq (.block 4 (.loop aFL))
 (.seq (.dreg [o3 153 (o9 0) 0 0,o3 154 (o9 11) 0 0,o3 155 (o9 0) 0 1,o3 156 (o9 1) 0 1,o3 157 (o9 0) 0 0,o3 158 (o9 1) 0 0,o3 159 (oC 1 157 158) 0 0,o3 160 (o7 159) 0 0,o3 161 (o9 0) 0 0,o3 162 (o9 11) 0 0,o3 163 (oC 1 161 162) 0 0,o3 164 (o7 163) 0 0,o3 165 (oC 1 153 154) 0 0,⟨o1 (.store 1 (.t 165) (.t 160)),0,1⟩,o3 166 (oC 1 155 156) 1 1,⟨o1 (.store 1 (.t 166) (.t 164)),1,2⟩])
 (oN [o4 167 11,o4 8 167,o0 9 (.mov (.c (.bool false)))]
 oL)))))))))))⟩
def aIK:AFunc:=⟨19,[.tmp 2],
 oN [o0 2 (oA 0)]
 (.seq (oN [o4 3 0,o0 4 (.bin .geq (.t 3) (.c (.int .u32 65536)))]
 (.cond (.t 4) (oN [o4 5 0,o0 6 (.bin .shr (.t 5) (.c (.int .u64 16))),o4 0 6]
 (.reg [o0 2 (oA 16)]))
 .skip))
 (.seq (oN [o4 7 0,o0 8 (.bin .geq (.t 7) (.c (.int .u32 256)))]
 (.cond (.t 8) (oN [o4 9 0,o0 10 (.bin .shr (.t 9) (.c (.int .u64 8))),o4 0 10]
 (.reg [o4 11 2,o0 12 (oI 11 8),o4 2 12]))
 .skip))
 (oN [o4 13 2,o4 14 0,o0 15 (.conv .u8 (.t 14)),⟨some 16,.sindex (.c (.str ⟨#[0,1,2,2,3,3,3,3,4,4,4,4,4,4,4,4,5,5,5,5,5,5,5,5,5,5,5,5,5,5,5,5,6,6,6,6,6,6,6,6,6,6,6,6,6,6,6,6,6,6,6,6,6,6,6,6,6,6,6,6,6,6,6,6,7,7,7,7,7,7,7,7,7,7,7,7,7,7,7,7,7,7,7,7,7,7,7,7,7,7,7,7,7,7,7,7,7,7,7,7,7,7,7,7,7,7,7,7,7,7,7,7,7,7,7,7,7,7,7,7,7,7,7,7,7,7,7,7,8,8,8,8,8,8,8,8,8,8,8,8,8,8,8,8,8,8,8,8,8,8,8,8,8,8,8,8,8,8,8,8,8,8,8,8,8,8,8,8,8,8,8,8,8,8,8,8,8,8,8,8,8,8,8,8,8,8,8,8,8,8,8,8,8,8,8,8,8,8,8,8,8,8,8,8,8,8,8,8,8,8,8,8,8,8,8,8,8,8,8,8,8,8,8,8,8,8,8,8,8,8,8,8,8,8,8,8,8,8,8,8,8,8,8,8,8,8,8,8,8,8,8,8,8,8,8,8]⟩)) (.t 15),none⟩,o0 17 (.conv .i64 (.t 16)),o0 18 (.bin .add (.t 13) (.t 17)),o4 2 18]
 oL)))⟩
def aND:AFunc:=⟨25,[.tmp 2],
 oN [o0 2 (oA 0)]
 (.seq (oN [o4 3 0,o0 4 (.bin .geq (.t 3) (.c (.int .u64 4294967296)))]
 (.cond (.t 4) (oN [o4 5 0,o0 6 (.bin .shr (.t 5) (.c (.int .u64 32))),o4 0 6]
 (.reg [o0 2 (oA 32)]))
 .skip))
 (.seq (oN [o4 7 0,o0 8 (.bin .geq (.t 7) (.c (.int .u64 65536)))]
 (.cond (.t 8) (oN [o4 9 0,o0 10 (.bin .shr (.t 9) (.c (.int .u64 16))),o4 0 10]
 (.reg [o4 11 2,o0 12 (oI 11 16),o4 2 12]))
 .skip))
 (.seq (oN [o4 13 0,o0 14 (.bin .geq (.t 13) (.c (.int .u64 256)))]
 (.cond (.t 14) (oN [o4 15 0,o0 16 (.bin .shr (.t 15) (.c (.int .u64 8))),o4 0 16]
 (.reg [o4 17 2,o0 18 (oI 17 8),o4 2 18]))
 .skip))
 (oN [o4 19 2,o4 20 0,o0 21 (.conv .u8 (.t 20)),⟨some 22,.sindex (.c (.str ⟨#[0,1,2,2,3,3,3,3,4,4,4,4,4,4,4,4,5,5,5,5,5,5,5,5,5,5,5,5,5,5,5,5,6,6,6,6,6,6,6,6,6,6,6,6,6,6,6,6,6,6,6,6,6,6,6,6,6,6,6,6,6,6,6,6,7,7,7,7,7,7,7,7,7,7,7,7,7,7,7,7,7,7,7,7,7,7,7,7,7,7,7,7,7,7,7,7,7,7,7,7,7,7,7,7,7,7,7,7,7,7,7,7,7,7,7,7,7,7,7,7,7,7,7,7,7,7,7,7,8,8,8,8,8,8,8,8,8,8,8,8,8,8,8,8,8,8,8,8,8,8,8,8,8,8,8,8,8,8,8,8,8,8,8,8,8,8,8,8,8,8,8,8,8,8,8,8,8,8,8,8,8,8,8,8,8,8,8,8,8,8,8,8,8,8,8,8,8,8,8,8,8,8,8,8,8,8,8,8,8,8,8,8,8,8,8,8,8,8,8,8,8,8,8,8,8,8,8,8,8,8,8,8,8,8,8,8,8,8,8,8,8,8,8,8,8,8,8,8,8,8,8,8,8,8,8,8]⟩)) (.t 21),none⟩,o0 23 (.conv .i64 (.t 22)),o0 24 (.bin .add (.t 19) (.t 23)),o4 2 24]
 oL))))⟩
def aD8:ACode:=.block 1 (oN [o4 11 8,o0 12 (.bin .mul (o5 2) (.t 11)),o0 13 (oI 12 1),o4 9 13]
 (.seq (oN [o4 14 9,o4 15 2,o0 16 (.bin .geq (.t 14) (.t 15))]
 (.cond (.t 16) (oM 0)
 .skip))
 (.seq (.seq (.dreg [o3 17 (o9 9) 0 0,o3 18 (oI 17 1) 0 0,o3 19 (o9 2) 0 0,o3 20 (oH 18 19) 0 0,o3 21 (o9 20) 0 0,⟨o2 22 (o9 0) 21 true,0,0⟩,⟨o2 23 (o9 3) 21 true,0,0⟩,⟨o2 24 (o9 9) 21 true,0,0⟩,⟨o2 25 (.bin .add (.t 23) (.t 24)) 21 true,0,0⟩,⟨o2 26 (oC 1 22 25) 21 true,0,0⟩,⟨o2 27 (o7 26) 21 true,0,0⟩,⟨o2 28 (o9 0) 21 true,0,0⟩,⟨o2 29 (o9 3) 21 true,0,0⟩,⟨o2 30 (o9 9) 21 true,0,0⟩,⟨o2 31 (.bin .add (.t 29) (.t 30)) 21 true,0,0⟩,⟨o2 32 (oI 31 1) 21 true,0,0⟩,⟨o2 33 (oC 1 28 32) 21 true,0,0⟩,⟨o2 34 (o7 33) 21 true,0,0⟩,⟨o2 35 (oK 513 [.t 27,.t 34]) 21 true,0,1⟩,o3 36 (.pick (.t 21) (.t 35) (.c (.bool false))) 1 1])
 (.cond (.t 36) (.reg [o4 37 9,o0 38 (oI 37 1),o4 9 38])
 .skip))
 (.seq (.seq (.dreg [o3 39 (o9 0) 0 0,o3 40 (o9 3) 0 0,o3 41 (o9 8) 0 0,o3 42 (.bin .add (.t 40) (.t 41)) 0 0,o3 43 (oC 1 39 42) 0 0,o3 44 (o7 43) 0 0,o3 45 (o9 0) 0 0,o3 46 (o9 3) 0 0,o3 47 (o9 9) 0 0,o3 48 (.bin .add (.t 46) (.t 47)) 0 0,o3 49 (oC 1 45 48) 0 0,o3 50 (o7 49) 0 0,o3 51 (oK 513 [.t 44,.t 50]) 0 1,o3 52 (.not (.t 51)) 1 1])
 (.cond (.t 52) oL
 .skip))
 (.seq (.dreg [o3 53 (o9 0) 0 0,o3 54 (o9 3) 0 0,o3 55 (o9 8) 0 0,o3 56 (.bin .add (.t 54) (.t 55)) 0 0,o3 57 (o9 0) 0 1,o3 58 (o9 3) 0 1,o3 59 (o9 9) 0 1,o3 60 (.bin .add (.t 58) (.t 59)) 0 1,o3 61 (o9 0) 0 0,o3 62 (o9 3) 0 0,o3 63 (o9 9) 0 0,o3 64 (.bin .add (.t 62) (.t 63)) 0 0,o3 65 (oC 1 61 64) 0 0,o3 66 (o7 65) 0 0,o3 67 (o9 0) 0 0,o3 68 (o9 3) 0 0,o3 69 (o9 8) 0 0,o3 70 (.bin .add (.t 68) (.t 69)) 0 0,o3 71 (oC 1 67 70) 0 0,o3 72 (o7 71) 0 0,o3 73 (oC 1 53 56) 0 0,⟨o1 (.store 1 (.t 73) (.t 66)),0,1⟩,o3 74 (oC 1 57 60) 1 1,⟨o1 (.store 1 (.t 74) (.t 72)),1,2⟩])
 (.reg [o4 75 9,o4 8 75]))))))
def aIW:AFunc:=⟨76,[],
 oN [o4 10 1,o4 8 10]
 (.block 0 (.loop aD8))⟩
def aOE:AFunc:=⟨7,[.tmp 2],
 oN [o0 2 (.mov (.c (.int .u64 0)))]
 (oN [o4 3 0,o0 4 (.conv .u64 (.t 3)),o0 5 (oK 506 [.t 4]),o0 6 (.bin .shl (.c (.int .u64 1)) (.t 5)),o4 2 6]
 oL)⟩
def aHE:AFunc:=⟨33,[.tmp 2],
 oN [o0 2 (.mov (.c (.int .u64 0)))]
 (.seq (.dreg [o3 3 (o9 0) 0 0,o3 4 (.nilCheck (.t 3)) 0 0,o3 5 (o7 4) 0 0,o3 6 (o9 0) 0 0,o3 7 (.nilCheck (.t 6)) 0 0,o3 8 (o7 7) 0 0,o3 9 (.bin .shl (.t 8) (.c (.int .u64 13))) 0 0,o3 10 (.bin .xor (.t 5) (.t 9)) 0 0,o3 11 (.nilCheck (.t 3)) 0 0,⟨o1 (.store 1 (.t 11) (.t 10)),0,1⟩])
 (.seq (.dreg [o3 12 (o9 0) 0 0,o3 13 (.nilCheck (.t 12)) 0 0,o3 14 (o7 13) 0 0,o3 15 (o9 0) 0 0,o3 16 (.nilCheck (.t 15)) 0 0,o3 17 (o7 16) 0 0,o3 18 (.bin .shr (.t 17) (.c (.int .u64 7))) 0 0,o3 19 (.bin .xor (.t 14) (.t 18)) 0 0,o3 20 (.nilCheck (.t 12)) 0 0,⟨o1 (.store 1 (.t 20) (.t 19)),0,1⟩])
 (.seq (.dreg [o3 21 (o9 0) 0 0,o3 22 (.nilCheck (.t 21)) 0 0,o3 23 (o7 22) 0 0,o3 24 (o9 0) 0 0,o3 25 (.nilCheck (.t 24)) 0 0,o3 26 (o7 25) 0 0,o3 27 (.bin .shl (.t 26) (.c (.int .u64 17))) 0 0,o3 28 (.bin .xor (.t 23) (.t 27)) 0 0,o3 29 (.nilCheck (.t 21)) 0 0,⟨o1 (.store 1 (.t 29) (.t 28)),0,1⟩])
 (oN [o4 30 0,o0 31 (.nilCheck (.t 30)),o0 32 (o7 31),o4 2 32]
 oL))))⟩
def aK0:AFunc:=⟨15,[.tmp 6],
 oN [o0 6 (oA 0)]
 (oN [o4 7 0,o4 8 1,o0 9 (.bin .sub (.t 8) (o5 1)),o4 10 1,o4 11 1,o0 12 (oI 11 1),o4 13 2,o0 14 (oK 522 [.t 7,.t 9,.t 10,.t 12,.t 13]),o4 6 14]
 oL)⟩
def aIM:AFunc:=⟨36,[.tmp 10],
 oN [o0 10 (oA 0)]
 (oN [o4 12 0,o4 13 1,o4 14 2,o4 15 4,o0 16 (oK 523 [.t 12,.t 13,.t 14,.t 15]),o4 11 16,o0 17 (oD 11 0),o0 18 (oD 11 1),o4 1 17,o4 2 18]
 (oN [o4 20 0,o4 21 2,o4 22 3,o4 23 4,o0 24 (oK 523 [.t 20,.t 21,.t 22,.t 23]),o4 19 24,o0 25 (oD 19 0),o0 26 (oD 19 1),o4 2 25,o4 3 26]
 (oN [o4 28 0,o4 29 1,o4 30 2,o4 31 4,o0 32 (oK 523 [.t 28,.t 29,.t 30,.t 31]),o4 27 32,o0 33 (oD 27 0),o0 34 (oD 27 1),o4 1 33,o4 2 34]
 (oN [o4 35 2,o4 10 35]
 oL))))⟩
def aJ9:AFunc:=⟨28,[.tmp 8,.tmp 9],
 oN [o0 8 (oA 0),o0 9 (oA 0)]
 (.seq (.seq (.dreg [o3 10 (o9 0) 0 0,o3 11 (o9 2) 0 0,o3 12 (oC 1 10 11) 0 0,o3 13 (o7 12) 0 0,o3 14 (o9 0) 0 0,o3 15 (o9 1) 0 0,o3 16 (oC 1 14 15) 0 0,o3 17 (o7 16) 0 0,o3 18 (oK 513 [.t 13,.t 17]) 0 1])
 (.cond (.t 18) (oN [o4 19 3,o0 20 (.nilCheck (.t 19)),o0 21 (o7 20),o0 22 (oI 21 1),o0 23 (.nilCheck (.t 19)),o1 (.store 1 (.t 23) (.t 22))]
 (oN [o4 24 2,o4 25 1,o4 8 24,o4 9 25]
 oL))
 .skip))
 (oN [o4 26 1,o4 27 2,o4 8 26,o4 9 27]
 oL))⟩
def T(f:FuncId):Option AFunc:=cond (Nat.ble f 301) (cond (Nat.ble f 161) (cond (Nat.ble f 53) (cond (Nat.ble f 20) (cond (Nat.ble f 5) (cond (Nat.ble f 3) (cond (Nat.ble f 2) (cond (Nat.beq f 2) (some a2) none) (cond (Nat.beq f 3) (some a3) none)) (cond (Nat.ble f 4) (cond (Nat.beq f 4) (some a4) none) (cond (Nat.beq f 5) (some a5) none))) (cond (Nat.ble f 7) (cond (Nat.ble f 6) (cond (Nat.beq f 6) (some a6) none) (cond (Nat.beq f 7) (some a7) none)) (cond (Nat.ble f 8) (cond (Nat.beq f 8) (some a8) none) (cond (Nat.ble f 9) (cond (Nat.beq f 9) (some a9) none) (cond (Nat.beq f 20) (some a20) none))))) (cond (Nat.ble f 40) (cond (Nat.ble f 27) (cond (Nat.ble f 25) (cond (Nat.beq f 25) (some a25) none) (cond (Nat.beq f 27) (some a27) none)) (cond (Nat.ble f 29) (cond (Nat.beq f 29) (some a29) none) (cond (Nat.ble f 39) (cond (Nat.beq f 39) (some a39) none) (cond (Nat.beq f 40) (some a40) none)))) (cond (Nat.ble f 42) (cond (Nat.ble f 41) (cond (Nat.beq f 41) (some a41) none) (cond (Nat.beq f 42) (some a42) none)) (cond (Nat.ble f 43) (cond (Nat.beq f 43) (some a43) none) (cond (Nat.ble f 44) (cond (Nat.beq f 44) (some a44) none) (cond (Nat.beq f 53) (some a53) none)))))) (cond (Nat.ble f 111) (cond (Nat.ble f 63) (cond (Nat.ble f 61) (cond (Nat.ble f 60) (cond (Nat.beq f 60) (some a60) none) (cond (Nat.beq f 61) (some a61) none)) (cond (Nat.ble f 62) (cond (Nat.beq f 62) (some a62) none) (cond (Nat.beq f 63) (some a63) none))) (cond (Nat.ble f 65) (cond (Nat.ble f 64) (cond (Nat.beq f 64) (some a64) none) (cond (Nat.beq f 65) (some a65) none)) (cond (Nat.ble f 66) (cond (Nat.beq f 66) (some a66) none) (cond (Nat.ble f 67) (cond (Nat.beq f 67) (some a67) none) (cond (Nat.beq f 111) (some RG) none))))) (cond (Nat.ble f 156) (cond (Nat.ble f 153) (cond (Nat.ble f 118) (cond (Nat.beq f 118) (some VS) none) (cond (Nat.beq f 153) (some PQ) none)) (cond (Nat.ble f 154) (cond (Nat.beq f 154) (some T4) none) (cond (Nat.ble f 155) (cond (Nat.beq f 155) (some TW) none) (cond (Nat.beq f 156) (some SC) none)))) (cond (Nat.ble f 158) (cond (Nat.ble f 157) (cond (Nat.beq f 157) (some VK) none) (cond (Nat.beq f 158) (some VQ) none)) (cond (Nat.ble f 159) (cond (Nat.beq f 159) (some T3) none) (cond (Nat.ble f 160) (cond (Nat.beq f 160) (some RN) none) (cond (Nat.beq f 161) (some QU) none))))))) (cond (Nat.ble f 214) (cond (Nat.ble f 170) (cond (Nat.ble f 165) (cond (Nat.ble f 163) (cond (Nat.ble f 162) (cond (Nat.beq f 162) (some V8) none) (cond (Nat.beq f 163) (some JS) none)) (cond (Nat.ble f 164) (cond (Nat.beq f 164) (some UN) none) (cond (Nat.beq f 165) (some VX) none))) (cond (Nat.ble f 167) (cond (Nat.ble f 166) (cond (Nat.beq f 166) (some H3) none) (cond (Nat.beq f 167) (some P8) none)) (cond (Nat.ble f 168) (cond (Nat.beq f 168) (some S1) none) (cond (Nat.ble f 169) (cond (Nat.beq f 169) (some UF) none) (cond (Nat.beq f 170) (some UV) none))))) (cond (Nat.ble f 209) (cond (Nat.ble f 206) (cond (Nat.ble f 205) (cond (Nat.beq f 205) (some Q8) none) (cond (Nat.beq f 206) (some RZ) none)) (cond (Nat.ble f 207) (cond (Nat.beq f 207) (some Q2) none) (cond (Nat.ble f 208) (cond (Nat.beq f 208) (some VW) none) (cond (Nat.beq f 209) (some aMZ) none)))) (cond (Nat.ble f 211) (cond (Nat.ble f 210) (cond (Nat.beq f 210) (some aM8) none) (cond (Nat.beq f 211) (some aMK) none)) (cond (Nat.ble f 212) (cond (Nat.beq f 212) (some aM4) none) (cond (Nat.ble f 213) (cond (Nat.beq f 213) (some aIT) none) (cond (Nat.beq f 214) (some aNI) none)))))) (cond (Nat.ble f 254) (cond (Nat.ble f 218) (cond (Nat.ble f 216) (cond (Nat.ble f 215) (cond (Nat.beq f 215) (some aHW) none) (cond (Nat.beq f 216) (some aIS) none)) (cond (Nat.ble f 217) (cond (Nat.beq f 217) (some aMR) none) (cond (Nat.beq f 218) (some aH9) none))) (cond (Nat.ble f 220) (cond (Nat.ble f 219) (cond (Nat.beq f 219) (some aOL) none) (cond (Nat.beq f 220) (some QK) none)) (cond (Nat.ble f 221) (cond (Nat.beq f 221) (some S4) none) (cond (Nat.ble f 244) (cond (Nat.beq f 244) (some UI) none) (cond (Nat.beq f 254) (some V5) none))))) (cond (Nat.ble f 296) (cond (Nat.ble f 293) (cond (Nat.ble f 257) (cond (Nat.beq f 257) (some VU) none) (cond (Nat.beq f 293) (some BE) none)) (cond (Nat.ble f 294) (cond (Nat.beq f 294) (some TZ) none) (cond (Nat.ble f 295) (cond (Nat.beq f 295) (some SG) none) (cond (Nat.beq f 296) (some SJ) none)))) (cond (Nat.ble f 298) (cond (Nat.ble f 297) (cond (Nat.beq f 297) (some SZ) none) (cond (Nat.beq f 298) (some PX) none)) (cond (Nat.ble f 299) (cond (Nat.beq f 299) (some QL) none) (cond (Nat.ble f 300) (cond (Nat.beq f 300) (some PR) none) (cond (Nat.beq f 301) (some PN) none)))))))) (cond (Nat.ble f 456) (cond (Nat.ble f 343) (cond (Nat.ble f 333) (cond (Nat.ble f 305) (cond (Nat.ble f 303) (cond (Nat.ble f 302) (cond (Nat.beq f 302) (some UP) none) (cond (Nat.beq f 303) (some S5) none)) (cond (Nat.ble f 304) (cond (Nat.beq f 304) (some UG) none) (cond (Nat.beq f 305) (some RH) none))) (cond (Nat.ble f 307) (cond (Nat.ble f 306) (cond (Nat.beq f 306) (some T6) none) (cond (Nat.beq f 307) (some PY) none)) (cond (Nat.ble f 308) (cond (Nat.beq f 308) (some UC) none) (cond (Nat.ble f 332) (cond (Nat.beq f 332) (some OQ) none) (cond (Nat.beq f 333) (some aH1) none))))) (cond (Nat.ble f 338) (cond (Nat.ble f 335) (cond (Nat.ble f 334) (cond (Nat.beq f 334) (some aHH) none) (cond (Nat.beq f 335) (some aHO) none)) (cond (Nat.ble f 336) (cond (Nat.beq f 336) (some aNA) none) (cond (Nat.ble f 337) (cond (Nat.beq f 337) (some aJJ) none) (cond (Nat.beq f 338) (some aOO) none)))) (cond (Nat.ble f 340) (cond (Nat.ble f 339) (cond (Nat.beq f 339) (some aNC) none) (cond (Nat.beq f 340) (some aMW) none)) (cond (Nat.ble f 341) (cond (Nat.beq f 341) (some aKC) none) (cond (Nat.ble f 342) (cond (Nat.beq f 342) (some aJB) none) (cond (Nat.beq f 343) (some aI5) none)))))) (cond (Nat.ble f 446) (cond (Nat.ble f 410) (cond (Nat.ble f 378) (cond (Nat.ble f 356) (cond (Nat.beq f 356) (some SI) none) (cond (Nat.beq f 378) (some PH) none)) (cond (Nat.ble f 386) (cond (Nat.beq f 386) (some QY) none) (cond (Nat.beq f 410) (some U8) none))) (cond (Nat.ble f 412) (cond (Nat.ble f 411) (cond (Nat.beq f 411) (some wK) none) (cond (Nat.beq f 412) (some SN) none)) (cond (Nat.ble f 413) (cond (Nat.beq f 413) (some V4) none) (cond (Nat.ble f 414) (cond (Nat.beq f 414) (some PL) none) (cond (Nat.beq f 446) (some aMF) none))))) (cond (Nat.ble f 451) (cond (Nat.ble f 448) (cond (Nat.ble f 447) (cond (Nat.beq f 447) (some aMG) none) (cond (Nat.beq f 448) (some aH5) none)) (cond (Nat.ble f 449) (cond (Nat.beq f 449) (some aJ4) none) (cond (Nat.ble f 450) (cond (Nat.beq f 450) (some aJZ) none) (cond (Nat.beq f 451) (some aMU) none)))) (cond (Nat.ble f 453) (cond (Nat.ble f 452) (cond (Nat.beq f 452) (some aLK) none) (cond (Nat.beq f 453) (some aJ7) none)) (cond (Nat.ble f 454) (cond (Nat.beq f 454) (some aLX) none) (cond (Nat.ble f 455) (cond (Nat.beq f 455) (some aN6) none) (cond (Nat.beq f 456) (some aIL) none))))))) (cond (Nat.ble f 503) (cond (Nat.ble f 465) (cond (Nat.ble f 460) (cond (Nat.ble f 458) (cond (Nat.ble f 457) (cond (Nat.beq f 457) (some aOD) none) (cond (Nat.beq f 458) (some aJY) none)) (cond (Nat.ble f 459) (cond (Nat.beq f 459) (some aJM) none) (cond (Nat.beq f 460) (some aNX) none))) (cond (Nat.ble f 462) (cond (Nat.ble f 461) (cond (Nat.beq f 461) (some aNZ) none) (cond (Nat.beq f 462) (some aLC) none)) (cond (Nat.ble f 463) (cond (Nat.beq f 463) (some aM7) none) (cond (Nat.ble f 464) (cond (Nat.beq f 464) (some aN3) none) (cond (Nat.beq f 465) (some aOM) none))))) (cond (Nat.ble f 494) (cond (Nat.ble f 491) (cond (Nat.ble f 490) (cond (Nat.beq f 490) (some aKI) none) (cond (Nat.beq f 491) (some aM2) none)) (cond (Nat.ble f 492) (cond (Nat.beq f 492) (some aMO) none) (cond (Nat.ble f 493) (cond (Nat.beq f 493) (some aIG) none) (cond (Nat.beq f 494) (some aLV) none)))) (cond (Nat.ble f 500) (cond (Nat.ble f 495) (cond (Nat.beq f 495) (some aJR) none) (cond (Nat.beq f 500) (some aOA) none)) (cond (Nat.ble f 501) (cond (Nat.beq f 501) (some aJ2) none) (cond (Nat.ble f 502) (cond (Nat.beq f 502) (some aMV) none) (cond (Nat.beq f 503) (some aI1) none)))))) (cond (Nat.ble f 513) (cond (Nat.ble f 508) (cond (Nat.ble f 505) (cond (Nat.ble f 504) (cond (Nat.beq f 504) (some aJX) none) (cond (Nat.beq f 505) (some aLR) none)) (cond (Nat.ble f 506) (cond (Nat.beq f 506) (some aKY) none) (cond (Nat.ble f 507) (cond (Nat.beq f 507) (some aIV) none) (cond (Nat.beq f 508) (some aJW) none)))) (cond (Nat.ble f 510) (cond (Nat.ble f 509) (cond (Nat.beq f 509) (some aJT) none) (cond (Nat.beq f 510) (some aNO) none)) (cond (Nat.ble f 511) (cond (Nat.beq f 511) (some aL8) none) (cond (Nat.ble f 512) (cond (Nat.beq f 512) (some aIY) none) (cond (Nat.beq f 513) (some aH0) none))))) (cond (Nat.ble f 518) (cond (Nat.ble f 515) (cond (Nat.ble f 514) (cond (Nat.beq f 514) (some aNB) none) (cond (Nat.beq f 515) (some aHU) none)) (cond (Nat.ble f 516) (cond (Nat.beq f 516) (some aIK) none) (cond (Nat.ble f 517) (cond (Nat.beq f 517) (some aND) none) (cond (Nat.beq f 518) (some aIW) none)))) (cond (Nat.ble f 520) (cond (Nat.ble f 519) (cond (Nat.beq f 519) (some aOE) none) (cond (Nat.beq f 520) (some aHE) none)) (cond (Nat.ble f 521) (cond (Nat.beq f 521) (some aK0) none) (cond (Nat.ble f 522) (cond (Nat.beq f 522) (some aIM) none) (cond (Nat.beq f 523) (some aJ9) none))))))))
end Go.Am.Room
namespace Go.Am
def uQ:Value->Option AV
 |.bool b=>some (.bool b)
 |.int k n=>some (.int k n)
 |.string s=>some (.str s)
 |.pointer none=>some .nilPtr
 |.slice none 0 0=>some (.lit [] true none)
 |.map none=>some .nilMap
 |.nilFunc=>some .nilFunc
 |_=>none
def nR:List Value->Option (List AV)
 |[]=>some []
 |v::vs=>match uQ v,nR vs with|some a,some b=>some (a::b)|_,_=>none
def ofValue:Value->Option AV
 |.agg cs=>match nR cs.toList with|some l=>some (.agg l)|none=>none
 |.tuple vs=>if vs.size=0 then some (.tuple []) else none
 |v=>uQ v
def opd:Operand->Option AOpd
 |.tmp t=>some (.t t)
 |.const v=>match ofValue v with|some a=>some (.c a)|none=>none
 |.func f=>some (.c (.func f [] []))
 |.global _=>none
def yV:List Operand->Option (List AOpd)
 |[]=>some []
 |x::xs=>match opd x,yV xs with|some a,some b=>some (a::b)|_,_=>none
def gF:Option Operand->Option (Option AOpd)
 |none=>some none
 |some x=>match opd x with|some a=>some (some a)|none=>none
section
variable (P:Program) (h:String->Bool)
def eB(t:TypeId):Option Bool :=
 match P.underlying t with
 |some (.struct _)|some (.array _ _)=>some true
 |some _=>some false
 |none=>none
def eD(t:TypeId):Option Nat :=
 match P.info? t with
 |some i=>if i.size=0 then none else some i.size
 |none=>none
def mC(t:TypeId):Option (Option Nat) :=
 match eB P t,eD P t with
 |some true,some n=>some (some n)
 |some false,some 1=>some none
 |_,_=>none
def GA(t:TypeId):Option AV :=
 match P.info? t with
 |some i=>match i.zero with|some v=>ofValue v|none=>none
 |none=>none
def eK(t:TypeId):Option (List AV) :=
 match GA P t,eD P t with
 |some z,some n=>if z.cells.length=n/\z.cells.all (·.cell)=true then some z.cells else none
 |_,_=>none
mutual
def plainT:Nat->TypeId->Option (List SK)
 |0,_=>none
 |d+1,t =>
  match P.underlying t with
  |some .bool=>some [.b]
  |some (.int _)=>some [.i]
  |some .string=>some [.s]
  |some (.struct fs)=>if P.stoodInHeld t then none else plainFields d fs.toList 0
  |some (.array n e) =>
   match plainT d e,P.info? e with
   |some ks,some i=>if i.size=ks.length then some (List.replicate n ks).flatten else none
   |_,_=>none
  |_=>none
def plainFields:Nat->List Field->Nat->Option (List SK)
 |0,_,_=>none
 |_+1,[],_=>some []
 |d+1,f::fs,n =>
  if f.name = "_"\/f.offset≠n then none else
  match plainT d f.type,P.info? f.type with
  |some ks,some i=>if i.size=ks.length then (match plainFields d fs (n+ks.length) with|some r=>some (ks++r)|none=>none) else none
  |_,_=>none
end
def qL:Nat:=60
def eqT(t:TypeId):Option EqTy :=
 match plainT P qL t,eB P t with
 |some [k],some false=>some (.one k)
 |some ks,some true=>if P.eqGuardType P.depth t then none else some (.agg ks)
 |_,_=>none
def tM(s:TypeId)(f:Nat):Option Field :=
 match P.underlying s with
 |some (.struct fs) =>
  match fs[f]? with
  |some f=>match eD P f.type with|some _=>some f|none=>none
  |none=>none
 |_=>none
def AB(t:TypeId):Bool :=
 match P.underlying t with
 |some (.struct fs)=>fs.toList.all fun f=>(P.info? f.type).isSome
 |some (.array _ e)=>(P.info? e).isSome
 |_=>false
def jK(t:TypeId):List (Nat×Operand)->Option (List (Nat×Nat×AOpd))
 |[]=>some []
 |(i,x)::rest =>
  let place:Option (Nat×Nat):=match P.underlying t with
   |some (.struct fs)=>match fs[i]? with|some f=>(match eD P f.type with|some n=>some (f.offset,n)|none=>none)|none=>none
   |some (.array n e)=>if i<n then (match eD P e with|some m=>some (i*m,m)|none=>none) else none
   |_=>none
  match place,opd x,jK t rest with
  |some (off,n),some a,some r=>some ((off,n,a)::r)
  |_,_,_=>none
def jL:Nat->List (Nat×Operand)->Option (List AOpd)
 |_,[]=>some []
 |k,(i,x)::rest=>if i=k then (match opd x,jL (k+1) rest with|some a,some b=>some (a::b)|_,_=>none) else none
def iL(t:TypeId):Option (TypeId×Nat) :=
 match P.underlying t with
 |some (.slice e)=>match eD P e with|some n=>some (e,n)|none=>none
 |_=>none
abbrev RY:AOp:=.nilCheck (.c .undef)
theorem v4(e:Env)(σ:St):aop RY e σ=none:=rfl
def nI(pos:String)(c:Call):Option AOp :=
 match c.callee,yV c.args.toList with
 |.value f,some args=>match opd f with|some g=>some (.call g args)|none=>none
 |.builtin .len,some [x] =>
  match c.argTypes[0]? with
  |some t =>
   match P.underlying t with
   |some .string=>some (.len 0 x)
   |some (.slice _)=>some (.len 1 x)
   |some (.map _ _)=>some (.len 2 x)
   |some (.array n _)=>some (.mov (.c (.int .i64 n)))
   |_=>none
  |none=>none
 |.builtin .append,some [x,y] =>
  match c.argTypes[0]?,c.argTypes[1]? with
  |some t,some u =>
   match iL P t,iL P u,P.info? (match P.underlying t with|some (.slice e)=>e|_=>0) with
   |some (e,sz),some (e',_),some i=>if t=u/\e=e'/\0<i.bytes then (match eK P e with|some _=>some (if h pos then .apref sz i.bytes x y else .append sz i.bytes x y)|none=>none) else none
   |_,_,_=>none
  |_,_=>none
 |.builtin .copy,some [x,y] =>
  match c.argTypes[0]?,c.argTypes[1]? with
  |some t,some u =>
   match iL P t,iL P u with
   |some (e,sz),some (e',_)=>if e=e' then some (.copy sz x y) else none
   |_,_=>none
  |_,_=>none
 |.builtin .min,some xs=>some (.min xs)
 |.builtin .max,some xs=>some (.max xs)
 |.builtin .clear,some _=>some RY
 |_,_=>none
def aW(pos:String):Op->Option AOp
 |.move x|.assign x=>match opd x with|some a=>some (.mov a)|none=>none
 |.pick c a b=>match opd c,opd a,opd b with|some c,some a,some b=>some (.pick c a b)|_,_,_=>none
 |.alloc t=>match eK P t with|some z=>some (.alloc z)|none=>none
 |.box t x=>match opd x,mC P t,eD P t with|some a,some _,some n=>some (.box n a)|_,_,_=>none
 |.build t parts =>
  match eK P t,AB P t,jK P t parts.toList with
  |some z,true,some ps=>some (.build z ps)
  |_,_,_=>none
 |.buildSlice t n parts =>
  match iL P t,jL 0 parts.toList with
  |some (e,sz),some xs=>if xs.length=n/\n*sz<=2^24 then (match eK P e with|some _=>some (if (h pos&&n != 0)=true then .mkref sz xs else .mklit sz xs)|none=>none) else none
  |_,_=>none
 |.load t a=>match mC P t,opd a with|some sh,some x=>some (.load sh x)|_,_=>none
 |.store t a x=>match eD P t,opd a,opd x with|some n,some a,some x=>some (.store n a x)|_,_,_=>none
 |.nilCheck x=>match opd x with|some a=>some (.nilCheck a)|none=>none
 |.binOp op t x y _ =>
  match opd x,opd y with
  |some a,some b =>
   match op with
   |.eql=>match eqT P t with|some sh=>some (.eql sh false a b)|none=>none
   |.neq=>match eqT P t with|some sh=>some (.eql sh true a b)|none=>none
   |op =>
    match P.underlying t with
    |some (.int _)=>some (.bin op a b)
    |_=>none
  |_,_=>none
 |.unOp op _ x =>
  match op,opd x with
  |.not,some a=>some (.not a)
  |.neg,some a=>some (.neg a)
  |_,_=>none
 |.convert s d x =>
  match P.underlying s,P.underlying d,opd x with
  |some (.int _),some (.int k),some a=>some (.conv k a)
  |_,_,_=>none
 |.makeFunc fn first cap =>
  match fn,yV first.toList,yV cap.toList with
  |.func f,some a,some b=>some (.mkfun f a b)
  |_,_,_=>none
 |.makeMap t none=>match P.underlying t with|some (.map _ _)=>some .mkmap|_=>none
 |.makeSlice t l c =>
  match iL P t,opd l,opd c with
  |some (e,_),some l,some c =>
   match eK P e,P.info? e with
   |some z,some i=>if 0<i.bytes then some (.mkslice z i.bytes l c) else none
   |_,_=>none
  |_,_,_=>none
 |.slice t x lo hi mx =>
  match opd x,gF lo,gF hi,gF mx with
  |some x,some lo,some hi,some mx =>
   match P.underlying t with
   |some (.slice e)=>match eD P e with|some sz=>some (.slicev sz x lo hi mx)|none=>none
   |some (.array n e)=>match eD P e,mx with|some sz,none=>some (.slicea n sz x lo hi)|_,_=>none
   |_=>none
  |_,_,_,_=>none
 |.fieldAddr t x f=>match tM P t f,opd x with|some f,some a=>some (.faddr a f.offset)|_,_=>none
 |.field t x f =>
  match tM P t f,opd x with
  |some f,some a=>match mC P f.type with|some sh=>some (.field a f.offset sh)|none=>none
  |_,_=>none
 |.indexAddr t x i =>
  match opd x,opd i with
  |some x,some i =>
   match P.underlying t with
   |some (.array n e)=>match eD P e with|some sz=>some (.iaddr (some n) sz x i)|none=>none
   |some (.slice e)=>match eD P e with|some sz=>some (.iaddr none sz x i)|none=>none
   |_=>none
  |_,_=>none
 |.index t x i =>
  match opd x,opd i with
  |some x,some i =>
   match P.underlying t with
   |some .string=>some (.sindex x i)
   |some (.array n e)=>match eD P e,mC P e with|some sz,some sh=>some (.index n sz sh x i)|_,_=>none
   |_=>none
  |_,_=>none
 |.lookup t m k ok =>
  match opd m,opd k with
  |some m,some k =>
   match P.underlying t with
   |some (.map key elem)=>(match eqT P key,GA P elem with|some sh,some z=>some (.lookup sh ok z m k)|_,_=>none)
   |_=>none
  |_,_=>none
 |.mapUpdate t m k v =>
  match opd m,opd k,opd v with
  |some m,some k,some v =>
   match P.underlying t with
   |some (.map key _)=>(match eqT P key with|some sh=>some (.mapset sh m k v)|none=>none)
   |_=>none
  |_,_,_=>none
 |.range t x =>
  match opd x with
  |some x =>
   match P.underlying t with
   |some .string=>some (.srange x)
   |some (.map _ _)=>some (.mrange x)
   |_=>none
  |none=>none
 |.next x s=>match opd x with|some a=>if s then some (.snext a) else some (.mnext a)|none=>none
 |.entry x=>match opd x with|some a=>some (.entry a)|none=>none
 |.extract x i=>match opd x with|some a=>some (.ext a i)|none=>none
 |.call c=>nI P h pos c
 |.makeInterface _ _|.panic _=>some RY
 |_=>none
def j7(n:Nat)(ops:Array Oper)(o:Oper):Option AOper :=
 let d:Bool:=match o.dst with|some d=>decide (d<n)|none=>true
 let g:Option (Option (Nat×Bool)):=match o.guard with
  |none=>some none
  |some (j,want)=>match (ops[j]?).bind (·.dst) with|some t=>some (some (t,want))|none=>none
 match aW P h o.pos o.op,g with
 |some op,some g=>if d then some { dst:=o.dst,op,guard:=g } else none
 |_,_=>none
def eR(n:Nat)(ops:Array Oper):List Oper->Option (List AOper)
 |[]=>some []
 |o::os=>match j7 P h n ops o,eR n ops os with|some a,some b=>some (a::b)|_,_=>none
def AOpd.tmps:AOpd->List Nat
 |.t n=>[n]
 |.c _=>[]
def AOp.tmps:AOp->List Nat
 |.mov x|.box _ x|.load _ x|.nilCheck x|.not x|.neg x|.conv _ x|.faddr x _|.field x _ _|.srange x|.snext x|.mrange x|.mnext x|.entry x|.ext x _|.len _ x=>x.tmps
 |.pick c a b|.mapset _ c a b=>c.tmps++a.tmps++b.tmps
 |.alloc _|.mkmap=>[]
 |.build _ ps=>ps.flatMap fun p=>p.2.2.tmps
 |.mklit _ xs|.mkref _ xs|.min xs|.max xs=>xs.flatMap AOpd.tmps
 |.store _ a b|.bin _ a b|.eql _ _ a b|.append _ _ a b|.apref _ _ a b|.copy _ a b|.mkslice _ _ a b|.iaddr _ _ a b|.index _ _ _ a b|.sindex a b|.lookup _ _ _ a b=>a.tmps++b.tmps
 |.mkfun _ a b=>a.flatMap AOpd.tmps++b.flatMap AOpd.tmps
 |.slicev _ x l h m=>x.tmps++(l.toList++h.toList++m.toList).flatMap AOpd.tmps
 |.slicea _ _ x l h=>x.tmps++(l.toList++h.toList).flatMap AOpd.tmps
 |.call f xs=>f.tmps++xs.flatMap AOpd.tmps
def AOper.tmps(o:AOper):List Nat:=o.op.tmps++(match o.guard with|some (t,_)=>[t]|none=>[])
def bX(os:List AOper):List Nat:=(os.zipIdx.filter fun p=>p.1.op.acts).map (·.2)
def IQ(md:Region.Mode)(ops:Array Oper)(i:Nat):Nat :=
 match ops[i]? with
 |none=>0
 |some o =>
  let j:=o.after.toList.foldl (fun m e=>if Region.binds md e&&decide (m<e.on) then e.on else m) i
  if j=i then i*(ops.size+1) else j*(ops.size+1)+1+i
def pB(md:Region.Mode)(ops:Array Oper):Bool :=
 (List.range ops.size).all fun i=>((ops[i]?).map fun o=>o.after.toList.all fun e=>!Region.binds md e||(decide (e.on<ops.size)&&decide (IQ md ops e.on<IQ md ops i))).getD false
def xY(ops:Array Oper):Bool:=pB .any ops&&pB .text ops&&pB .gc ops
def mF:Code->Bool
 |.seq a b|.cond _ a b=>mF a&&mF b
 |.block _ b|.loop b|.scope b=>mF b
 |.rangeFunc ..=>false
 |_=>true
def AF(before:Array Nat)(os:List AOper):Bool :=
 let ps:=os.zipIdx
 let acts:=bX os
 (ps.all fun (o,i)=>ps.all fun (o',j)=>i==j||!(o.dst.isSome&&o.dst==o'.dst)) &&
 (ps.all fun (o,i)=>o.tmps.all fun t=>ps.all fun (o',j)=>o'.dst != some t||(decide (j<i)&&(before.getD i 0).testBit j)||(decide (i<j)&&(before.getD j 0).testBit i)) &&
 (acts.all fun i=>acts.all fun j=>!(decide (i<j))||(before.getD j 0).testBit i)
def fR(before:Array Nat)(os:List AOper):List ADOper :=
 let acts:=bX os
 os.zipIdx.map fun (o,i) =>
  { o,lo:=(acts.filter fun a=>(before.getD i 0).testBit a).length,hi:=(acts.takeWhile fun a=>!(before.getD a 0).testBit i).length }
def comp(n:Nat):Code->Option ACode
 |.skip|.label _=>some .skip
 |.region _ ops draw =>
  match eR P h n ops ops.toList with
  |some os=>if draw then (if xY ops&&AF (Region.before ops) os then some (.dreg (fR (Region.before ops) os)) else none) else some (.reg os)
  |none=>none
 |.seq a b=>match comp n a,comp n b with|some x,some y=>some (.seq x y)|_,_=>none
 |.cond c a b=>match opd c,comp n a,comp n b with|some c,some x,some y=>some (.cond c x y)|_,_,_=>none
 |.block id b=>match comp n b with|some x=>some (.block id x)|none=>none
 |.loop b=>match comp n b with|some x=>some (.loop x)|none=>none
 |.rangeFunc f ps a b=>match opd f,comp n a,comp n b with|some f,some x,some y=>if ps.toList.all (fun p=>decide (p<n))&&mF a&&mF b then some (.rangeFunc f ps.toList x y) else none|_,_,_=>none
 |.exit id=>some (.jump (.exit id))
 |.ret=>some (.jump .ret)
 |.scope b=>match comp n b with|some x=>some (.scope x)|none=>none
 |.goto _|.refuse _=>none
def kX:List ResultVar->Option (List ARes)
 |[]=>some []
 |.tmp t::rs=>match kX rs with|some l=>some (.tmp t::l)|none=>none
 |.cell a t::rs=>match mC P t,kX rs with|some sh,some l=>some (.cell a sh::l)|_,_=>none
def iY(fn:Func):Option AFunc :=
 match fn.body with
 |none=>none
 |some c =>
  match comp P h fn.ntmps c,kX P fn.results.toList with
  |some b,some rs=>if fn.name== "runtime.NumGoroutine" then none else some { ntmps:=fn.ntmps,results:=rs,body:=b }
  |_,_=>none
end
end Go.Am
namespace Go.Am
structure Gh where
 loc:Nat->Option Nat
 lim:Nat->Option Nat
 tok:Nat->Option (Option Addr×Nat×Nat)
 own:Nat->Option Nat
 defs:Nat->Prop
 B0:Nat
 h0:Array Obj
 /-- blocks that have no place,and get none;and what they hold -/
 res:Nat->Option (Option (List AV))
structure LitAt (G:Gh) (w:World) (xs:List AV) (tk:Option Nat) (b off sz:Nat):Prop where
 lim:∃ L,G.lim b=some L/\off+xs.length*sz<=L
 own:∀ t,G.own b=some t->tk=some t
 size:∀ (i:Nat) (x:AV),xs[i]? = some x->x.cells.length=sz
 cells:∀ k,k<xs.length*sz->(w.cell? ⟨b,off+k,none⟩).isSome=true
def kH(G:Gh)(full:Bool)(tk:Option Nat)(n:Nat)(base:Option Addr)(cap:Nat):Prop :=
 n<=cap/\(full=true->cap=n) /\
 ∀ t,tk=some t->∃ b m c,G.tok t=some (b,m,c)/\n<=m/\(full=false->m=n->b=base/\c=cap)
inductive RelV (G:Gh) (w:World):AV->Value->Prop where
 |undef (v:Value):RelV G w .undef v
 |int (k:IntKind) (n:Int):RelV G w (.int k n) (.int k n)
 |bool (b:Bool):RelV G w (.bool b) (.bool b)
 |str (s:ByteArray):RelV G w (.str s) (.string s)
 |func {f first cap first' cap'} (h1:first'.size=first.length) (h2:cap'.size=cap.length)
   (h3:∀ (i:Nat) (a:AV) (v:Value),first[i]? = some a->first'[i]? = some v->RelV G w a v) (h4:∀ (i:Nat) (a:AV) (v:Value),cap[i]? = some a->cap'[i]? = some v->RelV G w a v) :
   RelV G w (.func f first cap) (.func (.func f) first' cap')
 |nilFunc:RelV G w .nilFunc .nilFunc
 |yield {id b} (h:G.loc id=some b):RelV G w (.yield id) (.func (.yield b) #[] #[])
 |ptr {id off b} (h:G.loc id=some b):RelV G w (.ptr id off) (.pointer (some ⟨b,off,none⟩))
 |nilPtr:RelV G w .nilPtr (.pointer none)
 |lptr {xs i off tk b o sz} (ht:∀ t,tk=some t->∃ p,G.tok t=some p) (hi:i<xs.length) (hl:LitAt G w xs tk b o sz)
   (hc:∀ (i:Nat) (x:AV) (j:Nat) (c:AV) (u:Value),xs[i]? = some x->x.cells[j]? = some c->w.cell? ⟨b,o+(i*sz+j),none⟩=some u->RelV G w c u) :
   RelV G w (.lptr xs i off tk) (.pointer (some ⟨b,o+i*sz+off,none⟩))
 |nil {full tk base cap} (ht:kH G full tk 0 base cap) (hb:base=none->cap=0):RelV G w (.lit [] full tk) (.slice base 0 cap)
 |lit {xs full tk b o sz cap} (ht:kH G full tk xs.length (some ⟨b,o,none⟩) cap) (hl:LitAt G w xs tk b o sz)
   (hc:∀ (i:Nat) (x:AV) (j:Nat) (c:AV) (u:Value),xs[i]? = some x->x.cells[j]? = some c->w.cell? ⟨b,o+(i*sz+j),none⟩=some u->RelV G w c u) :
   RelV G w (.lit xs full tk) (.slice (some ⟨b,o,none⟩) xs.length cap)
 |ref {id off len sz b base cap} (h:G.loc id=some b) (hb:len≠0->base=some ⟨b,off,none⟩) (hc:len<=cap) (hn:base=none->cap=0) :
   RelV G w (.ref id off len sz) (.slice base len cap)
 |map {id b} (h:G.loc id=some b):RelV G w (.map id) (.map (some b))
 |nilMap:RelV G w .nilMap (.map none)
 |agg {cs vs} (h:vs.size=cs.length) (hc:∀ (i:Nat) (a:AV) (v:Value),cs[i]? = some a->vs[i]? = some v->RelV G w a v):RelV G w (.agg cs) (.agg vs)
 |tuple {cs vs} (h:vs.size=cs.length) (hc:∀ (i:Nat) (a:AV) (v:Value),cs[i]? = some a->vs[i]? = some v->RelV G w a v):RelV G w (.tuple cs) (.tuple vs)
def aDY:LS->LoopState
 |.ready=>.ready
 |.busy=>.busy
 |.done=>.done
def J2:AJump->Code
 |.ret=>.ret
 |.exit id=>.exit id
def dS(G:Gh)(w:World)(n:Nat)(env:Env)(tmps:Array Value):Prop :=
 tmps.size=n/\∀ t,RelV G w (Env.get env t) (tmps.getD t Go.undef)
def fE(P:Program)(h:String->Bool)(G:Gh)(w:World):ABlk->Nat->Prop
 |.cells cs,b=>∃ vs T,w.heap[b]? = some (.cells vs T (0,0))/\cs.length<=vs.size/\∀ (i:Nat) (a:AV) (v:Value),cs[i]? = some a->vs[i]? = some v->RelV G w a v
 |.map es,b=>∃ ents,w.heap[b]? = some (.map ents es.length)/\ents.size=es.length /\
   (∀ (i:Nat) (e:MapEntry),ents[i]? = some e->e.born=i)/\∀ (i:Nat) (p:AV×AV) (e:MapEntry),es[i]? = some p->ents[i]? = some e->RelV G w p.1 e.key/\RelV G w p.2 e.val
 |.tok _ _ _,_=>False
 |.siter s pos,b=>w.heap[b]? = some (.stringIter s pos)
 |.miter m n left last,b=>∃ bm seen stepped,G.loc m=some bm/\w.heap[b]? = some (.mapIter (some bm) n seen stepped) /\
   left=(List.range n).filter (fun i=>!seen.contains i)/\seen.back? = last/\(seen.isEmpty=false->stepped=n)
 |.loop st pend env ps a c,b=>∃ l n,w.heap[b]? = some (.loop l)/\l.state=aDY st/\l.pending=pend.map J2/\l.params.toList=ps /\
   comp P h n l.assign=some a/\comp P h n l.body=some c/\(∀ p∈ps,p<n)/\dS G w n env l.tmps/\mF l.assign=true/\mF l.body=true
 |.dead,_=>True
def DO:Obj:=.deferred none
structure RelS (P:Program) (h:String->Bool) (G:Gh) (w:World) (σ:St):Prop where
 lt:∀ id b,G.loc id=some b->id<σ.length
 blk:∀ id b x,G.loc id=some b->σ[id]? = some x->fE P h G w x b
 inj:∀ i j b,G.loc i=some b->G.loc j=some b->i=j
 fresh:∀ id b,G.loc id=some b->G.B0<=b/\b<w.heap.size/\G.lim b=none/\¬G.defs b
 lim:∀ b L,G.lim b=some L->∃ vs T fr,w.heap[b]? = some (.cells vs T fr)/\L<=vs.size/\(b<G.B0->G.h0[G.B0+b]? = some DO)
 tok:∀ t b n c,G.tok t=some (b,n,c)->∃ sz ex,σ[t]? = some (.tok sz n ex)/\n<=c/\(ex=false->c=n) /\
  (ex=true->∃ bb vs T,b=some ⟨bb,0,none⟩/\G.own bb=some t/\G.lim bb=some (n*sz)/\G.B0<=bb /\
   w.heap[bb]? = some (.cells vs T (0,0))/\c*sz<=vs.size)
 own:∀ b t,G.own b=some t->b<w.heap.size/\∃ p,G.tok t=some p
 defs:∀ r,G.defs r->w.heap[r]? = some (.deferred (some []))/\G.B0<=r/\G.lim r=none
 base:∀ b,b<G.B0->w.heap[b]? = G.h0[b]?
 size:G.B0<=w.heap.size
 res:∀ id r,G.res id=some r->G.loc id=none/\id<σ.length/\∀ cs,r=some cs->σ[id]? = some (.cells cs)
structure Evo (G:Gh) (w:World) (G':Gh) (w':World):Prop where
 loc:∀ id b,G.loc id=some b->G'.loc id=some b
 lim:∀ b L,G.lim b=some L->∃ L',G'.lim b=some L'/\L<=L'/\∀ k,k<L->w'.cell? ⟨b,k,none⟩=w.cell? ⟨b,k,none⟩
 tok:∀ t b n c,G.tok t=some (b,n,c)->∃ b' n' c',G'.tok t=some (b',n',c')/\n<=n'/\(n'=n->b'=b/\c'=c)
 own:∀ b L t,G.lim b=some L->G'.own b=some t->G.own b=some t
 defs:∀ r,G.defs r->G'.defs r
 B0:G'.B0=G.B0
 h0:G'.h0=G.h0
 os:w'.os=w.os
 tape:w'.tape=w.tape
 output:w'.output=w.output
 size:w.heap.size<=w'.heap.size
 res:∀ id r,G.res id=some r->G'.res id=some r
theorem Evo.refl(G:Gh)(w:World):Evo G w G w :=
 ⟨fun _ _ h=>h,fun b L h=>⟨L,h,Nat.le_refl _,fun _ _=>rfl⟩,fun t b n c h=>⟨b,n,c,h,Nat.le_refl _,fun _=>⟨rfl,rfl⟩⟩,
  fun _ _ _ _ h=>h,fun _ h=>h,rfl,rfl,rfl,rfl,rfl,Nat.le_refl _,fun _ _ h=>h⟩
theorem Evo.trans{G1 w1 G2 w2 G3 w3}(h:Evo G1 w1 G2 w2)(k:Evo G2 w2 G3 w3):Evo G1 w1 G3 w3 where
 loc id b e:=k.loc _ _ (h.loc _ _ e)
 lim b L e:=by
  obtain⟨L2,e2,l2,c2⟩:=h.lim _ _ e;obtain⟨L3,e3,l3,c3⟩:=k.lim _ _ e2;exact⟨L3,e3,Nat.le_trans l2 l3,fun i hi=>(c3 i (Nat.lt_of_lt_of_le hi l2)).trans (c2 i hi)⟩
 tok t b n c e:=by
  obtain⟨b2,n2,c2,e2,l2,q2⟩:=h.tok _ _ _ _ e;obtain⟨b3,n3,c3,e3,l3,q3⟩:=k.tok _ _ _ _ e2;refine⟨b3,n3,c3,e3,Nat.le_trans l2 l3,fun hn=>?_⟩;have:n2=n:=by omega
  obtain⟨a1,a2⟩:=q2 this;obtain⟨a3,a4⟩:=q3 (by omega);exact⟨a3.trans a1,a4.trans a2⟩
 own b L t e e3:=by
  obtain⟨L2,e2,_,_⟩:=h.lim _ _ e;exact h.own _ _ _ e (k.own _ _ _ e2 e3)
 defs r e:=k.defs _ (h.defs _ e)
 B0:=k.B0.trans h.B0
 h0:=k.h0.trans h.h0
 os:=k.os.trans h.os
 tape:=k.tape.trans h.tape
 output:=k.output.trans h.output
 size:=Nat.le_trans h.size k.size
 res id r e:=k.res _ _ (h.res _ _ e)
theorem kH.mono{G w G' w' full tk n base cap}(he:Evo G w G' w')(h:kH G full tk n base cap):kH G' full tk n base cap:=by
 obtain⟨h1,h2,h3⟩:=h;refine⟨h1,h2,fun t ht=>?_⟩;obtain⟨b,m,c,e1,e2,e3⟩:=h3 t ht;obtain⟨b',m',c',e1',l,q⟩:=he.tok _ _ _ _ e1;refine⟨b',m',c',e1',Nat.le_trans e2 l,fun hf hm=>?_⟩;have:m=n:=by omega
 obtain⟨q1,q2⟩:=q (by omega);obtain⟨r1,r2⟩:=e3 hf this;exact⟨q1.trans r1,q2.trans r2⟩
theorem LitAt.cellOf{G w xs tk b o sz}(h:LitAt G w xs tk b o sz){i:Nat}{x:AV}{j:Nat}{c:AV}(hx:xs[i]? = some x)(hc:x.cells[j]? = some c):
  i*sz+j<xs.length*sz:=by
 have hi:i<xs.length:=(List.getElem?_eq_some_iff.1 hx).1;have hj:j<sz:=by rw[<-h.size i x hx];exact (List.getElem?_eq_some_iff.1 hc).1
 calc i*sz+j<i*sz+sz:=by omega
  _=(i+1)*sz:=by rw[Nat.add_mul];omega
  _<=xs.length*sz:=Nat.mul_le_mul_right _ hi
theorem LitAt.mono{G w G' w' xs tk b o sz}(he:Evo G w G' w')(h:LitAt G w xs tk b o sz):LitAt G' w' xs tk b o sz:=by
 obtain⟨L,hL,hle⟩:=h.lim;obtain⟨L',hL',hle',hcell⟩:=he.lim _ _ hL;refine⟨⟨L',hL',by omega⟩,fun t ht=>h.own t (he.own _ _ _ hL ht),h.size,fun k hk=>?_⟩;rw[hcell _ (by omega)];exact h.cells k hk
theorem LitAt.same{G w G' w' xs tk b o sz}(he:Evo G w G' w')(h:LitAt G w xs tk b o sz){i:Nat}{x:AV}{j:Nat}{c:AV}{u:Value}(hx:xs[i]? = some x)(hc:x.cells[j]? = some c)(hu:w'.cell? ⟨b,o+(i*sz+j),none⟩=some u):w.cell? ⟨b,o+(i*sz+j),none⟩=some u:=by
 obtain⟨L,hL,hle⟩:=h.lim;obtain⟨L',hL',hle',hcell⟩:=he.lim _ _ hL;have:=h.cellOf hx hc;rw[<-hcell _ (by omega)];exact hu
theorem RelV.mono{G w G' w' a v}(he:Evo G w G' w')(h:RelV G w a v):RelV G' w' a v:=by
 induction h with
 |undef v=>exact .undef v
 |int k n=>exact .int k n
 |bool b=>exact .bool b
 |str s=>exact .str s
 |func h1 h2 _ _ h3 h4=>exact .func h1 h2 h3 h4
 |nilFunc=>exact .nilFunc
 |yield h=>exact .yield (he.loc _ _ h)
 |ptr h=>exact .ptr (he.loc _ _ h)
 |nilPtr=>exact .nilPtr
 |lptr ht hi hl _ ih =>
  refine .lptr (fun t e=>?_) hi (hl.mono he) fun i x j c u hx hc hu=>ih i x j c u hx hc (hl.same he hx hc hu)
  obtain⟨⟨b,n,c⟩,hp⟩:=ht t e;obtain⟨b',n',c',e',_⟩:=he.tok _ _ _ _ hp;exact⟨_,e'⟩
 |nil ht hb=>exact .nil (ht.mono he) hb
 |lit ht hl _ ih=>exact .lit (ht.mono he) (hl.mono he) fun i x j c u hx hc hu=>ih i x j c u hx hc (hl.same he hx hc hu)
 |ref h hb hc hn=>exact .ref (he.loc _ _ h) hb hc hn
 |map h=>exact .map (he.loc _ _ h)
 |nilMap=>exact .nilMap
 |agg h _ ih=>exact .agg h ih
 |tuple h _ ih=>exact .tuple h ih
theorem dS.mono{G w G' w' n env tmps}(he:Evo G w G' w')(h:dS G w n env tmps):dS G' w' n env tmps :=
 ⟨h.1,fun t=>(h.2 t).mono he⟩
theorem fE.mono{P h G w G' w' x b}(he:Evo G w G' w')(hb:w'.heap[b]? = w.heap[b]?)(hx:fE P h G w x b):fE P h G' w' x b:=by
 cases x with
 |cells cs =>
  obtain⟨vs,T,e,l,r⟩:=hx;exact⟨vs,T,hb.trans e,l,fun i a v h1 h2=>(r i a v h1 h2).mono he⟩
 |map es =>
  obtain⟨ents,e,l,q,r⟩:=hx;exact⟨ents,hb.trans e,l,q,fun i p e h1 h2=>⟨(r i p e h1 h2).1.mono he,(r i p e h1 h2).2.mono he⟩⟩
 |tok _ _ _=>exact hx
 |siter s pos=>exact hb.trans hx
 |miter m n left last =>
  obtain⟨bm,seen,stepped,h1,h2,h3⟩:=hx;exact⟨bm,seen,stepped,he.loc _ _ h1,hb.trans h2,h3⟩
 |loop st pend env ps a c =>
  obtain⟨l,n,h1,h2,h3,h4,h5,h6,h7,h8,h9⟩:=hx;exact⟨l,n,hb.trans h1,h2,h3,h4,h5,h6,h7,h8.mono he,h9⟩
 |dead=>trivial
variable {P:Program} {hh:String->Bool} {G:Gh} {w:World} {σ:St}
theorem RelV.cell{a:AV}{v:Value}(h:RelV G w a v)(hc:a.cell=true):v.oneCell'=true/\v.cells = #[v]:=by
 cases h<;>first|(simp[AV.cell] at hc;done)|exact⟨rfl,rfl⟩
theorem RelV.cells{a:AV}{v:Value}(h:RelV G w a v)(hc:a.cells.all (·.cell)=true):
  v.cells.size=a.cells.length/\(∀ (i:Nat) (x:AV) (u:Value),a.cells[i]? = some x->v.cells[i]? = some u->RelV G w x u)/\∀ u∈v.cells.toList,u.oneCell'=true:=by
 have one:∀ {a:AV} {v:Value},RelV G w a v->a.cells=[a]->a.cell=true ->
   v.cells.size=a.cells.length/\(∀ (i:Nat) (x:AV) (u:Value),a.cells[i]? = some x->v.cells[i]? = some u->RelV G w x u)/\∀ u∈v.cells.toList,u.oneCell'=true:=by
  intro a v h hs hc;obtain⟨h1,h2⟩:=h.cell hc;refine⟨by rw[h2,hs];rfl,fun i x u hx hu=>?_,fun u hu=>?_⟩
  ·rw[hs] at hx;rw[h2] at hu;cases i with
   |zero=>simp at hx hu;subst hx;subst hu;exact h
   |succ i=>simp at hx
  ·rw[h2] at hu;simp at hu;subst hu;exact h1
 cases h with
 |agg hs hr =>
  refine⟨hs,hr,fun u hu=>?_⟩;obtain⟨i,hi,rfl⟩:=List.getElem_of_mem hu;simp only[AV.cells,List.all_eq_true] at hc;simp only[Value.cells,Array.length_toList] at hi;have hi':i<(_:List AV).length:=hs▸hi;have hx:=hr i _ _ (List.getElem?_eq_getElem hi') (Array.getElem?_eq_getElem hi);simpa[Value.cells] using (hx.cell (hc _ (List.getElem_mem hi'))).1
 |tuple hs hr=>simp[AV.cells,AV.cell] at hc
 |undef v=>simp[AV.cells,AV.cell] at hc
 |int=>exact one (.int _ _) rfl rfl
 |bool=>exact one (.bool _) rfl rfl
 |str=>exact one (.str _) rfl rfl
 |func h1 h2 h3 h4=>exact one (.func h1 h2 h3 h4) rfl rfl
 |nilFunc=>exact one .nilFunc rfl rfl
 |yield h=>exact one (.yield h) rfl rfl
 |ptr h=>exact one (.ptr h) rfl rfl
 |nilPtr=>exact one .nilPtr rfl rfl
 |lptr h1 h2 h3 h4=>exact one (.lptr h1 h2 h3 h4) rfl rfl
 |nil h hb=>exact one (.nil h hb) rfl rfl
 |lit h1 h2 h3=>exact one (.lit h1 h2 h3) rfl rfl
 |ref h1 h2 h3 h4=>exact one (.ref h1 h2 h3 h4) rfl rfl
 |map h=>exact one (.map h) rfl rfl
 |nilMap=>exact one .nilMap rfl rfl
theorem cV(w:World)(o:Obj)(k:Nat):(w.alloc o).heap[k]? = if k=w.heap.size then some o else w.heap[k]?:=by
 show (w.heap.push o)[k]? = _
 rw[Array.getElem?_push]
theorem AP(w:World)(o:Obj)(a:Addr)(h:a.block<w.heap.size):(w.alloc o).cell? a=w.cell? a:=World.cell?_alloc_lt w o a h
theorem nZ(h:RelS P hh G w σ){b L:Nat}(e:G.lim b=some L):b<w.heap.size:=by
 obtain⟨vs,T,fr,hb,_⟩:=h.lim _ _ e;exact (Array.getElem?_eq_some_iff.1 hb).1
theorem lS:Evo G w G w.drew :=
 ⟨fun _ _ h=>h,fun b L h=>⟨L,h,Nat.le_refl _,fun _ _=>rfl⟩,fun t b n c h=>⟨b,n,c,h,Nat.le_refl _,fun _=>⟨rfl,rfl⟩⟩,
  fun _ _ _ _ h=>h,fun _ h=>h,rfl,rfl,rfl,rfl,rfl,Nat.le_refl _,fun _ _ h=>h⟩
theorem RelS.drew(h:RelS P hh G w σ):RelS P hh G w.drew σ where
 lt:=h.lt
 blk id b x e1 e2:=(h.blk id b x e1 e2).mono lS rfl
 inj:=h.inj
 fresh:=h.fresh
 lim:=h.lim
 tok:=h.tok
 own:=h.own
 defs:=h.defs
 base:=h.base
 size:=h.size
 res:=h.res
theorem iN(h:RelS P hh G w σ)(o:Obj):Evo G w G (w.alloc o) where
 loc _ _ h:=h
 lim b L e:=⟨L,e,Nat.le_refl _,fun k _=>AP w o _ (nZ h e)⟩
 tok t b n c h:=⟨b,n,c,h,Nat.le_refl _,fun _=>⟨rfl,rfl⟩⟩
 own _ _ _ _ h:=h
 defs _ h:=h
 B0:=rfl
 h0:=rfl
 os:=rfl
 tape:=rfl
 output:=rfl
 size:=by simp
 res _ _ h:=h
theorem RelS.alloc(h:RelS P hh G w σ)(o:Obj):RelS P hh G (w.alloc o) σ where
 lt:=h.lt
 blk id b x e1 e2:=(h.blk id b x e1 e2).mono (iN h o) (by rw[cV,if_neg];have:=(h.fresh _ _ e1).2.1;omega)
 inj:=h.inj
 fresh id b e:=by
  obtain⟨a,b,c⟩:=h.fresh id b e;exact⟨a,by simp;omega,c⟩
 lim b L e:=by
  obtain⟨vs,T,fr,hb,l⟩:=h.lim _ _ e;exact⟨vs,T,fr,by rw[cV,if_neg (by have:=nZ h e;omega)];exact hb,l⟩
 tok t b n c e:=by
  obtain⟨sz,ex,h1,h2,h3,h4⟩:=h.tok _ _ _ _ e;refine⟨sz,ex,h1,h2,h3,fun hx=>?_⟩;obtain⟨bb,vs,T,q1,q2,q3,q4,q5,q6⟩:=h4 hx;exact⟨bb,vs,T,q1,q2,q3,q4,by rw[cV,if_neg (by have:=nZ h q3;omega)];exact q5,q6⟩
 own b t e:=by
  obtain⟨h1,h2⟩:=h.own b t e;exact⟨by simp;omega,h2⟩
 defs r e:=by
  obtain⟨h1,h2,h3⟩:=h.defs r e;refine⟨?_,h2,h3⟩;rw[cV,if_neg]
  ·exact h1
  ·have:=(Array.getElem?_eq_some_iff.1 h1).1;omega
 base b hb:=by rw[cV,if_neg (by have:=h.size;omega)];exact h.base b hb
 size:=by have:=h.size;simp;omega
 res:=h.res
def Gh.withLoc(G:Gh)(id b:Nat):Gh:={ G with loc:=fun i=>if i=id then some b else G.loc i }
theorem kC{id b:Nat}(hid:G.loc id=none):Evo G w (G.withLoc id b) w where
 loc i c e:=by
  have:i≠id:=fun h=>by rw[h,hid] at e;cases e
  simp[Gh.withLoc,this,e]
 lim b L e:=⟨L,e,Nat.le_refl _,fun _ _=>rfl⟩
 tok t b n c h:=⟨b,n,c,h,Nat.le_refl _,fun _=>⟨rfl,rfl⟩⟩
 own _ _ _ _ h:=h
 defs _ h:=h
 B0:=rfl
 h0:=rfl
 os:=rfl
 tape:=rfl
 output:=rfl
 size:=Nat.le_refl _
 res _ _ h:=h
theorem RelS.withLoc{id b:Nat}{x:ABlk}(h:RelS P hh G w σ)(hres:G.res id=none)(hid:G.loc id=none)(hx:σ[id]? = some x)(hr:fE P hh (G.withLoc id b) w x b)(h1:G.B0<=b)(h2:b<w.heap.size)(h3:G.lim b=none)(h4:¬G.defs b)(h5:∀ i,G.loc i≠some b):RelS P hh (G.withLoc id b) w σ where
 lt i c e:=by
  by_cases hi:i=id
  ·subst hi;exact (List.getElem?_eq_some_iff.1 hx).1
  ·simp[Gh.withLoc,hi] at e;exact h.lt i c e
 blk i c y e1 e2:=by
  by_cases hi:i=id
  ·subst hi;simp[Gh.withLoc] at e1;subst e1;rw[hx] at e2;cases e2;exact hr
  ·simp[Gh.withLoc,hi] at e1;exact (h.blk i c y e1 e2).mono (kC hid) rfl
 inj i j c e1 e2:=by
  by_cases hi:i=id<;>by_cases hj:j=id
  ·rw[hi,hj]
  ·simp[Gh.withLoc,hi] at e1;simp[Gh.withLoc,hj] at e2;subst e1;exact absurd e2 (h5 j)
  ·simp[Gh.withLoc,hi] at e1;simp[Gh.withLoc,hj] at e2;subst e2;exact absurd e1 (h5 i)
  ·simp[Gh.withLoc,hi] at e1;simp[Gh.withLoc,hj] at e2;exact h.inj i j c e1 e2
 fresh i c e:=by
  by_cases hi:i=id
  ·simp[Gh.withLoc,hi] at e;subst e;exact⟨h1,h2,h3,h4⟩
  ·simp[Gh.withLoc,hi] at e;exact h.fresh i c e
 lim:=h.lim
 tok:=h.tok
 own:=h.own
 defs:=h.defs
 base:=h.base
 size:=h.size
 res i r e:=by
  have hi:i≠id:=fun hi=>by subst hi;rw[show (G.withLoc i b).res i=G.res i from rfl,hres] at e;cases e
  have:=h.res i r e;simpa[Gh.withLoc,hi] using this
theorem RelS.more(h:RelS P hh G w σ)(τ:St):RelS P hh G w (σ++τ) where
 lt i c e:=by have:=h.lt i c e;simp;omega
 blk i c y e1 e2:=h.blk i c y e1 (by rw[List.getElem?_append_left (h.lt i c e1)] at e2;exact e2)
 inj:=h.inj
 fresh:=h.fresh
 lim:=h.lim
 tok t b n c e:=by
  obtain⟨sz,ex,h1,rest⟩:=h.tok t b n c e;exact⟨sz,ex,by rw[List.getElem?_append_left (List.getElem?_eq_some_iff.1 h1).1];exact h1,rest⟩
 own:=h.own
 defs:=h.defs
 base:=h.base
 size:=h.size
 res i r e:=by
  obtain⟨q1,q2,q3⟩:=h.res i r e;exact⟨q1,by simp;omega,fun cs hc=>by rw[List.getElem?_append_left q2];exact q3 cs hc⟩
theorem pZ(h:RelS P hh G w σ){id:Nat}(hid:σ.length<=id):G.loc id=none:=by
 cases e:G.loc id with
 |none=>rfl
 |some b=>have:=h.lt _ _ e;omega
theorem F0(h:RelS P hh G w σ){id:Nat}(hid:σ.length<=id):G.res id=none:=by
 cases e:G.res id with
 |none=>rfl
 |some b=>have:=(h.res _ _ e).2.1;omega
theorem P9(h:RelS P hh G w σ){b:Nat}(hb:w.heap.size<=b)(i:Nat):G.loc i≠some b:=fun e=>by
 have:=(h.fresh _ _ e).2.1;omega
theorem RelS.new{x:ABlk}{o:Obj}(h:RelS P hh G w σ)(hr:fE P hh (G.withLoc σ.length w.heap.size) (w.alloc o) x w.heap.size):
  RelS P hh (G.withLoc σ.length w.heap.size) (w.alloc o) (σ++[x])/\Evo G w (G.withLoc σ.length w.heap.size) (w.alloc o):=by
 have h1:=(h.alloc o).more [x];have hl:G.loc σ.length=none:=pZ h (Nat.le_refl _);refine⟨h1.withLoc (F0 h (Nat.le_refl _)) hl (by simp) hr h.size (by simp) ?_ ?_ (fun i=>P9 h (Nat.le_refl _) i),(iN h o).trans (kC hl)⟩
 ·cases e:G.lim w.heap.size with
  |none=>rfl
  |some L=>have:=nZ h e;omega
 ·intro e;have:=(Array.getElem?_eq_some_iff.1 (h.defs _ e).1).1;omega
theorem RelS.place{x:ABlk}{o:Obj}{id:Nat}(h:RelS P hh G w σ)(hres:G.res id=none)(hid:G.loc id=none)(hx:σ[id]? = some x)(hr:fE P hh (G.withLoc id w.heap.size) (w.alloc o) x w.heap.size):
  RelS P hh (G.withLoc id w.heap.size) (w.alloc o) σ/\Evo G w (G.withLoc id w.heap.size) (w.alloc o):=by
 refine⟨(h.alloc o).withLoc hres hid hx hr h.size (by simp) ?_ ?_ (fun i=>P9 h (Nat.le_refl _) i),(iN h o).trans (kC hid)⟩
 ·cases e:G.lim w.heap.size with
  |none=>rfl
  |some L=>have:=nZ h e;omega
 ·intro e;have:=(Array.getElem?_eq_some_iff.1 (h.defs _ e).1).1;omega
def Gh.withLim(G:Gh)(b n:Nat):Gh:={ G with lim:=fun i=>if i=b then some n else G.lim i }
theorem RelS.newLit(h:RelS P hh G w σ)(cs:Array Value)(T:TypeId):
  RelS P hh (G.withLim w.heap.size cs.size) (w.alloc (.cells cs T)) σ/\Evo G w (G.withLim w.heap.size cs.size) (w.alloc (.cells cs T)):=by
 have hn:G.lim w.heap.size=none:=by
  cases e:G.lim w.heap.size with
  |none=>rfl
  |some L=>have:=nZ h e;omega
 have ho:∀ t,G.own w.heap.size≠some t:=fun t e=>by have:=(h.own _ _ e).1;omega
 have he0:Evo G (w.alloc (.cells cs T)) (G.withLim w.heap.size cs.size) (w.alloc (.cells cs T)):=by
  refine⟨fun _ _ h=>h,fun b L e=>⟨L,?_,Nat.le_refl _,fun _ _=>rfl⟩,fun t b n c h=>⟨b,n,c,h,Nat.le_refl _,fun _=>⟨rfl,rfl⟩⟩,
   fun _ _ _ _ h=>h,fun _ h=>h,rfl,rfl,rfl,rfl,rfl,Nat.le_refl _,fun _ _ h=>h⟩
  have:b≠w.heap.size:=fun e'=>by rw[e',hn] at e;cases e
  simp[Gh.withLim,this,e]
 have h1:=h.alloc (.cells cs T)
 refine⟨⟨h.lt,fun id b x e1 e2=>(h1.blk id b x e1 e2).mono he0 rfl,h.inj,fun id b e=>?_,fun b L e=>?_,fun t b n c e=>?_,h1.own,fun r e=>?_,h1.base,h1.size,h1.res⟩,
  (iN h _).trans he0⟩
 ·obtain⟨q1,q2,q3,q4⟩:=h1.fresh id b e;have:b≠w.heap.size:=by have:=(h.fresh id b e).2.1;omega
  exact⟨q1,q2,by simp[Gh.withLim,this,q3],q4⟩
 ·by_cases hb:b=w.heap.size
  ·subst hb;simp[Gh.withLim] at e;subst e;exact⟨cs,T,(0,0),by rw[cV,if_pos rfl],Nat.le_refl _,fun hlt=>absurd hlt (Nat.not_lt.2 h.size)⟩
  ·simp[Gh.withLim,hb] at e;exact h1.lim b L e
 ·obtain⟨sz,ex,q1,q2,q3,q4⟩:=h1.tok t b n c e;refine⟨sz,ex,q1,q2,q3,fun hx=>?_⟩;obtain⟨bb,vs,T',r1,r2,r3,r4,r5,r6⟩:=q4 hx;have:bb≠w.heap.size:=fun e'=>by rw[e'] at r2;exact ho _ r2
  exact⟨bb,vs,T',r1,r2,by simp[Gh.withLim,this,r3],r4,r5,r6⟩
 ·obtain⟨q1,q2,q3⟩:=h1.defs r e;have:r≠w.heap.size:=by have:=(Array.getElem?_eq_some_iff.1 (h.defs _ e).1).1;omega
  exact⟨q1,q2,by simp[Gh.withLim,this,q3]⟩
structure Part (b:Nat) (w w':World):Prop where
 os:w'.os=w.os
 tape:w'.tape=w.tape
 output:w'.output=w.output
 size:w'.heap.size=w.heap.size
 other:∀ k,k≠b->w'.heap[k]? = w.heap[k]?
theorem Part.cell{b:Nat}{w w':World}(h:Part b w w'){a:Addr}(ha:a.block≠b):w'.cell? a=w.cell? a:=by
 simp[World.cell?,h.other _ ha]
theorem lX{b:Nat}{w w':World}(hp:Part b w w')(hb:G.lim b=none):Evo G w G w' where
 loc _ _ h:=h
 lim c L e:=⟨L,e,Nat.le_refl _,fun k _=>hp.cell (fun e'=>by simp at e';rw[e',hb] at e;cases e)⟩
 tok t b n c h:=⟨b,n,c,h,Nat.le_refl _,fun _=>⟨rfl,rfl⟩⟩
 own _ _ _ _ h:=h
 defs _ h:=h
 B0:=rfl
 h0:=rfl
 os:=hp.os
 tape:=hp.tape
 output:=hp.output
 size:=Nat.le_of_eq hp.size.symm
 res _ _ h:=h
theorem RelS.write{b id:Nat}{w':World}{x y:ABlk}(h:RelS P hh G w σ)(hl:G.loc id=some b)(hp:Part b w w')(hx:σ[id]? = some x)(ht:∀ a b c,x≠.tok a b c)(hr:fE P hh G w' y b):RelS P hh G w' (σ.set id y)/\Evo G w G w':=by
 obtain⟨f1,f2,f3,f4⟩:=h.fresh _ _ hl;have he:=lX hp f3;refine⟨⟨fun i c e=>by have:=h.lt i c e;simpa using this,fun i c z e1 e2=>?_,h.inj,fun i c e=>?_,fun c L e=>?_,fun t c n k e=>?_,fun c t e=>?_,fun r e=>?_,fun c hc=>?_,?_,fun i r e=>?_⟩,he⟩
 ·by_cases hi:i=id
  ·subst hi;rw[hl] at e1;cases e1;rw[List.getElem?_set_self (h.lt _ _ hl)] at e2;cases e2;exact hr
  ·rw[List.getElem?_set_ne (fun e=>hi e.symm)] at e2;refine (h.blk i c z e1 e2).mono he (hp.other _ fun e=>hi ?_);subst e;exact h.inj _ _ _ e1 hl
 ·obtain⟨a,b,c⟩:=h.fresh i c e;exact⟨a,by rw[hp.size];exact b,c⟩
 ·obtain⟨vs,T,fr,q,l⟩:=h.lim c L e;refine⟨vs,T,fr,?_,l⟩;rw[hp.other _ fun e'=>by rw[e',f3] at e;cases e];exact q
 ·obtain⟨sz,ex,q1,q2,q3,q4⟩:=h.tok t c n k e;refine⟨sz,ex,?_,q2,q3,fun hx'=>?_⟩
  ·rw[List.getElem?_set_ne]
   ·exact q1
   ·intro e';subst e';rw[hx] at q1;cases q1;exact ht _ _ _ rfl
  ·obtain⟨bb,vs,T,r1,r2,r3,r4,r5,r6⟩:=q4 hx';refine⟨bb,vs,T,r1,r2,r3,r4,?_,r6⟩;rw[hp.other _ fun e'=>by rw[e',f3] at r3;cases r3];exact r5
 ·obtain⟨q1,q2⟩:=h.own c t e;exact⟨by rw[hp.size];exact q1,q2⟩
 ·obtain⟨q1,q2,q3⟩:=h.defs r e;refine⟨?_,q2,q3⟩;rw[hp.other _ fun e'=>by rw[e'] at e;exact f4 e];exact q1
 ·rw[hp.other _ (by omega)];exact h.base c hc
 ·rw[hp.size];exact h.size
 ·obtain⟨q1,q2,q3⟩:=h.res i r e;have hi:i≠id:=fun hi=>by subst hi;rw[hl] at q1;cases q1
  exact⟨q1,by simpa using q2,fun cs hc=>by rw[List.getElem?_set_ne (Ne.symm hi)];exact q3 cs hc⟩
theorem xC(w:World)(g:Nat)(cs:Array Value):Part g w (w.setRow g cs) :=
 ⟨rfl,rfl,rfl,by simp,fun k hk=>setRow_other w g k cs fun e=>hk (e▸rfl)⟩
theorem iM(w:World)(g:Nat)(o:Obj):Part g w { w with heap:=w.heap.setIfInBounds g o } :=
 ⟨rfl,rfl,rfl,by simp,fun k hk=>by simp[Array.getElem?_setIfInBounds_ne (Ne.symm hk)]⟩
end Go.Am
namespace Go.Am
variable {P:Program} {hh:String->Bool} {G:Gh} {w:World} {σ:St} {env:Env}
theorem uU{v:Value}{a:AV}(h:uQ v=some a):RelV G w a v:=by
 unfold uQ at h;split at h<;>first|cases h|skip
 ·exact .bool _
 ·exact .int _ _
 ·exact .str _
 ·exact .nilPtr
 ·exact .nil ⟨Nat.le_refl _,fun _=>rfl,fun t e=>by cases e⟩ fun _=>rfl
 ·exact .nilMap
 ·exact .nilFunc
theorem sY:∀ {vs:List Value} {az:List AV},nR vs=some az->vs.length=az.length/\∀ (i:Nat) (a:AV) (v:Value),az[i]? = some a->vs[i]? = some v->RelV G w a v
 |[],az,h=>by simp[nR] at h;subst h;exact⟨rfl,fun i a v h=>by simp at h⟩
 |v::vs,az,h=>by
  simp only[nR] at h;split at h
  ·rename_i a b h1 h2;cases h;obtain⟨l,r⟩:=sY h2;refine⟨by simp[l],fun i x u hx hu=>?_⟩;cases i with
   |zero=>simp at hx hu;subst hx;subst hu;exact uU h1
   |succ i=>simp at hx hu;exact r i x u hx hu
  ·cases h
theorem qH{v:Value}{a:AV}(h:ofValue v=some a):RelV G w a v:=by
 unfold ofValue at h;split at h
 ·rename_i cs;split at h
  ·rename_i l hl;cases h;obtain⟨q,r⟩:=sY hl;exact .agg (by simpa using q) fun i a v h1 h2=>r i a v h1 (by simpa using h2)
  ·cases h
 ·rename_i vs;split at h
  ·rename_i hs;cases h;exact .tuple (by simpa using hs) fun i a v h1 _=>by simp at h1
  ·cases h
 ·exact uU h
theorem bR{n:Nat}{a:Act}{x:Operand}{x':AOpd}(hx:opd x=some x')(hE:dS G w n env a.tmps):RelV G w (x'.ev env) (a.eval x):=by
 cases x with
 |tmp t=>simp[opd] at hx;subst hx;exact hE.2 t
 |const v =>
  simp only[opd] at hx;split at hx
  ·rename_i b hb;cases hx;exact qH hb
  ·cases hx
 |global g=>simp[opd] at hx
 |func f=>simp[opd] at hx;subst hx;exact .func rfl rfl (fun i a v h=>by simp at h) (fun i a v h=>by simp at h)
theorem KZ{n:Nat}{a:Act}:∀ {xs:List Operand} {ys:List AOpd},yV xs=some ys->dS G w n env a.tmps ->
  xs.length=ys.length/\∀ (i:Nat) (y:AV) (v:Value),(ys.map (·.ev env))[i]? = some y->(xs.map a.eval)[i]? = some v->RelV G w y v
 |[],ys,h,_=>by simp[yV] at h;subst h;exact⟨rfl,fun i a v h=>by simp at h⟩
 |x::xs,ys,h,hE=>by
  simp only[yV] at h;split at h
  ·rename_i a b h1 h2;cases h;obtain⟨l,r⟩:=KZ h2 hE;refine⟨by simp[l],fun i y u hy hu=>?_⟩;cases i with
   |zero=>simp at hy hu;subst hy;subst hu;exact bR h1 hE
   |succ i=>simp only[List.map_cons,List.getElem?_cons_succ] at hy hu;exact r i y u hy hu
  ·cases h
theorem dU{t:TypeId}{n:Nat}(h:eD P t=some n)(w:World):(sizeOf t).run P w = .ok n w/\0<n/\∃ i,P.info? t=some i/\i.size=n:=by
 unfold eD at h;split at h
 ·rename_i i hi;split at h
  ·cases h
  ·cases h;exact⟨by simp[sizeOf,typeInfo,hi],by omega,i,hi,rfl⟩
 ·cases h
theorem iS{t:TypeId}{b:Bool}(h:eB P t=some b)(w:World):(isAgg t).run P w = .ok b w:=by
 unfold eB at h;unfold isAgg;split at h
 ·rename_i hu;cases h;simp[run_underlying hu]
 ·rename_i hu;cases h;simp[run_underlying hu]
 ·rename_i d h1 h2 hu;cases h;rw[Sem.run_bind,run_underlying hu];cases d<;>simp_all
 ·cases h
theorem pJ{t:TypeId}{sh:Option Nat}(h:mC P t=some sh):
  (sh=none/\eB P t=some false/\eD P t=some 1)\/(∃ n,sh=some n/\eB P t=some true/\eD P t=some n):=by
 unfold mC at h;split at h
 ·rename_i n h1 h2;cases h;exact .inr ⟨n,rfl,h1,h2⟩
 ·rename_i h1 h2;cases h;exact .inl ⟨rfl,h1,h2⟩
 ·cases h
theorem gQ(b o i:Nat):(⟨b,o,none⟩:Addr).add i=⟨b,o+i,none⟩:=by unfold Addr.add;split<;>simp_all
def t8(G:Gh)(w:World)(cs:List AV)(b o:Nat):Prop :=
 ∀ (i:Nat) (c:AV),cs[i]? = some c->∃ u,w.cell? ⟨b,o+i,none⟩=some u/\RelV G w c u
theorem t8.list{cs:List AV}{b o:Nat}(h:t8 G w cs b o):
  ∃ vs:List Value,vs.length=cs.length/\(∀ (j:Nat) (v:Value),vs[j]? = some v->w.cell? ((⟨b,o,none⟩:Addr).add j)=some v) /\
   ∀ (i:Nat) (c:AV) (v:Value),cs[i]? = some c->vs[i]? = some v->RelV G w c v:=by
 induction cs generalizing o with
 |nil=>exact⟨[],rfl,fun j v h=>by simp at h,fun i c v h=>by simp at h⟩
 |cons c cs ih =>
  obtain⟨u,hu,hr⟩:=h 0 c rfl;obtain⟨vs,l,h1,h2⟩:=ih (o:=o+1) fun i d hd=>by
   obtain⟨u,q,r⟩:=h (i+1) d (by simpa using hd);exact⟨u,by rw[show o+1+i=o+(i+1) from by omega];exact q,r⟩
  refine⟨u::vs,by simp[l],fun j v hj=>?_,fun i d v hd hv=>?_⟩
  ·cases j with
   |zero=>simp at hj;subst hj;rw[gQ];exact hu
   |succ j=>simp at hj;have:=h1 j v hj;rw[gQ] at this ⊢;rw[show o+(j+1)=o+1+j from by omega];exact this
  ·cases i with
   |zero=>simp at hd hv;subst hd;subst hv;exact hr
   |succ i=>simp at hd hv;exact h2 i d v hd hv
theorem t8.sub{cs:List AV}{b o:Nat}(h:t8 G w cs b o)(k n:Nat):t8 G w ((cs.drop k).take n) b (o+k):=by
 intro i c hc;rw[List.getElem?_take] at hc;split at hc
 ·rw[List.getElem?_drop] at hc;obtain⟨u,q,r⟩:=h _ _ hc;exact⟨u,by rw[Nat.add_assoc];exact q,r⟩
 ·cases hc
theorem xJ{t:TypeId}{sh:Option Nat}{cs:List AV}{b o off:Nat}{v:AV}(ht:mC P t=some sh)(hr:t8 G w cs b o)(hv:cU sh cs off=some v):
  ∃ u,(loadVar t ⟨b,o+off,none⟩).run P w = .ok u w/\RelV G w v u:=by
 rcases pJ ht with⟨rfl,h1,h2⟩|⟨n,rfl,h1,h2⟩
 ·simp only[cU] at hv;obtain⟨u,hu,r⟩:=hr _ _ hv;refine⟨u,?_,r⟩;simp[loadVar,iS h1,run_load,hu]
 ·simp only[cU] at hv;split at hv
  ·rename_i hle;cases hv;obtain⟨vs,l,h3,h4⟩:=(hr.sub off n).list;have hl:vs.length=n:=by rw[l];simp;omega
   have hrun:=run_loadCells_list (P:=P) w ⟨b,o+off,none⟩ vs h3;rw[hl] at hrun;obtain⟨hs,_⟩:=dU h2 w;refine⟨.agg vs.toArray,?_,.agg (by simp[l]) fun i a v e1 e2=>h4 i a v e1 (by simpa using e2)⟩;simp[loadVar,iS h1,hs,hrun]
  ·cases hv
theorem m6{id:Nat}{cs:List AV}{b:Nat}(h:RelS P hh G w σ)(hl:G.loc id=some b)(hc:aL σ id=some cs):t8 G w cs b 0:=by
 unfold aL at hc;split at hc
 ·rename_i ds he;cases hc;obtain⟨vs,T,e,l,r⟩:=h.blk _ _ _ hl he;intro i c hi;have h1:i<vs.size:=by have:=(List.getElem?_eq_some_iff.1 hi).1;omega
  refine⟨vs[i],?_,r i c _ hi (Array.getElem?_eq_getElem h1)⟩;rw[Nat.zero_add,cell_of_row w b i vs T (0,0) e];exact Array.getElem?_eq_getElem h1
 ·cases hc
theorem MY{xs:List AV}{tk:Option Nat}{b o sz i:Nat}{x:AV}(hl:LitAt G w xs tk b o sz)(hc:∀ (i:Nat) (x:AV) (j:Nat) (c:AV) (u:Value),xs[i]? = some x->x.cells[j]? = some c->w.cell? ⟨b,o+(i*sz+j),none⟩=some u->RelV G w c u)(hx:xs[i]? = some x):t8 G w x.cells b (o+i*sz):=by
 intro j c hj;have h1:=hl.cells _ (hl.cellOf hx hj);obtain⟨u,hu⟩:=Option.isSome_iff_exists.1 h1;exact⟨u,by rw[Nat.add_assoc];exact hu,hc i x j c u hx hj hu⟩
theorem uM{t:TypeId}{sh:Option Nat}{x v:AV}{u:Value}(hS:RelS P hh G w σ)(ht:mC P t=some sh)(hx:RelV G w x u)(h:gZ sh σ x=some v):
  ∃ a r,u = .pointer (some a)/\(loadVar t a).run P w = .ok r w/\RelV G w v r:=by
 unfold gZ at h;split at h
 ·rename_i id off;split at h
  ·rename_i cs hcs;cases hx with
   |ptr hl =>
    obtain⟨r,h1,h2⟩:=xJ ht (m6 hS hl hcs) h;rw[Nat.zero_add] at h1;exact⟨_,r,rfl,h1,h2⟩
  ·cases h
 ·rename_i xs i off tk;split at h
  ·rename_i y hy;cases hx with
   |lptr h1 h2 h3 h4 =>
    obtain⟨r,q1,q2⟩:=xJ ht (MY h3 h4 hy) h;exact⟨_,r,rfl,q1,q2⟩
  ·cases h
 ·cases h
theorem mU{cs vs cs':List AV}{off:Nat}(h:dF cs off vs=some cs'):
  off+vs.length<=cs.length/\cs'=cs.take off++vs++cs.drop (off+vs.length)/\cs'.length=cs.length:=by
 unfold dF at h;split at h
 ·rename_i hl;cases h;exact⟨hl,rfl,by simp;omega⟩
 ·cases h
theorem L7{cs vs:List AV}{cur us:List Value}{off:Nat}(hl:us.length=vs.length)(hle:off+vs.length<=cs.length)(hcur:cs.length<=cur.length)(h1:∀ (i:Nat) (a:AV) (v:Value),cs[i]? = some a->cur[i]? = some v->RelV G w a v)(h2:∀ (i:Nat) (a:AV) (v:Value),vs[i]? = some a->us[i]? = some v->RelV G w a v):
  ∀ (i:Nat) (a:AV) (v:Value),(cs.take off++vs++cs.drop (off+vs.length))[i]? = some a->(cur.take off++us++cur.drop (off+us.length))[i]? = some v->RelV G w a v:=by
 intro i a v ha hv;by_cases c1:i<off
 ·rw[List.append_assoc,List.getElem?_append_left (by simp;omega),List.getElem?_take,if_pos c1] at ha hv;exact h1 i a v ha hv
 ·by_cases c2:i<off+vs.length
  ·rw[List.append_assoc,List.getElem?_append_right (by simp;omega),List.getElem?_append_left (by simp;omega)] at ha hv;simp only[List.length_take] at ha hv;rw[show min off cs.length=off from by omega] at ha;rw[show min off cur.length=off from by omega] at hv;exact h2 _ a v ha hv
  ·rw[List.getElem?_append_right (by simp;omega)] at ha hv;simp only[List.length_append,List.length_take,List.getElem?_drop] at ha hv;rw[show off+vs.length+(i-(min off cs.length+vs.length))=i from by omega] at ha;rw[show off+us.length+(i-(min off cur.length+us.length))=i from by omega] at hv;exact h1 i a v ha hv
theorem qW{id b off:Nat}{cs cs' vs:List AV}{us:List Value}(hS:RelS P hh G w σ)(hl:G.loc id=some b)(hc:aL σ id=some cs)(hset:dF cs off vs=some cs')(hlen:us.length=vs.length)(hr:∀ (i:Nat) (a:AV) (v:Value),vs[i]? = some a->us[i]? = some v->RelV G w a v)(h1:∀ u∈us,u.oneCell'=true):
  ∃ w',(storeCells ⟨b,off,none⟩ us).run P w = .ok () w'/\RelS P hh G w' (σ.set id (.cells cs'))/\Evo G w G w':=by
 unfold aL at hc;split at hc
 ·rename_i ds he;cases hc;obtain⟨cur,T,e,l,r⟩:=hS.blk _ _ _ hl he;obtain⟨q1,q2,q3⟩:=mU hset;have hrun:=run_storeCells_at P b off T us 0 cur w e (by omega) h1;rw[Nat.add_zero] at hrun;refine⟨_,hrun,?_⟩;have hp:=xC w b (cur.toList.take off++us++cur.toList.drop (off+us.length)).toArray;have hev:=lX hp (hS.fresh _ _ hl).2.2.1;refine hS.write hl hp he (fun _ _ _ h=>by cases h) ⟨_,T,setRow_heap w b cur _ T _ e,?_,fun i a v ha hv=>?_⟩
  ·simp;omega
  ·refine RelV.mono hev ?_;rw[q2] at ha;exact L7 (cs:=_) (cur:=cur.toList) hlen q1 (by simpa using l) (fun i a v h3 h4=>r i a v h3 (by simpa using h4)) hr i a v ha (by simpa using hv)
 ·cases hc
theorem BS{t:TypeId}{n:Nat}{x y:AV}{u v:Value}{σ':St}(hS:RelS P hh G w σ)(ht:eD P t=some n)(hx:RelV G w x u)(hy:RelV G w y v)(h:i5 n σ x y=some σ'):
  ∃ a w',u = .pointer (some a)/\(storeVar t a v).run P w = .ok () w'/\RelS P hh G w' σ'/\Evo G w G w':=by
 unfold i5 at h;split at h
 ·rename_i id off;split at h
  ·rename_i hcond;simp only[Bool.and_eq_true,beq_iff_eq] at hcond;split at h
   ·rename_i cs hcs;split at h
    ·rename_i cs' hset;cases h;cases hx with
     |ptr hl =>
      obtain⟨k1,k2,k3⟩:=hy.cells hcond.2;obtain⟨w',e1,e2,e3⟩:=qW (us:=v.cells.toList) hS hl hcs hset (by simpa using k1) (fun i a v h3 h4=>k2 i a v h3 (by simpa using h4)) k3;refine⟨_,w',rfl,?_,e2,e3⟩;obtain⟨hs,_⟩:=dU ht w;have hne:¬v.cells.size≠n:=by rw[k1,hcond.1];simp
      simp only[storeVar,Sem.run_bind,hs,Result.andThen_ok,hne,if_false];exact e1
    ·cases h
   ·cases h
  ·cases h
 ·cases h
end Go.Am
