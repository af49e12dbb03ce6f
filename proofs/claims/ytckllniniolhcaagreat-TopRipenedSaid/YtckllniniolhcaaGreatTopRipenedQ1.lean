/- A part of the proof of TopRipened: an abstract machine, or what functions come to on it. -/
import GoSem.Dispatch
import Derived.RangeFuncLeaves
import Derived.OrdersIn
import Derived.Laws.AppendOwn
import Derived.Laws.CopyRow
import Derived.Laws.Rows
import Derived.Below
import Derived.Laws.Entries
open Nat (reduceLT reduceEqDiff reduceAdd reduceLeDiff reduceMul)
set_option linter.unusedVariables false
set_option linter.unusedSimpArgs false
set_option linter.defProp false
namespace Go.Am
theorem zz {a b:Prop} (x:a) (y:b):a∧b:=⟨x,y⟩
inductive AV where
 |undef
 |int (k:IntKind) (n:Int)
 |bool (b:Bool)
 |str (s:ByteArray)
 |func (f:FuncId) (first cap:List AV)
 |nilFunc
 |yield (id:Nat)
 |ptr (id off:Nat)
 |nilPtr
 /-- into the i-th element of a list,of the token's block -/
 |lptr (xs:List AV) (i off:Nat) (tk:Option Nat)
 /-- a slice that reads az a list;'full': its capacity is its length;'tk': the token of its block,if it is known to have one -/
 |lit (xs:List AV) (full:Bool) (tk:Option Nat)
 |ref (id off len sz:Nat)
 |map (id:Nat)
 |nilMap
 |agg (cells:List AV)
 |tuple (vs:List AV)
 deriving Inhabited
def AV.cells:AV->List AV
 |.agg cs=>cs
 |v=>[v]
def AV.cell:AV->Bool
 |.undef|.agg _|.tuple _=>false
 |_=>true
inductive SK where
 |i|b|s
 deriving DecidableEq,Repr,Inhabited
inductive EqTy where
 |one (k:SK)
 |agg (ks:List SK)
 deriving DecidableEq,Repr,Inhabited
abbrev Env:=List (Nat×AV)
def Env.get:Env->Nat->AV
 |[],_=>.undef
 |(k,v)::e,t=>if k=t then v else Env.get e t
def Env.put(e:Env)(d:Option Nat)(v:AV):Env :=
 match d with
 |some d=>(d,v)::e
 |none=>e
inductive AOpd where
 |t (n:Nat)
 |c (v:AV)
 deriving Inhabited
def AOpd.ev(e:Env):AOpd->AV
 |.t n=>Env.get e n
 |.c v=>v
inductive AOp where
 |mov (x:AOpd)
 |pick (c a b:AOpd)
 |alloc (zero:List AV)
 |box (n:Nat) (x:AOpd)
 |build (zero:List AV) (parts:List (Nat×Nat×AOpd))
 |mklit (sz:Nat) (xs:List AOpd)
 |mkref (sz:Nat) (xs:List AOpd)
 |load (sh:Option Nat) (x:AOpd)
 |store (n:Nat) (a x:AOpd)
 |nilCheck (x:AOpd)
 |bin (op:BinOp) (x y:AOpd)
 |eql (sh:EqTy) (neg:Bool) (x y:AOpd)
 |not (x:AOpd)
 |neg (x:AOpd)
 |conv (k:IntKind) (x:AOpd)
 |mkfun (f:FuncId) (first cap:List AOpd)
 |mkmap
 |mkslice (zero:List AV) (bytes:Nat) (l c:AOpd)
 |slicev (sz:Nat) (x:AOpd) (lo hi mx:Option AOpd)
 |slicea (n sz:Nat) (x:AOpd) (lo hi:Option AOpd)
 |faddr (x:AOpd) (off:Nat)
 |field (x:AOpd) (off:Nat) (sh:Option Nat)
 |iaddr (arr:Option Nat) (sz:Nat) (x i:AOpd)
 |index (len sz:Nat) (sh:Option Nat) (x i:AOpd)
 |sindex (x i:AOpd)
 |lookup (sh:EqTy) (ok:Bool) (zero:AV) (m k:AOpd)
 |mapset (sh:EqTy) (m k v:AOpd)
 |srange (x:AOpd)
 |snext (x:AOpd)
 |mrange (x:AOpd)
 |mnext (x:AOpd)
 |entry (x:AOpd)
 |ext (x:AOpd) (i:Nat)
 /-- of a string (0),a slice (1),a map (2) -/
 |len (k:Nat) (x:AOpd)
 |append (sz bytes:Nat) (x y:AOpd)
 |apref (sz bytes:Nat) (x y:AOpd)
 |copy (sz:Nat) (x y:AOpd)
 |min (xs:List AOpd)
 |max (xs:List AOpd)
 |call (f:AOpd) (args:List AOpd)
 deriving Inhabited
structure AOper where
 dst:Option Nat
 op:AOp
 /-- the temporary that must hold this bool -/
 guard:Option (Nat×Bool)
 deriving Inhabited
structure ADOper where
 o:AOper
 lo:Nat
 hi:Nat
 deriving Inhabited
inductive AJump where
 |ret
 |exit (id:Nat)
 deriving DecidableEq,Repr,Inhabited
inductive ACode where
 |skip
 |reg (ops:List AOper)
 |dreg (ops:List ADOper)
 |seq (a b:ACode)
 |cond (c:AOpd) (a b:ACode)
 |block (id:Nat) (b:ACode)
 |loop (b:ACode)
 |rangeFunc (f:AOpd) (params:List Nat) (assign body:ACode)
 |jump (j:AJump)
 |scope (b:ACode)
 deriving Inhabited
inductive LS where
 |ready|busy|done
 deriving DecidableEq,Repr,Inhabited
inductive ABlk where
 |cells (cs:List AV)
 |map (es:List (AV×AV))
 /-- a token: the size of an element,how many elements the slice has that may grow,and whether its block is no one else's -/
 |tok (sz n:Nat) (excl:Bool)
 |siter (s:ByteArray) (pos:Nat)
 /-- an iterator over a map that had so many entries: the places of those that are to come,and of the last one -/
 |miter (m n:Nat) (left:List Nat) (last:Option Nat)
 |loop (st:LS) (pend:Option AJump) (env:Env) (params:List Nat) (assign body:ACode)
 |dead
 deriving Inhabited
abbrev St:=List ABlk
inductive ARes where
 |tmp (t:Nat)
 |cell (t:Nat) (sh:Option Nat)
 deriving Inhabited
structure AFunc where
 ntmps:Nat
 results:List ARes
 body:ACode
 deriving Inhabited
def iF(sh:Option Nat)(cs:List AV)(off:Nat):Option AV :=
 match sh with
 |none=>cs[off]?
 |some n=>if off+n<=cs.length then some (.agg ((cs.drop off).take n)) else none
def iC(cs:List AV)(off:Nat)(vs:List AV):Option (List AV) :=
 if off+vs.length<=cs.length then some (cs.take off++vs++cs.drop (off+vs.length)) else none
def jC:SK->AV->AV->Option Bool
 |.i,.int k a,.int k' b=>if k=k' then some (a==b) else none
 |.b,.bool a,.bool b=>some (a==b)
 |.s,.str a,.str b=>some (a.toList==b.toList)
 |_,_,_=>none
def bQ:List SK->List AV->List AV->Option Bool
 |[],[],[]=>some true
 |k::ks,a::x,b::y =>
  match jC k a b,bQ ks x y with
  |some p,some q=>some (p&&q)
  |_,_=>none
 |_,_,_=>none
def lE:EqTy->AV->AV->Option Bool
 |.one k,x,y=>jC k x y
 |.agg ks,.agg cs,.agg ds=>bQ ks cs ds
 |_,_,_=>none
def bits(op:BinOp)(k:IntKind)(x y:Int):Int :=
 let a:=BitVec.ofInt k.bits x
 let b:=BitVec.ofInt k.bits y
 match op with
 |.and=>k.wrap (a &&& b).toNat
 |.or=>k.wrap (a|||b).toNat
 |.xor=>k.wrap (a ^^^ b).toNat
 |_=>k.wrap (a &&& ~~~b).toNat
def lW(op:BinOp)(k:IntKind)(a b:Int):Option AV :=
 match op with
 |.add=>some (.int k (k.wrap (a+b)))
 |.sub=>some (.int k (k.wrap (a-b)))
 |.mul=>some (.int k (k.wrap (a*b)))
 |.quo=>if b=0 then none else some (.int k (k.wrap (a.tdiv b)))
 |.rem=>if b=0 then none else some (.int k (a.tmod b))
 |.and=>some (.int k (bits .and k a b))
 |.or=>some (.int k (bits .or k a b))
 |.xor=>some (.int k (bits .xor k a b))
 |.andNot=>some (.int k (bits .andNot k a b))
 |.lss=>some (.bool (decide (a<b)))
 |.leq=>some (.bool (decide (a<=b)))
 |.gtr=>some (.bool (decide (a > b)))
 |.geq=>some (.bool (decide (a>=b)))
 |_=>none
def gI(op:BinOp)(x y:AV):Option AV :=
 match x,y with
 |.int k a,.int k' b =>
  match op with
  |.shl=>if b<0 then none else some (.int k (k.wrap (a*2^(Nat.min b.toNat k.bits))))
  |.shr=>if b<0 then none else some (.int k (a.fdiv (2^(Nat.min b.toNat k.bits))))
  |op=>if k=k' then lW op k a b else none
 |_,_=>none
def iD:AV->Option Int
 |.int _ n=>some n
 |_=>none
def cN(e:Env)(d:Nat):Option AOpd->Option Int
 |none=>some d
 |some x=>iD (x.ev e)
def aM(n:Nat)(xs:List AV):Bool:=xs.all fun x=>x.cells.length==n&&x.cells.all (·.cell)
def AX(n:Nat):AV->Bool
 |.ref _ _ _ sz=>sz==n
 |_=>true
def dB(e:Env)(cs:List AV):List (Nat×Nat×AOpd)->Option (List AV)
 |[]=>some cs
 |(off,n,x)::rest =>
  if ((x.ev e).cells.length==n&&(x.ev e).cells.all (·.cell))=true then
   match iC cs off (x.ev e).cells with
   |some cs=>dB e cs rest
   |none=>none
  else none
def aH(σ:St)(id:Nat):Option (List AV) :=
 match σ[id]? with
 |some (.cells cs)=>some cs
 |_=>none
def yP(sz:Nat):Nat->List AV->List AV
 |0,_=>[]
 |n+1,cs=>(if sz=1/\(cs.headD .undef).cell=true then cs.headD .undef else .agg (cs.take sz))::yP sz n (cs.drop sz)
def lS(σ:St):AV->Option (List AV)
 |.lit xs _ _=>some xs
 |.ref id off len sz =>
  match aH σ id with
  |some cs=>if off+len*sz<=cs.length then some (yP sz len (cs.drop off)) else none
  |none=>none
 |_=>none
def findKey(sh:EqTy)(k:AV):List (AV×AV)->Option (Option AV)
 |[]=>some none
 |(k',v)::es =>
  match lE sh k k' with
  |some true=>some (some v)
  |some false=>findKey sh k es
  |none=>none
def nC(sh:EqTy)(k v:AV):List (AV×AV)->Option (List (AV×AV))
 |[]=>some [(k,v)]
 |(k',v')::es =>
  match lE sh k k' with
  |some true=>some ((k,v)::es)
  |some false=>(nC sh k v es).map ((k',v')::·)
  |none=>none
def zG(sh:EqTy)(σ:St)(m k:AV):Option (Option AV) :=
 match m with
 |.nilMap=>if (lE sh k k).isSome=true then some none else none
 |.map id =>
  match σ[id]? with
  |some (.map es)=>if (lE sh k k).isSome=true then findKey sh k es else none
  |_=>none
 |_=>none
def mX(sh:Option Nat)(σ:St):AV->Option AV
 |.ptr id off =>
  match aH σ id with
  |some cs=>iF sh cs off
  |none=>none
 |.lptr xs i off _ =>
  match xs[i]? with
  |some x=>iF sh x.cells off
  |none=>none
 |_=>none
def sI(n:Nat)(σ:St)(a v:AV):Option St :=
 match a with
 |.ptr id off =>
  if (v.cells.length==n&&v.cells.all (·.cell))=true then
   match aH σ id with
   |some cs =>
    match iC cs off v.cells with
    |some cs'=>some (σ.set id (.cells cs'))
    |none=>none
   |none=>none
  else none
 |_=>none
def EV(sz:Nat)(xs:List AV)(l h:Int):Bool :=
 decide (l=h)||(match xs[l.toNat]? with|some x=>x.cells.length==sz|none=>false)
def pW(sz:Nat)(x:AV)(l h:Int)(full:Bool):Option AV :=
 match x with
 |.lit xs fl tk =>
  if 0<=l/\l<=h/\h<=xs.length/\EV sz xs l h=true then
   some (.lit ((xs.drop l.toNat).take (h.toNat-l.toNat)) (full||(fl&&decide (h=xs.length))) tk)
  else none
 |.ref id off len sz' =>
  if 0<=l/\l<=h/\h<=len/\sz'=sz then some (.ref id (off+l.toNat*sz) (h.toNat-l.toNat) sz) else none
 |_=>none
def kG(k:Nat)(σ:St)(x:AV):Option Nat :=
 match k,x with
 |0,.str s=>some s.size
 |1,.lit xs _ _=>some xs.length
 |1,.ref _ _ len _=>some len
 |2,.nilMap=>some 0
 |2,.map id=>match σ[id]? with|some (.map es)=>some es.length|_=>none
 |_,_=>none
def room:Nat:=2^47
def dK(sz bytes:Nat)(σ:St)(x y:AV):Option (AV×St) :=
 match x,lS σ y with
 |.lit xs full tk,some ys =>
  if ys.length=0 then some (.lit xs full tk,σ) else
  if (AX sz y&&aM sz xs&&aM sz ys&&decide ((xs.length+ys.length)*bytes<=room)&&decide (xs.length+ys.length<=room))=true then
   if full=true then some (.lit (xs++ys) false (some σ.length),σ++[.tok sz (xs.length+ys.length) true])
   else
    match tk with
    |some t =>
     match σ[t]? with
     |some (.tok sz' n _)=>if sz'=sz/\n=xs.length then some (.lit (xs++ys) false (some t),σ.set t (.tok sz (xs.length+ys.length) true)) else none
     |_=>none
    |none=>none
  else none
 |_,_=>none
def xB(sz bytes:Nat)(σ:St)(x y:AV):Option (AV×St) :=
 match x,lS σ y with
 |.lit xs full tk,some ys =>
  if ys.length=0 then some (.lit xs full tk,σ) else
  if (full&&AX sz y&&aM sz (xs++ys)&&decide ((xs.length+ys.length)*bytes<=room)&&decide (xs.length+ys.length<=room))=true then
   some (.ref σ.length 0 (xs.length+ys.length) sz,σ++[.cells ((xs++ys).flatMap AV.cells)])
  else none
 |_,_=>none
def sS(sz:Nat)(σ:St)(x y:AV):Option (AV×St) :=
 match x,lS σ y with
 |.ref id off len sz',some ys =>
  let zs:=ys.take len
  if (decide (sz'=sz)&&AX sz y&&aM sz ys)=true then
   match aH σ id with
   |some cs =>
    match iC cs off (zs.flatMap AV.cells) with
    |some cs'=>some (.int .i64 (Nat.min ys.length len),σ.set id (.cells cs'))
    |none=>none
   |none=>none
  else none
 |_,_=>none
def xR(k:IntKind)(a:Int):List AV->Option AV
 |[]=>some (.int k a)
 |.int k' b::rest=>if k'=k then xR k (if b<a then b else a) rest else none
 |_=>none
def D0:List AV->Option AV
 |.int k a::rest=>xR k a rest
 |_=>none
def w9(k:IntKind)(a:Int):List AV->Option AV
 |[]=>some (.int k a)
 |.int k' b::rest=>if k'=k then w9 k (if b > a then b else a) rest else none
 |_=>none
def DX:List AV->Option AV
 |.int k a::rest=>w9 k a rest
 |_=>none
def aop(op:AOp)(e:Env)(σ:St):Option (AV×St) :=
 match op with
 |.mov x=>some (x.ev e,σ)
 |.pick c a b=>match c.ev e with|.bool true=>some (a.ev e,σ)|.bool false=>some (b.ev e,σ)|_=>none
 |.alloc zero=>some (.ptr σ.length 0,σ++[.cells zero])
 |.box n x=>if ((x.ev e).cells.length==n&&(x.ev e).cells.all (·.cell))=true then some (.ptr σ.length 0,σ++[.cells (x.ev e).cells]) else none
 |.build zero parts=>match dB e zero parts with|some cs=>some (.agg cs,σ)|none=>none
 |.mklit sz xs=>if aM sz (xs.map (·.ev e))=true then some (.lit (xs.map (·.ev e)) true none,σ) else none
 |.mkref sz xs=>if aM sz (xs.map (·.ev e))=true then some (.ref σ.length 0 xs.length sz,σ++[.cells ((xs.map (·.ev e)).flatMap AV.cells)]) else none
 |.load sh x=>match mX sh σ (x.ev e) with|some v=>some (v,σ)|none=>none
 |.store n a x=>match sI n σ (a.ev e) (x.ev e) with|some σ'=>some (.tuple [],σ')|none=>none
 |.nilCheck x=>match x.ev e with|.ptr i o=>some (.ptr i o,σ)|.lptr xs i o t=>some (.lptr xs i o t,σ)|.func f a b=>some (.func f a b,σ)|.yield i=>some (.yield i,σ)|_=>none
 |.bin op x y=>match gI op (x.ev e) (y.ev e) with|some v=>some (v,σ)|none=>none
 |.eql sh neg x y=>match lE sh (x.ev e) (y.ev e) with|some b=>some (.bool (if neg then !b else b),σ)|none=>none
 |.not x=>match x.ev e with|.bool b=>some (.bool !b,σ)|_=>none
 |.neg x=>match x.ev e with|.int k n=>some (.int k (k.wrap (0-n)),σ)|_=>none
 |.conv k x=>match x.ev e with|.int _ n=>some (.int k (k.wrap n),σ)|_=>none
 |.mkfun f first cap=>some (.func f (first.map (·.ev e)) (cap.map (·.ev e)),σ)
 |.mkmap=>some (.map σ.length,σ++[.map []])
 |.mkslice zero bytes l c =>
  match l.ev e,c.ev e with
  |.int _ n,.int _ m=>if 0<=n/\n=m/\n*bytes<=room/\n<=room then some (.ref σ.length 0 n.toNat zero.length,σ++[.cells (List.replicate n.toNat zero).flatten]) else none
  |_,_=>none
 |.slicev sz x lo hi mx =>
  match kG 1 σ (x.ev e) with
  |none=>none
  |some n =>
   match cN e 0 lo,cN e n hi,mx.map (fun m=>iD (m.ev e)) with
   |some l,some h,none=>(match pW sz (x.ev e) l h false with|some v=>some (v,σ)|none=>none)
   |some l,some h,some (some m)=>if m=h/\hi.isSome=true then (match pW sz (x.ev e) l h true with|some v=>some (v,σ)|none=>none) else none
   |_,_,_=>none
 |.slicea n sz x lo hi =>
  match x.ev e,cN e 0 lo,cN e n hi with
  |.ptr id off,some l,some h=>if 0<=l/\l<=h/\h<=n then some (.ref id (off+l.toNat*sz) (h.toNat-l.toNat) sz,σ) else none
  |_,_,_=>none
 |.faddr x off=>match x.ev e with|.ptr id o=>some (.ptr id (o+off),σ)|.lptr xs i o t=>some (.lptr xs i (o+off) t,σ)|_=>none
 |.field x off sh=>match x.ev e with|.agg cs=>(match iF sh cs off with|some v=>some (v,σ)|none=>none)|_=>none
 |.iaddr arr sz x i =>
  match iD (i.ev e),arr,x.ev e with
  |some j,some n,.ptr id off=>if 0<=j/\j<n then some (.ptr id (off+j.toNat*sz),σ) else none
  |some j,some n,.lptr xs q off t=>if 0<=j/\j<n then some (.lptr xs q (off+j.toNat*sz) t,σ) else none
  |some j,none,.lit xs _ t =>
   match xs[j.toNat]? with
   |some y=>if 0<=j/\y.cells.length=sz then some (.lptr xs j.toNat 0 t,σ) else none
   |none=>none
  |some j,none,.ref id off len sz'=>if 0<=j/\j<len/\sz'=sz then some (.ptr id (off+j.toNat*sz),σ) else none
  |_,_,_=>none
 |.index n sz sh x i =>
  match iD (i.ev e),x.ev e with
  |some j,.agg cs=>if 0<=j/\j<n then (match iF sh cs (j.toNat*sz) with|some v=>some (v,σ)|none=>none) else none
  |_,_=>none
 |.sindex x i =>
  match iD (i.ev e),x.ev e with
  |some j,.str s=>if 0<=j then (match s[j.toNat]? with|some b=>some (.int .u8 b.toNat,σ)|none=>none) else none
  |_,_=>none
 |.lookup sh ok zero m k =>
  match zG sh σ (m.ev e) (k.ev e) with
  |some (some v)=>some (if ok then .tuple [v,.bool true] else v,σ)
  |some none=>some (if ok then .tuple [zero,.bool false] else zero,σ)
  |none=>none
 |.mapset sh m k v =>
  match m.ev e with
  |.map id =>
   if (lE sh (k.ev e) (k.ev e)).isSome=false then none else
   match σ[id]? with
   |some (.map es)=>(match nC sh (k.ev e) (v.ev e) es with|some es'=>some (.tuple [],σ.set id (.map es'))|none=>none)
   |_=>none
  |_=>none
 |.srange x=>match x.ev e with|.str s=>some (.ptr σ.length 0,σ++[.siter s 0])|_=>none
 |.snext x =>
  match x.ev e with
  |.ptr id 0 =>
   match σ[id]? with
   |some (.siter s pos) =>
    if pos<s.size then
     some (.tuple [.bool true,.int .i64 pos,.int .i32 (Utf8.decode s pos).1],σ.set id (.siter s (pos+(Utf8.decode s pos).2)))
    else some (.tuple [.bool false],σ)
   |_=>none
  |_=>none
 |.mrange x =>
  match x.ev e with
  |.map id=>(match σ[id]? with|some (.map es)=>some (.ptr σ.length 0,σ++[.miter id es.length (List.range es.length) none])|_=>none)
  |_=>none
 |.mnext _=>none
 |.entry x =>
  match x.ev e with
  |.ptr id 0 =>
   match σ[id]? with
   |some (.miter m n _ (some i)) =>
    match σ[m]? with
    |some (.map es) =>
     if es.length=n then
      match es[i]? with
      |some (k,v)=>some (.tuple [k,v],σ)
      |none=>none
     else none
    |_=>none
   |_=>none
  |_=>none
 |.ext x i=>match x.ev e with|.tuple vs=>(match vs[i]? with|some v=>some (v,σ)|none=>none)|_=>none
 |.len k x=>match kG k σ (x.ev e) with|some n=>some (.int .i64 n,σ)|none=>none
 |.append sz bytes x y=>dK sz bytes σ (x.ev e) (y.ev e)
 |.apref sz bytes x y=>xB sz bytes σ (x.ev e) (y.ev e)
 |.copy sz x y=>sS sz σ (x.ev e) (y.ev e)
 |.min xs=>match D0 (xs.map (·.ev e)) with|some v=>some (v,σ)|none=>none
 |.max xs=>match DX (xs.map (·.ev e)) with|some v=>some (v,σ)|none=>none
 |.call _ _=>none
mutual
def okV (m:Nat):AV->Prop
 |.func _ first cap=>okVs m first/\okVs m cap
 |.yield id|.ptr id _|.ref id _ _ _|.map id=>id<m
 |.lptr xs _ _ tk|.lit xs _ tk=>(∀ t,tk=some t->t<m)/\okVs m xs
 |.agg cs=>okVs m cs
 |.tuple vs=>okVs m vs
 |_=>True
def okVs (m:Nat):List AV->Prop
 |[]=>True
 |v::vs=>okV m v/\okVs m vs
end
def aF(m:Nat):ABlk->Prop
 |.cells cs=>okVs m cs
 |.map es=>∀ p∈es,okV m p.1/\okV m p.2
 |.tok _ _ _|.siter _ _|.dead=>True
 |.miter id _ _ _=>id<m
 |.loop _ _ _ _ _ _=>False
mutual
def snap (σ:St) (m:Nat):Nat->AV->Option AV
 |d,.func f first cap=>match snaps σ m d first,snaps σ m d cap with|some a,some b=>some (.func f a b)|_,_=>none
 |_,.yield id=>if id<m then some (.yield id) else none
 |_,.ptr id off=>if id<m then some (.ptr id off) else none
 |_,.map id=>if id<m then some (.map id) else none
 |0,.ref id off len sz=>if id<m then some (.ref id off len sz) else none
 |d+1,.ref id off len sz =>
  if id<m then some (.ref id off len sz) else
  match lS σ (.ref id off len sz) with
  |some xs=>if (decide (0<sz)&&aM sz xs)=true then (match snaps σ m d xs with|some ys=>some (.lit ys false none)|none=>none) else none
  |none=>none
 |d,.lit xs full tk =>
  match snaps σ m d xs with
  |some ys=>some (.lit ys full (tk.filter (· < m)))
  |none=>none
 |d,.agg cs=>match snaps σ m d cs with|some ys=>some (.agg ys)|none=>none
 |d,.tuple vs=>match snaps σ m d vs with|some ys=>some (.tuple ys)|none=>none
 |d,.lptr xs i off tk=>match snaps σ m d xs with|some ys=>some (.lptr ys i off (tk.filter (· < m)))|none=>none
 |_,v=>some v
termination_by d v=>(d,SizeOf.sizeOf v)
def snaps (σ:St) (m:Nat):Nat->List AV->Option (List AV)
 |_,[]=>some []
 |d,v::vs=>match snap σ m d v,snaps σ m d vs with|some a,some b=>some (a::b)|_,_=>none
termination_by d vs=>(d,SizeOf.sizeOf vs)
end
structure Out where
 j:Option AJump
 env:Env
 σ:St
 v:AV
structure ARead where
 lo:Nat
 hi:Nat
 op:AOp
 env:Env
 v:AV
inductive Task where
 |code (c:ACode) (env:Env) (σ:St)
 |ops (os:List AOper) (env:Env) (σ:St)
 |dops (os:List ADOper) (env:Env) (σ:St) (next:Nat) (hist:List St) (reads:List ARead)
 |call (f:FuncId) (args:List AV) (σ:St)
 |callv (f:AV) (args:List AV) (σ:St)
 |chain (az:List ACode) (env:Env) (σ:St)
def AOper.wanted(o:AOper)(env:Env):Option Bool :=
 match o.guard with
 |none=>some true
 |some (t,want) =>
  match Env.get env t with
  |.bool b=>some (b==want)
  |.tuple []=>some false
  |_=>none
def fA(os:List ADOper):List ABlk :=
 os.filterMap fun o=>match o.o.op with|.alloc z=>some (.cells z)|_=>none
def ARead.ok(r:ARead)(hist:List St):Prop :=
 ∀ j s,r.lo<=j->j<=r.hi->hist[j]? = some s->aop r.op r.env s=some (r.v,s)
def AOp.reads:AOp->Bool
 |.load ..|.lookup ..|.len ..|.slicev ..|.entry _=>true
 |_=>false
def AOp.allocs:AOp->Bool
 |.alloc _=>true
 |_=>false
def AOp.calls:AOp->Bool
 |.call ..|.mnext _=>true
 |_=>false
def AOp.acts:AOp->Bool
 |.store ..|.append ..|.apref ..|.mkref ..|.copy ..|.box ..|.mkmap|.mkslice ..|.mapset ..|.srange _|.snext _|.mrange _|.mnext _|.call ..=>true
 |_=>false
def iG:Nat->List AV->Env
 |_,[]=>[]
 |k,v::vs=>(k,v)::iG (k+1) vs
def qK(env:Env)(σ:St):List ARes->Option (List AV)
 |[]=>some []
 |.tmp t::rs=>(qK env σ rs).map (Env.get env t::·)
 |.cell t sh::rs =>
  match mX sh σ (Env.get env t),qK env σ rs with
  |some v,some vs=>some (v::vs)
  |_,_=>none
def jK(rs:List ARes)(env:Env)(σ:St):Option AV :=
 match qK env σ rs with
 |some [v]=>some v
 |some vs=>some (.tuple vs)
 |none=>none
def fZ(σ σ':St)(m i:Nat):Prop :=
 σ'[i]? = σ[i]?\/(∃ b,σ'[i]? = some b/\aF m b) \/
  ∃ st pe st' pe' env ps a b,σ[i]? = some (.loop st pe env ps a b)/\σ'[i]? = some (.loop st' pe' env ps a b)
mutual
def clr:AV->AV
 |.func f a b=>.func f (clrs a) (clrs b)
 |.lptr xs i off tk=>.lptr (clrs xs) i off tk
 |.lit xs full tk=>.lit (clrs xs) (full&&tk.isSome) tk
 |.agg cs=>.agg (clrs cs)
 |.tuple vs=>.tuple (clrs vs)
 |.undef=>.undef
 |.int k n=>.int k n
 |.bool b=>.bool b
 |.str s=>.str s
 |.nilFunc=>.nilFunc
 |.yield i=>.yield i
 |.ptr i o=>.ptr i o
 |.nilPtr=>.nilPtr
 |.ref i o l s=>.ref i o l s
 |.map i=>.map i
 |.nilMap=>.nilMap
def clrs:List AV->List AV
 |[]=>[]
 |v::vs=>clr v::clrs vs
end
def aER(σ σ':St)(v:AV)(Q:Out->Prop):Prop :=
 Q ⟨none,[],σ',v⟩ \/
 ∃ d v' v'',snap σ' σ.length d v=some v'/\(v''=v'\/v''=clr v')/\(∀ i,i<σ.length->fZ σ σ' σ.length i)/\σ.length<=σ'.length/\Q ⟨none,[],σ'.take σ.length,v''⟩
def aIY(σ:St)(env':Env)(σ':St)(env'':Env)(m:Nat):Prop :=
 σ.length<=m/\m<=σ'.length/\(∀ p∈env'',p.2=Env.get env' p.1/\okV m p.2) /\
 ∀ i,i<m->(i<σ.length/\fZ σ σ' m i)\/∃ b,σ'[i]? = some b/\aF m b
def lD(env:Env):List Nat->List AV->Env
 |p::ps,v::vs=>lD (Env.put env (some p) v) ps vs
 |_,_=>env
mutual
def Scal:AV->Prop
 |.int _ _|.bool _|.str _=>True
 |.lit [] _ none=>True
 |.agg cs=>Scals cs
 |.tuple vs=>Scals vs
 |_=>False
def Scals:List AV->Prop
 |[]=>True
 |v::vs=>Scal v/\Scals vs
end
def aCR(σ:St)(m:Nat)(v v':AV):Prop:=(v'=v/\okV m v)\/∃ d v1,snap σ m d v=some v1/\(v'=v1\/v'=clr v1)
def aEM(σ:St)(m:Nat):List AV->List AV->Prop
 |[],[]=>True
 |a::az,b::bs=>aCR σ m a b/\aEM σ m az bs
 |_,_=>False
def TG(σ:St)(m:Nat)(env:Env):Env->Prop
 |[]=>True
 |(t,v)::e=>aCR σ m (Env.get env t) v/\TG σ m env e
def aJL(σ:St)(env':Env)(σ':St)(m i:Nat)(b:ABlk):Prop :=
 (i<σ.length/\fZ σ σ' m i/\σ'[i]? = some b)\/(σ'[i]? = some b/\aF m b) \/
  ∃ cs cs',σ'[i]? = some (.cells cs)/\b = .cells cs'/\aEM σ' m cs cs'/\(σ.length<=i\/∃ t off,Env.get env' t = .ptr i off)
def H0(σ:St)(env':Env)(σ':St)(env'':Env)(σ'':St):Prop :=
 σ.length<=σ''.length/\σ''.length<=σ'.length/\TG σ' σ''.length env' env''/\∀ i,i<σ''.length->∃ b,σ''[i]? = some b/\aJL σ env' σ' σ''.length i b
mutual
def noTok (t:Nat):AV->Prop
 |.func _ first cap=>noToks t first/\noToks t cap
 |.lptr xs _ _ tk|.lit xs _ tk=>tk≠some t/\noToks t xs
 |.agg cs=>noToks t cs
 |.tuple vs=>noToks t vs
 |_=>True
def noToks (t:Nat):List AV->Prop
 |[]=>True
 |v::vs=>noTok t v/\noToks t vs
end
def aK2(t:Nat):ABlk->Prop
 |.cells cs=>noToks t cs
 |.map es=>∀ p∈es,noTok t p.1/\noTok t p.2
 |.loop _ _ _ _ _ _=>False
 |_=>True
def WG:List ACode->ACode->ACode
 |[],c=>c
 |a::az,c=>.seq a (WG az c)
def ZI(n0:Nat)(env:Env)(σ:St)(env':Env)(σ':St):Prop :=
 ∃ t p xs sz,n0<=t/\aM sz xs=true/\σ[t]? = some (.tok sz xs.length true)/\env=(p,.lit xs false (some t))::env.tail/\noToks t xs/\(∀ q∈env.tail,noTok t q.2)/\(∀ i b,i≠t->σ[i]? = some b->aK2 t b) /\
  env'=(p,.ref t 0 xs.length sz)::env.tail/\σ'=σ.set t (.cells (xs.flatMap AV.cells))
inductive Run (T:FuncId->Option AFunc):Task->(Out->Prop)->Prop where
 |mono {t Q R} (h:Run T t R) (hq:∀ o,R o->Q o):Run T t Q
 |skip {env σ Q} (h:Q ⟨none,env,σ,.undef⟩):Run T (.code .skip env σ) Q
 |jump {j env σ Q} (h:Q ⟨some j,env,σ,.undef⟩):Run T (.code (.jump j) env σ) Q
 |seq {a b env σ Q R} (h:Run T (.code a env σ) R) (h1:∀ o,R o->o.j=none->Run T (.code b o.env o.σ) Q) (h2:∀ o,R o->o.j≠none->Q o) :
   Run T (.code (.seq a b) env σ) Q
 |cond {c x y env σ Q} (b:Bool) (hc:c.ev env = .bool b) (h:Run T (.code (if b then x else y) env σ) Q):Run T (.code (.cond c x y) env σ) Q
 |block {id b env σ Q R} (h:Run T (.code b env σ) R) (h1:∀ o,R o->Q (if o.j=some (.exit id) then { o with j:=none } else o)) :
   Run T (.code (.block id b) env σ) Q
 |loop {b env σ Q R} (h:Run T (.code b env σ) R) (h1:∀ o,R o->o.j=none->Run T (.code (.loop b) o.env o.σ) Q) (h2:∀ o,R o->o.j≠none->Q o) :
   Run T (.code (.loop b) env σ) Q
 |scope {b env σ Q} (h:Run T (.code b env σ) Q):Run T (.code (.scope b) env σ) Q
 |reg {os env σ Q} (h:Run T (.ops os env σ) Q):Run T (.code (.reg os) env σ) Q
 |dreg {os env σ Q} (h:Run T (.dops os env (σ++fA os) σ.length [σ++fA os] []) Q):Run T (.code (.dreg os) env σ) Q
 |rangeFunc {f g first cap ps a b env σ Q R} (hf:f.ev env = .func g first cap)
   (h:Run T (.call g (first++[.yield σ.length]++cap) (σ++[.loop .ready none env ps a b])) R)
   (h1:∀ o,R o->∃ st pend env' ps' a' b',o.σ[σ.length]? = some (.loop st pend env' ps' a' b')/\st≠.busy/\Q ⟨pend,env,o.σ.set σ.length .dead,.undef⟩) :
   Run T (.code (.rangeFunc f ps a b) env σ) Q
 /-- What the code has made and uI needs is forgotten. -/
 |trim {c env σ Q R} (h:Run T (.code c env σ) R) (h1:∀ o,R o->∃ env' m,aIY σ o.env o.σ env' m/\Q ⟨o.j,env',o.σ.take m,o.v⟩):Run T (.code c env σ) Q
 |trim2 {c env σ Q R} (h:Run T (.code c env σ) R) (h1:∀ o,R o->Q o\/∃ env'' σ'',H0 σ o.env o.σ env'' σ''/\Q ⟨o.j,env'',σ'',o.v⟩):Run T (.code c env σ) Q
 /-- A call that needs nothing of the state. -/
 |frame {f args args0 σ Q R} (hf:okVs 0 args) (h0:args0=args\/args0=clrs args) (h:Run T (.call f args0 []) R) (h1:∀ o,R o->o.σ=[]/\Q ⟨none,[],σ,o.v⟩):Run T (.call f args σ) Q
 |frameS {f args args0 as1 d σ Q R} (hf:snaps σ 0 d args=some as1) (h0:args0=as1\/args0=clrs as1) (h:Run T (.call f args0 []) R) (h1:∀ o,R o->o.σ=[]/\Scal o.v/\Q ⟨none,[],σ,o.v⟩):Run T (.call f args σ) Q
 |chainNil {env σ Q} (h:Q ⟨none,env,σ,.undef⟩):Run T (.chain [] env σ) Q
 |chainCons {a az env σ Q R} (h:Run T (.code a env σ) R) (h1:∀ o,R o->o.j=none->Run T (.chain az o.env o.σ) Q) (h2:∀ o,R o->o.j≠none->Q o):Run T (.chain (a::az) env σ) Q
 |chain {a0 az c env σ Q R} {S:Env->St->Prop} (h:Run T (.chain (a0::az) env σ) R) (h1:∀ o,R o->o.j≠none->Q o)
   (h2:∀ o,R o->o.j=none->∃ env1 σ1 env2 σ2,H0 σ o.env o.σ env1 σ1/\((env2=env1/\σ2=σ1)\/ZI σ.length env1 σ1 env2 σ2)/\S env2 σ2)
   (h3:∀ env2 σ2,S env2 σ2->Run T (.code c env2 σ2) Q):Run T (.code (WG (a0::az) c) env σ) Q
 /-- A full slice is given a token. -/
 |ghost {c env σ Q} (t sz:Nat) (xs:List AV) (ht:Env.get env t = .lit xs true none)
   (h:Run T (.code c ((t,.lit xs false (some σ.length))::env) (σ++[.tok sz xs.length false])) Q):Run T (.code c env σ) Q
 /-- An environment stands for what it has at each temporary. -/
 |reenv {c env env' σ Q} (he:∀ t,Env.get env t=Env.get env' t) (h:Run T (.code c env' σ) Q):Run T (.code c env σ) Q
 /-- Less may be known of the temporaries. -/
 |weak {c env env' σ Q} (he:∀ t,Env.get env' t = .undef\/Env.get env' t=Env.get env t\/Env.get env' t=clr (Env.get env t)) (h:Run T (.code c env' σ) Q):Run T (.code c env σ) Q
 |reops {os env env' σ Q} (he:∀ t,Env.get env t=Env.get env' t) (h:Run T (.ops os env' σ) Q):Run T (.ops os env σ) Q
 |nil {env σ Q} (h:Q ⟨none,env,σ,.undef⟩):Run T (.ops [] env σ) Q
 |off {o os env σ Q} (hw:o.wanted env=some false) (h:Run T (.ops os (Env.put env o.dst (.tuple [])) σ) Q):Run T (.ops (o::os) env σ) Q
 |step {o os env σ v σ' Q} (hw:o.wanted env=some true) (ha:aop o.op env σ=some (v,σ')) (h:Run T (.ops os (Env.put env o.dst v) σ') Q) :
   Run T (.ops (o::os) env σ) Q
 |stepc {o os env σ f args Q R} (hw:o.wanted env=some true) (ho:o.op = .call f args) (hc:Run T (.callv (f.ev env) (args.map (·.ev env)) σ) R)
   (h:∀ r,R r->Run T (.ops os (Env.put env o.dst r.v) r.σ) Q):Run T (.ops (o::os) env σ) Q
 |stepm {o os env σ x id m n es left last Q} (hw:o.wanted env=some true) (ho:o.op = .mnext x) (hx:x.ev env = .ptr id 0) (hl:σ[id]? = some (.miter m n left last))
   (he:σ[m]? = some (.map es)) (hn:es.length=n)
   (h0:left=[]->Run T (.ops os (Env.put env o.dst (.tuple [.bool false])) σ) Q)
   (h1:∀ i k v,i∈left->es[i]? = some (k,v)->Run T (.ops os (Env.put env o.dst (.tuple [.bool true,k,v])) (σ.set id (.miter m n (left.filter (·≠i)) (some i)))) Q) :
   Run T (.ops (o::os) env σ) Q
 |dnil {env σ next hist reads Q} (hr:∀ r∈reads,ARead.ok r hist) (h:Q ⟨none,env,σ,.undef⟩):Run T (.dops [] env σ next hist reads) Q
 |doff {o os env σ next hist reads Q} (hw:o.o.wanted env=some false)
   (h:Run T (.dops os (Env.put env o.o.dst (.tuple [])) σ (if o.o.op.allocs then next+1 else next) (if o.o.op.acts then hist++[σ] else hist) reads) Q) :
   Run T (.dops (o::os) env σ next hist reads) Q
 |dalloc {o os env σ next hist reads z Q} (hw:o.o.wanted env=some true) (ho:o.o.op = .alloc z)
   (h:Run T (.dops os (Env.put env o.o.dst (.ptr next 0)) σ (next+1) hist reads) Q):Run T (.dops (o::os) env σ next hist reads) Q
 |dpure {o os env σ next hist reads v Q} (hw:o.o.wanted env=some true) (hk:(o.o.op.acts||o.o.op.allocs||o.o.op.reads)=false) (ha:aop o.o.op env σ=some (v,σ))
   (h:Run T (.dops os (Env.put env o.o.dst v) σ next hist reads) Q):Run T (.dops (o::os) env σ next hist reads) Q
 |dread {o os env σ next hist reads v Q} (hw:o.o.wanted env=some true) (hk:o.o.op.reads=true) (ha:aop o.o.op env σ=some (v,σ))
   (h:Run T (.dops os (Env.put env o.o.dst v) σ next hist (⟨o.lo,o.hi,o.o.op,env,v⟩::reads)) Q):Run T (.dops (o::os) env σ next hist reads) Q
 |dact {o os env σ next hist reads v σ' Q} (hw:o.o.wanted env=some true) (hk:o.o.op.acts=true) (ha:aop o.o.op env σ=some (v,σ'))
   (h:Run T (.dops os (Env.put env o.o.dst v) σ' next (hist++[σ']) reads) Q):Run T (.dops (o::os) env σ next hist reads) Q
 |dcall {o os env σ next hist reads f args v σ' Q} (hw:o.o.wanted env=some true) (ho:o.o.op = .call f args)
   (hc:Run T (.callv (f.ev env) (args.map (·.ev env)) σ) fun r=>r.v=v/\r.σ=σ')
   (h:Run T (.dops os (Env.put env o.o.dst v) σ' next (hist++[σ']) reads) Q):Run T (.dops (o::os) env σ next hist reads) Q
 |callf {f first cap args σ Q} (h:Run T (.call f (first++args++cap) σ) Q):Run T (.callv (.func f first cap) args σ) Q
 |round {id args σ env ps a b Q R S} (hl:σ[id]? = some (.loop .ready none env ps a b)) (hn:ps.length=args.length)
   (h:Run T (.code a (lD env ps args) σ) R)
   (h0:∀ o,R o->o.j=none/\o.σ[id]? = some (.loop .ready none env ps a b))
   (h1:∀ o,R o->Run T (.code b o.env (o.σ.set id (.loop .busy none env ps a b))) S)
   (h2:∀ o,S o->o.σ[id]? = some (.loop .busy none env ps a b) /\
    Q ⟨none,[],o.σ.set id (.loop (if o.j=none then .ready else .done) o.j env ps a b),.bool (decide (o.j=none))⟩) :
   Run T (.callv (.yield id) args σ) Q
 |call {f args σ af Q R} (hf:T f=some af) (hn:args.length<=af.ntmps) (h:Run T (.code af.body (iG 0 args) σ) R)
   (h1:∀ o,R o->(o.j=none\/o.j=some .ret)/\∃ v,jK af.results o.env o.σ=some v/\aER σ o.σ v Q):Run T (.call f args σ) Q
def top:Nat:=2^60
def Env.has:Env->Nat->Bool
 |[],_=>false
 |(k,_)::e,t=>if k=t then true else Env.has e t
def Env.tidyTo(acc:Env):Env->Env
 |[]=>acc
 |(k,v)::e=>if Env.has acc k then Env.tidyTo acc e else Env.tidyTo (acc++[(k,v)]) e
def Env.tidy(e:Env):Env:=Env.tidyTo [] e
def aJ2(q:AOp)(e:Env):Nat :=
 match q with
 |.store _ a _=>match a.ev e with|.ptr id _=>id|_=>top
 |.mapset _ m _ _=>match m.ev e with|.map id=>id|_=>top
 |.copy _ x _=>match x.ev e with|.ref id _ _ _=>id|_=>top
 |.snext x=>match x.ev e with|.ptr id _=>id|_=>top
 |.append _ _ x _=>match x.ev e with|.lit _ false (some t)=>t|_=>top
 |_=>top
mutual
def okVB (m:Nat):Nat->AV->Bool
 |0,_=>false
 |d+1,v =>
  match v with
  |.func _ a b=>okVBs m d a&&okVBs m d b
  |.yield id|.ptr id _|.ref id _ _ _|.map id=>decide (id<m)
  |.lptr xs _ _ tk|.lit xs _ tk=>(match tk with|some t=>decide (t<m)|none=>true)&&okVBs m d xs
  |.agg cs=>okVBs m d cs
  |.tuple vs=>okVBs m d vs
  |_=>true
def okVBs (m:Nat):Nat->List AV->Bool
 |0,_=>false
 |_+1,[]=>true
 |d+1,v::vs=>okVB m d v&&okVBs m d vs
end
def aMC(m:Nat):ABlk->Bool
 |.cells cs=>okVBs m 10000 cs
 |.map es=>es.all fun p=>okVB m 10000 p.1&&okVB m 10000 p.2
 |.miter id _ _ _=>decide (id<m)
 |_=>true
def aJB(m:Nat):List ABlk->Nat->Nat->Bool
 |[],_,_=>true
 |b::bs,i,lo=>if i<m then (decide (i<lo)||aMC m b)&&aJB m bs (i+1) lo else true
mutual
def snapF (σ:St) (m:Nat):Nat->Nat->AV->Option AV
 |0,_,_=>none
 |k+1,d,v =>
  match v with
  |.func f first cap=>match snapsF σ m k d first,snapsF σ m k d cap with|some a,some b=>some (.func f a b)|_,_=>none
  |.yield id=>if id<m then some (.yield id) else none
  |.ptr id off=>if id<m then some (.ptr id off) else none
  |.map id=>if id<m then some (.map id) else none
  |.ref id off len sz =>
   if id<m then some (.ref id off len sz) else
   match d with
   |0=>none
   |d+1 =>
    match lS σ (.ref id off len sz) with
    |some xs=>if (decide (0<sz)&&aM sz xs)=true then (match snapsF σ m k d xs with|some ys=>some (.lit ys false none)|none=>none) else none
    |none=>none
  |.lit xs full tk=>match snapsF σ m k d xs with|some ys=>some (.lit ys full (tk.filter (· < m)))|none=>none
  |.agg cs=>match snapsF σ m k d cs with|some ys=>some (.agg ys)|none=>none
  |.tuple vs=>match snapsF σ m k d vs with|some ys=>some (.tuple ys)|none=>none
  |.lptr xs i off tk=>match snapsF σ m k d xs with|some ys=>some (.lptr ys i off (tk.filter (· < m)))|none=>none
  |.undef=>some .undef
  |.int k n=>some (.int k n)
  |.bool b=>some (.bool b)
  |.str s=>some (.str s)
  |.nilFunc=>some .nilFunc
  |.nilPtr=>some .nilPtr
  |.nilMap=>some .nilMap
def snapsF (σ:St) (m:Nat):Nat->Nat->List AV->Option (List AV)
 |0,_,_=>none
 |_+1,_,[]=>some []
 |k+1,d,v::vs=>match snapF σ m k d v,snapsF σ m k d vs with|some a,some b=>some (a::b)|_,_=>none
end
mutual
def eqVF:Nat->AV->AV->Bool
 |0,_,_=>false
 |k+1,a,b =>
  match a,b with
  |.undef,.undef|.nilFunc,.nilFunc|.nilPtr,.nilPtr|.nilMap,.nilMap=>true
  |.int k n,.int l m=>decide (k=l)&&decide (n=m)
  |.bool x,.bool y=>x==y
  |.str x,.str y=>decide (x=y)
  |.func f a b,.func g c d=>decide (f=g)&&eqVsF k a c&&eqVsF k b d
  |.yield i,.yield j|.map i,.map j=>decide (i=j)
  |.ptr i o,.ptr j p=>decide (i=j)&&decide (o=p)
  |.lptr xs i o t,.lptr ys j p u=>eqVsF k xs ys&&decide (i=j)&&decide (o=p)&&decide (t=u)
  |.lit xs f t,.lit ys g u=>eqVsF k xs ys&&(f==g)&&decide (t=u)
  |.ref a b c d,.ref e f g h=>decide (a=e)&&decide (b=f)&&decide (c=g)&&decide (d=h)
  |.agg xs,.agg ys=>eqVsF k xs ys
  |.tuple xs,.tuple ys=>eqVsF k xs ys
  |_,_=>false
def eqVsF:Nat->List AV->List AV->Bool
 |0,_,_=>false
 |_+1,[],[]=>true
 |k+1,a::x,b::y=>eqVF k a b&&eqVsF k x y
 |_+1,_,_=>false
end
def YA(r:ARead):List St->Nat->Bool
 |[],_=>true
 |s::ss,j =>
  (if decide (r.lo<=j)&&decide (j<=r.hi) then (match aop r.op r.env s with|some (v,_)=>eqVF 100000 v r.v|none=>false) else true)&&YA r ss (j+1)
def aS0(x:AOpd)(e:Env)(σ:St):Option (AV×St):=some (x.ev e,σ)
def aPX(c a b:AOpd)(e:Env)(σ:St):Option (AV×St):=match c.ev e with|.bool true=>some (a.ev e,σ)|.bool false=>some (b.ev e,σ)|_=>none
def aMZ(zero:List AV)(σ:St):Option (AV×St):=some (.ptr σ.length 0,σ++[.cells zero])
def aSL(n:Nat)(v:AV)(σ:St):Option (AV×St):=if (v.cells.length==n&&v.cells.all (·.cell))=true then some (.ptr σ.length 0,σ++[.cells v.cells]) else none
def aJ7(zero:List AV)(parts:List (Nat×Nat×AOpd))(e:Env)(σ:St):Option (AV×St):=match dB e zero parts with|some cs=>some (.agg cs,σ)|none=>none
def aLS(sz:Nat)(vs:List AV)(σ:St):Option (AV×St):=if aM sz vs=true then some (.lit vs true none,σ) else none
def aP4(sh:Option Nat)(σ:St)(v:AV):Option (AV×St):=match mX sh σ v with|some v=>some (v,σ)|none=>none
def aL5(n:Nat)(σ:St)(a v:AV):Option (AV×St):=match sI n σ a v with|some σ'=>some (.tuple [],σ')|none=>none
def aRN(σ:St)(x y:AV):Option (AV×St):=match x,y with|.int k a,.int k' b=>if k=k' then some (.int k (k.wrap (a+b)),σ) else none|_,_=>none
def aQ4(σ:St)(x y:AV):Option (AV×St):=match x,y with|.int k a,.int k' b=>if k=k' then some (.int k (k.wrap (a-b)),σ) else none|_,_=>none
def aQ7(σ:St)(x y:AV):Option (AV×St):=match x,y with|.int k a,.int k' b=>if k=k' then some (.int k (k.wrap (a*b)),σ) else none|_,_=>none
def aQY(σ:St)(x y:AV):Option (AV×St):=match x,y with|.int k a,.int k' b=>if k=k' then some (.bool (decide (a<b)),σ) else none|_,_=>none
def aST(σ:St)(x y:AV):Option (AV×St):=match x,y with|.int k a,.int k' b=>if k=k' then some (.bool (decide (a<=b)),σ) else none|_,_=>none
def aR6(σ:St)(x y:AV):Option (AV×St):=match x,y with|.int k a,.int k' b=>if k=k' then some (.bool (decide (a > b)),σ) else none|_,_=>none
def aRY(σ:St)(x y:AV):Option (AV×St):=match x,y with|.int k a,.int k' b=>if k=k' then some (.bool (decide (a>=b)),σ) else none|_,_=>none
def aN8(op:BinOp)(σ:St)(x y:AV):Option (AV×St):=match gI op x y with|some v=>some (v,σ)|none=>none
def aTI(op:BinOp)(σ:St)(x y:AV):Option (AV×St) :=
 match op with
 |.add=>aRN σ x y
 |.sub=>aQ4 σ x y
 |.mul=>aQ7 σ x y
 |.lss=>aQY σ x y
 |.leq=>aST σ x y
 |.gtr=>aR6 σ x y
 |.geq=>aRY σ x y
 |op=>aN8 op σ x y
def aRK(sh:EqTy)(neg:Bool)(σ:St)(x y:AV):Option (AV×St):=match lE sh x y with|some b=>some (.bool (if neg then !b else b),σ)|none=>none
def aSA(σ:St)(x:AV):Option (AV×St):=match x with|.bool b=>some (.bool !b,σ)|_=>none
def aMO(off:Nat)(σ:St)(x:AV):Option (AV×St):=match x with|.ptr id o=>some (.ptr id (o+off),σ)|.lptr xs i o t=>some (.lptr xs i (o+off) t,σ)|_=>none
def aKN(off:Nat)(sh:Option Nat)(σ:St)(x:AV):Option (AV×St):=match x with|.agg cs=>(match iF sh cs off with|some v=>some (v,σ)|none=>none)|_=>none
def aT0(i:Nat)(σ:St)(x:AV):Option (AV×St):=match x with|.tuple vs=>(match vs[i]? with|some v=>some (v,σ)|none=>none)|_=>none
def aQX(k:Nat)(σ:St)(x:AV):Option (AV×St):=match kG k σ x with|some n=>some (.int .i64 n,σ)|none=>none
def aTG(σ:St)(x:AV):Option (AV×St):=match x with|.ptr i o=>some (.ptr i o,σ)|.lptr xs i o t=>some (.lptr xs i o t,σ)|.func f a b=>some (.func f a b,σ)|.yield i=>some (.yield i,σ)|_=>none
def aP9(op:AOp)(e:Env)(σ:St):Option (AV×St) :=
 match op with
 |.mov x=>aS0 x e σ
 |.pick c a b=>aPX c a b e σ
 |.alloc z=>aMZ z σ
 |.box n x=>aSL n (x.ev e) σ
 |.build z ps=>aJ7 z ps e σ
 |.mklit n xs=>aLS n (xs.map (·.ev e)) σ
 |.load sh x=>aP4 sh σ (x.ev e)
 |.store n a x=>aL5 n σ (a.ev e) (x.ev e)
 |.nilCheck x=>aTG σ (x.ev e)
 |.bin op x y=>aTI op σ (x.ev e) (y.ev e)
 |.eql sh n x y=>aRK sh n σ (x.ev e) (y.ev e)
 |.not x=>aSA σ (x.ev e)
 |.faddr x o=>aMO o σ (x.ev e)
 |.field x o sh=>aKN o sh σ (x.ev e)
 |.ext x i=>aT0 i σ (x.ev e)
 |.len k x=>aQX k σ (x.ev e)
 |.append sz b x y=>dK sz b σ (x.ev e) (y.ev e)
 |op=>aop op e σ
section
variable (callv:AV->List AV->St->Option (AV×St×Nat))
def EX:List AOper->Env->St->Nat->Option (Env×St×Nat)
 |[],e,σ,lo=>some (e,σ,lo)
 |o::os,e,σ,lo =>
  match o.wanted e with
  |some true =>
   match o.op with
   |.call f args =>
    match callv (f.ev e) (args.map (·.ev e)) σ with
    |some (v,σ',l)=>EX os (Env.put e o.dst v) σ' (Nat.min lo l)
    |none=>none
   |op =>
    match aP9 op e σ with
    |some (v,σ')=>EX os (Env.put e o.dst v) σ' (Nat.min lo (aJ2 op e))
    |none=>none
  |some false=>EX os (Env.put e o.dst (.tuple [])) σ lo
  |none=>none
def G8:List ADOper->Env->St->Nat->List St->List ARead->Nat->Option (Env×St×Nat)
 |[],e,σ,_,hist,reads,lo=>if reads.all (fun r=>YA r hist 0)=true then some (e,σ,lo) else none
 |d::ds,e,σ,next,hist,reads,lo =>
  match d.o.wanted e with
  |some true =>
   match d.o.op with
   |.call f args =>
    match callv (f.ev e) (args.map (·.ev e)) σ with
    |some (v,σ',l)=>G8 ds (Env.put e d.o.dst v) σ' next (hist++[σ']) reads (Nat.min lo l)
    |none=>none
   |.alloc _=>G8 ds (Env.put e d.o.dst (.ptr next 0)) σ (next+1) hist reads lo
   |op =>
    match aP9 op e σ with
    |some (v,σ') =>
     if op.acts=true then G8 ds (Env.put e d.o.dst v) σ' next (hist++[σ']) reads (Nat.min lo (aJ2 op e))
     else if op.reads=true then G8 ds (Env.put e d.o.dst v) σ next hist (⟨d.lo,d.hi,op,e,v⟩::reads) lo
     else G8 ds (Env.put e d.o.dst v) σ next hist reads lo
    |none=>none
  |some false=>G8 ds (Env.put e d.o.dst (.tuple [])) σ (if d.o.op.allocs then next+1 else next) (if d.o.op.acts then hist++[σ] else hist) reads lo
  |none=>none
end
def aPG:Option AJump->Bool
 |none|some .ret=>true
 |_=>false
section
variable (T:FuncId->Option AFunc) (M:FuncId->List AV->Option AV) (E:ACode->Env->St->Option (Option AJump×Env×St×Nat))
def aJM(f:FuncId)(args:List AV)(σ:St):Option (AV×St×Nat) :=
 match M f args with
 |some v=>some (v,σ,top)
 |none =>
 match T f with
 |some af =>
  if args.length<=af.ntmps then
   match E af.body (iG 0 args) σ with
   |some (j,e,σ1,lo) =>
    if aPG j=true then
     match jK af.results e σ1 with
     |some v =>
      match snapF σ1 σ.length 100000 20 v with
      |some v'=>if aJB σ.length σ1 0 lo=true then some (v',σ1.take σ.length,lo) else some (v,σ1,lo)
      |none=>some (v,σ1,lo)
     |none=>none
    else none
   |none=>none
  else none
 |none=>none
def aIR(f:AV)(args:List AV)(σ:St):Option (AV×St×Nat) :=
 match f with
 |.func f first cap=>aJM T M E f (first++args++cap) σ
 |.yield id =>
  match σ[id]? with
  |some (.loop .ready none env ps a b) =>
   if ps.length=args.length then
    match E a (lD env ps args) σ with
    |some (none,e1,σ1,l1) =>
     match σ1[id]? with
     |some (.loop .ready none _ _ _ _) =>
      match E b e1 (σ1.set id (.loop .busy none env ps a b)) with
      |some (j,_,σ2,l2) =>
       match σ2[id]? with
       |some (.loop .busy none _ _ _ _) =>
        match j with
        |none=>some (.bool true,σ2.set id (.loop .ready none env ps a b),Nat.min id (Nat.min l1 l2))
        |some j=>some (.bool false,σ2.set id (.loop .done (some j) env ps a b),Nat.min id (Nat.min l1 l2))
       |_=>none
      |none=>none
     |_=>none
    |_=>none
   else none
  |_=>none
 |_=>none
end
def aNI(id:Nat):Option AJump->Option AJump
 |some (.exit i)=>if i=id then none else some (.exit i)
 |j=>j
abbrev Res:=Option (Option AJump×Env×St×Nat)
def aNF(r:Option (Env×St×Nat)):Res:=match r with|some (e',σ',lo)=>some (none,e',σ',lo)|none=>none
def aOI(lo:Nat)(r:Res):Res:=match r with|some (j,e2,σ2,l2)=>some (j,e2,σ2,Nat.min lo l2)|none=>none
def aSE(E:ACode->Env->St->Res)(b:ACode)(r:Res):Res :=
 match r with
 |some (none,e1,σ1,lo)=>aOI lo (E b e1 σ1)
 |r=>r
def aNT(E:ACode->Env->St->Res)(b:ACode)(r:Res):Res :=
 match r with
 |some (none,e1,σ1,lo)=>aOI lo (E (.loop b) (Env.tidy e1) σ1)
 |r=>r
def aOC(x:AV)(r q:Res):Res:=match x with|.bool true=>r|.bool false=>q|_=>none
def aK1(id:Nat)(r:Res):Res:=match r with|some (j,e1,σ1,lo)=>some (aNI id j,e1,σ1,lo)|none=>none
def VW(e:Env)(n:Nat)(r:Option (AV×St×Nat)):Res :=
 match r with
 |some (_,σ1,lo) =>
  match σ1[n]? with
  |some (.loop .ready pend _ _ _ _)=>some (pend,e,σ1.set n .dead,lo)
  |some (.loop .done pend _ _ _ _)=>some (pend,e,σ1.set n .dead,lo)
  |_=>none
 |none=>none
def aM1(T:FuncId->Option AFunc)(M:FuncId->List AV->Option AV)(E:ACode->Env->St->Res)(f:AV)(ps:List Nat)(a b:ACode)(e:Env)(σ:St):Res :=
 match f with
 |.func g first cap=>VW e σ.length (aJM T M E g (first++[.yield σ.length]++cap) (σ++[.loop .ready none e ps a b]))
 |_=>none
def aBW(T:FuncId->Option AFunc)(M:FuncId->List AV->Option AV)(E:ACode->Env->St->Res)(c:ACode)(e:Env)(σ:St):Res :=
 match c with
 |.skip=>some (none,e,σ,top)
 |.jump j=>some (some j,e,σ,top)
 |.reg os=>aNF (EX (aIR T M E) os e σ top)
 |.dreg ds=>aNF (G8 (aIR T M E) ds e (σ++fA ds) σ.length [σ++fA ds] [] top)
 |.seq a b=>aSE E b (E a e σ)
 |.cond c a b=>aOC (c.ev e) (E a e σ) (E b e σ)
 |.block id b=>aK1 id (E b e σ)
 |.loop b=>aNT E b (E b e σ)
 |.scope b=>E b e σ
 |.rangeFunc f ps a b=>aM1 T M E (f.ev e) ps a b e σ
def exec(T:FuncId->Option AFunc)(M:FuncId->List AV->Option AV):Nat->ACode->Env->St->Res
 |0=>fun _ _ _=>none
 |k+1=>aBW T M (exec T M k)
end Go.Am
namespace Go.Am.Room
abbrev o0(d:Nat)(x:AOp):AOper:=⟨some d,x,none⟩
abbrev o1(x:AOp):AOper:=⟨none,x,none⟩
abbrev o2(d:Nat)(x:AOp)(t:Nat)(b:Bool):AOper:=⟨some d,x,some (t,b)⟩
abbrev o3(d:Nat)(x:AOp)(i j:Nat):ADOper:=⟨⟨some d,x,none⟩,i,j⟩
abbrev o4(d t:Nat):AOper:=⟨some d,.mov (.t t),none⟩
abbrev o5(n:Int):AOpd:=.c (.int .i64 n)
abbrev o6(f:FuncId):AOpd:=.c (.func f [] [])
abbrev o7(t:Nat):AOp:=.load none (.t t)
abbrev o8(t k:Nat):AOp:=.faddr (.t t) k
abbrev o9(t:Nat):AOp:=.mov (.t t)
abbrev oA(n:Int):AOp:=.mov (.c (.int .i64 n))
abbrev oB(n t:Nat):AOp:=.load (some n) (.t t)
abbrev oC(n t u:Nat):AOp:=.iaddr none n (.t t) (.t u)
abbrev oD(t k:Nat):AOp:=.ext (.t t) k
abbrev oF(t:Nat):AOp:=.len 1 (.t t)
abbrev oH(x y:Nat):AOp:=.bin .lss (.t x) (.t y)
abbrev oI(x:Nat)(n:Int):AOp:=.bin .add (.t x) (.c (.int .i64 n))
abbrev oK(f:FuncId)(l:List AOpd):AOp:=.call (.c (.func f [] [])) l
abbrev oL:ACode:=.jump .ret
abbrev oM(n:Nat):ACode:=.jump (.exit n)
abbrev oN(l:List AOper)(c:ACode):ACode:=.seq (.reg l) c
abbrev oG(n:Bool)(x y:AOpd):AOp:=.eql (.one .i) n x y
def a2:AFunc:=⟨1,[],
 .reg [o0 0 (oK 1 [])]⟩
def aUF:ACode:=.seq (oN [o4 191 26,o4 192 20,o0 193 (oF 192),o0 194 (oH 191 193)]
 (.cond (.t 194) .skip
 (oM 0)))
 (.seq (.block 1 (.seq (.seq (.dreg [o3 197 (o9 20) 0 0,o3 198 (o9 26) 0 0,o3 199 (oC 1 197 198) 0 0,o3 200 (o7 199) 0 0,o3 201 (o8 4 3) 0 0,o3 202 (o7 201) 0 0,o3 203 (oF 202) 0 0,o3 204 (.bin .sub (.t 203) (o5 1)) 0 0,o3 205 (oK 20 [(.t 200),(o5 0),(.t 204)]) 0 1,o3 206 (.not (.t 205)) 1 1])
 (.cond (.t 206) (oN [o0 6 (.mov (.c (.bool false)))]
 oL)
 .skip))
 (.dreg [o3 207 (o9 25) 0 2,o3 208 (o8 4 3) 0 1,o3 209 (o7 208) 0 1,o3 210 (o9 20) 0 1,o3 211 (o9 26) 0 1,o3 212 (oC 1 210 211) 0 1,o3 213 (o7 212) 0 1,o3 214 (oC 3 209 213) 0 1,o3 215 (o8 214 1) 0 1,o3 216 (oB 2 215) 0 1,o3 217 (o8 5 4) 0 0,o3 218 (o7 217) 0 0,o3 219 (o9 26) 0 0,o3 220 (.bin .add (o5 3) (.t 219)) 0 0,o3 221 (oK 17 [.t 218,.t 220]) 0 1,o3 222 (oK 19 [.t 216,.t 221]) 1 2,o3 223 (.bin .add (.t 207) (.t 222)) 2 2,o3 25 (o9 223) 2 2])))
 (.reg [o4 195 26,o0 196 (oI 195 1),o4 26 196]))
def a3:AFunc:=⟨234,[.tmp 6],
 oN [o0 3 (.box 7 (.t 0)),o0 4 (.box 7 (.t 1)),o0 5 (.box 5 (.t 2)),o0 6 (.mov (.c (.bool false)))]
 (oN [o0 27 (o8 4 5),o1 (.store 1 (.t 27) (.c (.lit [] true none))),o0 28 (o8 4 6),o1 (.store 1 (.t 28) (.c (.lit [] true none)))]
 (oN [o0 30 (oB 7 3),o0 31 (oK 10 [.t 30]),o4 29 31,o0 32 (oD 29 0),o0 33 (oD 29 1),o0 34 (oD 29 2),o4 7 32,o4 8 33,o4 9 34]
 (oN [o0 36 (oB 7 4),o0 37 (oK 11 [.t 36]),o4 35 37,o0 38 (oD 35 0),o0 39 (oD 35 1),o0 40 (oD 35 2),o4 10 38,o4 11 39,o4 12 40]
 (.seq (oN [o4 41 9,o0 42 (oG true (.t 41) (o5 0)),o4 43 42,o2 44 (o9 12) 43 false,o2 45 (oG true (.t 44) (o5 0)) 43 false,o0 46 (.pick (.t 43) (.c (.bool true)) (.t 45)),o4 47 46,o2 48 (o8 3 5) 47 false,o2 49 (o7 48) 47 false,o2 50 (oF 49) 47 false,o2 51 (oG false (.t 50) (o5 0)) 47 false,o0 52 (.pick (.t 47) (.c (.bool true)) (.t 51))]
 (.cond (.t 52) (oN [o0 53 (oK 12 []),o4 54 53,o2 55 (oK 13 []) 54 true,o0 56 (.pick (.t 54) (.t 55) (.c (.bool false))),o4 6 56]
 oL)
 .skip))
 (.seq (.reg [o0 57 (oB 7 3),o0 58 (oK 14 [(.t 57),(.c (.lit [] true none))]),o4 13 58])
 (.seq (oN [o4 59 13,o0 60 (oF 59),o0 61 (oG false (.t 60) (o5 0))]
 (.cond (.t 61) (oN [o0 62 (oK 12 []),o4 63 62,o2 64 (oK 13 []) 63 true,o0 65 (.pick (.t 63) (.t 64) (.c (.bool false))),o4 6 65]
 oL)
 .skip))
 (.seq (.dreg [o3 66 (o8 5 0) 0 0,o3 67 (o7 66) 0 0,o3 68 (.conv .i64 (.t 67)) 0 0,o3 69 (o8 3 5) 0 0,o3 70 (o7 69) 0 0,o3 71 (oF 70) 0 0,o3 72 (.bin .rem (.t 68) (.t 71)) 0 0,o3 73 (o8 5 1) 0 0,o3 74 (o7 73) 0 0,o3 75 (.conv .i64 (.t 74)) 0 0,o3 76 (o8 3 0) 0 0,o3 77 (o7 76) 0 0,o3 78 (oF 77) 0 0,o3 79 (oI 78 1) 0 0,o3 80 (.bin .rem (.t 75) (.t 79)) 0 0,o3 14 (o9 72) 0 0,o3 15 (o9 80) 0 0])
 (oN [o0 82 (oB 7 3),o4 83 14,o4 84 15,o0 85 (oK 15 [.t 82,.t 83,.t 84]),o4 81 85,o0 86 (oD 81 0),o0 87 (oD 81 1),o0 16 (.alloc [.int .i64 0,.int .i64 0]),o1 (.store 2 (.t 16) (.t 86)),o4 17 87]
 (oN [o0 88 (o8 16 0),o0 89 (o7 88),o0 90 (o8 3 3),o0 91 (o8 90 0),o0 92 (o7 91),o0 93 (.bin .add (.t 89) (.t 92)),o0 94 (o8 16 1),o0 95 (o7 94),o0 96 (o8 3 3),o0 97 (o8 96 1),o0 98 (o7 97),o0 99 (.bin .add (.t 95) (.t 98)),o0 100 (.build [.int .i64 0,.int .i64 0] [(0,1,(.t 93)),(1,1,(.t 99))]),o0 101 (o8 4 1),o1 (.store 2 (.t 101) (.t 100))]
 (oN [o0 103 (oB 7 4),o0 104 (oK 11 [.t 103]),o4 102 104,o0 105 (oD 102 0),o0 106 (oD 102 1),o0 107 (oD 102 2),o4 12 107]
 (.seq (oN [o4 108 17,o0 109 (oG true (.t 108) (o5 0)),o4 110 109,o2 111 (o9 12) 110 false,o2 112 (oG true (.t 111) (o5 0)) 110 false,o0 113 (.pick (.t 110) (.c (.bool true)) (.t 112))]
 (.cond (.t 113) (oN [o0 6 (.mov (.c (.bool false)))]
 oL)
 .skip))
 (.seq (.dreg [o3 114 (o8 5 2) 0 0,o3 115 (o7 114) 0 0,o3 116 (.conv .i64 (.t 115)) 0 0,o3 117 (o8 4 0) 0 0,o3 118 (o7 117) 0 0,o3 119 (oI 118 1) 0 0,o3 120 (.bin .rem (.t 116) (.t 119)) 0 0,o3 121 (o8 5 3) 0 0,o3 122 (o7 121) 0 0,o3 123 (.conv .i64 (.t 122)) 0 0,o3 124 (.bin .rem (.t 123) (o5 7)) 0 0,o3 125 (.bin .add (o5 1) (.t 124)) 0 0,o3 18 (o9 120) 0 0,o3 19 (o9 125) 0 0])
 (oN [o0 127 (oB 7 4),o4 128 18,o4 129 19,o0 130 (oK 16 [.t 127,.t 128,.t 129]),o4 126 130,o0 131 (oD 126 0),o0 132 (oD 126 1),o0 133 (oD 126 2),o4 20 131,o4 21 132,o4 22 133]
 (.seq (oN [o4 134 22,o0 135 (oG true (.t 134) (o5 0))]
 (.cond (.t 135) (oN [o4 136 22,o0 137 (oG false (.t 136) (o5 9)),o4 138 137,o2 139 (o9 20) 138 true,o2 140 (oF 139) 138 true,o2 141 (oG false (.t 140) (o5 0)) 138 true,o0 142 (.pick (.t 138) (.t 141) (.c (.bool false))),o4 143 142,o2 144 (oK 12 []) 143 true,o0 145 (.pick (.t 143) (.t 144) (.c (.bool false))),o4 146 145,o2 147 (oK 13 []) 146 true,o0 148 (.pick (.t 146) (.t 147) (.c (.bool false))),o4 6 148]
 oL)
 .skip))
 (.seq (.reg [o4 149 13,o0 150 (o8 5 4),o0 151 (o7 150),o0 152 (oK 17 [(.t 151),(o5 0)]),o4 153 13,o0 154 (oF 153),o0 155 (.bin .rem (.t 152) (.t 154)),o0 156 (oC 2 149 155),o0 157 (oB 2 156),o0 23 (.alloc [.lit [] true none,.lit [] true none]),o1 (.store 2 (.t 23) (.t 157))])
 (.seq (.dreg [o3 158 (o8 23 1) 0 1,o3 159 (o7 158) 0 1,o3 160 (o9 14) 0 1,o3 161 (oC 1 159 160) 0 1,o3 162 (o7 161) 0 1,o3 163 (o8 5 4) 0 0,o3 164 (o7 163) 0 0,o3 165 (oK 17 [(.t 164),(o5 1)]) 0 1,o3 166 (o8 23 1) 0 1,o3 167 (o7 166) 0 1,o3 168 (o9 14) 0 1,o3 169 (oC 1 167 168) 0 1,o3 170 (o7 169) 0 1,o3 171 (oF 170) 0 1,o3 172 (.bin .rem (.t 165) (.t 171)) 1 1,o3 173 (oC 1 162 172) 1 1,o3 174 (o7 173) 1 1,o3 24 (o9 174) 1 1])
 (.seq (.dreg [o3 175 (o8 23 0) 0 0,o3 176 (o7 175) 0 0,o3 177 (o9 24) 0 0,o3 178 (o9 15) 0 0,o3 179 (oK 18 [.t 176,.t 177,.t 178]) 0 1,o3 180 (o8 3 3) 0 2,o3 181 (oB 2 180) 0 2,o3 182 (o8 5 4) 0 1,o3 183 (o7 182) 0 1,o3 184 (oK 17 [(.t 183),(o5 2)]) 1 2,o3 185 (oK 19 [.t 181,.t 184]) 2 3,o3 186 (.bin .add (.t 179) (.t 185)) 3 3,o3 25 (o9 186) 3 3])
 (.seq (oN [o4 187 20,o0 188 (oF 187),o4 189 18,o0 190 (oG true (.t 188) (.t 189))]
 (.cond (.t 190) (oN [o0 6 (.mov (.c (.bool false)))]
 oL)
 .skip))
 (.seq (oN [o0 26 (oA 0)]
 (.block 0 (.loop aUF)))
 (oN [o4 224 25,o0 225 (oK 21 [.t 224]),o4 226 19,o0 227 (oG false (.t 225) (.t 226)),o4 228 227,o2 229 (oK 12 []) 228 true,o0 230 (.pick (.t 228) (.t 229) (.c (.bool false))),o4 231 230,o2 232 (oK 13 []) 231 true,o0 233 (.pick (.t 231) (.t 232) (.c (.bool false))),o4 6 233]
 oL))))))))))))))))))))⟩
def aSY:ACode:=.seq (oN [o4 77 14,o0 78 (o8 3 5),o0 79 (o7 78),o0 80 (oF 79),o0 81 (oH 77 80)]
 (.cond (.t 81) .skip
 (oM 0)))
 (.seq (.block 1 (oN [o0 85 (oB 3 4),o4 86 14,o0 87 (oK 25 [.t 85,.t 86]),o4 84 87,o0 88 (oD 84 0),o0 89 (oD 84 1),o0 15 (.alloc [.int .i64 0,.int .i64 0]),o1 (.store 2 (.t 15) (.t 88)),o4 16 89]
 (.seq (oN [o4 90 16,o0 91 (oG true (.t 90) (o5 0)),o4 92 91,o2 93 (o8 15 0) 92 false,o2 94 (o7 93) 92 false,o2 95 (oK 20 [(.t 94),(o5 1),(o5 12)]) 92 false,o2 96 (.not (.t 95)) 92 false,o0 97 (.pick (.t 92) (.c (.bool true)) (.t 96))]
 (.cond (.t 97) (oN [o0 6 (.mov (.c (.bool false)))]
 oL)
 .skip))
 (.seq (.reg [o0 98 (o8 3 5),o0 99 (o7 98),o4 100 14,o0 101 (oC 4 99 100),o0 102 (oB 4 101),⟨some 17,.alloc [.str ⟨#[]⟩,.int .i64 0,.int .i64 0,.int .i64 0],none⟩,o1 (.store 4 (.t 17) (.t 102))])
 (oN [o0 103 (o8 15 0),o0 104 (o7 103),o0 105 (o8 17 3),o1 (.store 1 (.t 105) (.t 104))]
 (.reg [o0 106 (o8 3 5),o0 107 (o7 106),o4 108 14,o0 109 (oB 4 17),o0 110 (oC 4 107 108),o1 (.store 4 (.t 110) (.t 109))]))))))
 (.reg [o4 82 14,o0 83 (oI 82 1),o4 14 83]))
def aRE:ACode:=.seq (oN [o4 161 25,o4 162 20,o0 163 (oF 162),o0 164 (oH 161 163)]
 (.cond (.t 164) .skip
 (oM 2)))
 (.seq (.block 3 (.reg [o4 167 24,o4 168 23,o4 169 20,o4 170 25,o0 171 (oC 1 169 170),o0 172 (o7 171),o0 173 (oC 1 168 172),o0 174 (o7 173),o0 175 (.bin .add (.t 167) (.t 174)),o4 24 175]))
 (.reg [o4 165 25,o0 166 (oI 165 1),o4 25 166]))
def a4:AFunc:=⟨185,[.tmp 6],
 oN [o0 3 (.box 7 (.t 0)),o0 4 (.box 3 (.t 1)),o0 5 (.box 3 (.t 2)),o0 6 (.mov (.c (.bool false)))]
 (oN [o0 27 (oB 7 3),o0 28 (oK 10 [.t 27]),o4 26 28,o0 29 (oD 26 0),o0 30 (oD 26 1),o0 31 (oD 26 2),o4 7 29,o4 8 30,o4 9 31]
 (oN [o0 33 (oB 3 4),o0 34 (oK 22 [.t 33]),o4 32 34,o0 35 (oD 32 0),o0 36 (oD 32 1),o0 37 (oD 32 2),o4 10 35,o4 11 36,o4 12 37]
 (.seq (oN [o4 38 9,o0 39 (oG true (.t 38) (o5 0)),o4 40 39,o2 41 (o9 12) 40 false,o2 42 (oG true (.t 41) (o5 0)) 40 false,o0 43 (.pick (.t 40) (.c (.bool true)) (.t 42)),o4 44 43,o2 45 (o8 4 1) 44 false,o2 46 (o7 45) 44 false,o2 47 (oF 46) 44 false,o2 48 (o8 3 5) 44 false,o2 49 (o7 48) 44 false,o2 50 (oF 49) 44 false,o2 51 (oH 47 50) 44 false,o0 52 (.pick (.t 44) (.c (.bool true)) (.t 51))]
 (.cond (.t 52) (oN [o0 53 (oK 23 []),o4 54 53,o2 55 (oK 12 []) 54 true,o0 56 (.pick (.t 54) (.t 55) (.c (.bool false))),o4 6 56]
 oL)
 .skip))
 (.seq (.reg [o0 57 (oB 3 4),o0 58 (oK 24 [(.t 57),(.c (.lit [] true none))]),o4 13 58])
 (.seq (.seq (.reg [o4 59 13,o0 60 (oF 59),o0 61 (oG false (.t 60) (o5 0)),o4 62 61,o2 63 (oB 7 3) 62 false,o2 64 (oK 14 [(.t 63),(.c (.lit [] true none))]) 62 false,o2 65 (oF 64) 62 false,o2 66 (oG false (.t 65) (o5 0)) 62 false,o0 67 (.pick (.t 62) (.c (.bool true)) (.t 66))])
 (.cond (.t 67) (oN [o0 68 (oK 23 []),o4 69 68,o2 70 (oK 12 []) 69 true,o0 71 (.pick (.t 69) (.t 70) (.c (.bool false))),o4 6 71]
 oL)
 .skip))
 (oN [o0 72 (.mklit 4 []),o0 73 (o8 3 5),o0 74 (o7 73),o0 75 (.append 4 40 (.t 72) (.t 74)),o0 76 (o8 3 5),o1 (.store 1 (.t 76) (.t 75))]
 (.seq (oN [o0 14 (oA 0)]
 (.block 0 (.loop aSY)))
 (.seq (.dreg [o3 111 (o8 5 0) 0 0,o3 112 (o7 111) 0 0,o3 113 (.conv .i64 (.t 112)) 0 0,o3 114 (o8 3 0) 0 0,o3 115 (o7 114) 0 0,o3 116 (oF 115) 0 0,o3 117 (oI 116 1) 0 0,o3 118 (.bin .rem (.t 113) (.t 117)) 0 0,o3 119 (o8 5 1) 0 0,o3 120 (o7 119) 0 0,o3 121 (.conv .i64 (.t 120)) 0 0,o3 122 (.bin .rem (.t 121) (o5 60)) 0 0,o3 18 (o9 118) 0 0,o3 19 (o9 122) 0 0])
 (oN [o0 124 (oB 7 3),o4 125 18,o4 126 19,o0 127 (oK 26 [.t 124,.t 125,.t 126]),o4 123 127,o0 128 (oD 123 0),o0 129 (oD 123 1),o0 130 (oD 123 2),o4 20 128,o4 21 129,o4 22 130]
 (.seq (oN [o4 131 22,o0 132 (oG true (.t 131) (o5 0))]
 (.cond (.t 132) (oN [o4 133 22,o0 134 (oG false (.t 133) (o5 9)),o4 135 134,o2 136 (o9 20) 135 true,o2 137 (oF 136) 135 true,o2 138 (oG false (.t 137) (o5 0)) 135 true,o0 139 (.pick (.t 135) (.t 138) (.c (.bool false))),o4 140 139,o2 141 (oK 23 []) 140 true,o0 142 (.pick (.t 140) (.t 141) (.c (.bool false))),o4 143 142,o2 144 (oK 12 []) 143 true,o0 145 (.pick (.t 143) (.t 144) (.c (.bool false))),o4 6 145]
 oL)
 .skip))
 (.seq (oN [o4 146 20,o0 147 (o8 3 5),o0 148 (o7 147),o0 149 (oF 148),o0 150 (oK 27 [.t 146,.t 149]),o0 151 (.not (.t 150))]
 (.cond (.t 151) (oN [o0 6 (.mov (.c (.bool false)))]
 oL)
 .skip))
 (oN [o4 152 13,o0 153 (o8 5 2),o0 154 (o7 153),o0 155 (.conv .i64 (.t 154)),o4 156 13,o0 157 (oF 156),o0 158 (.bin .rem (.t 155) (.t 157)),o0 159 (oC 1 152 158),o0 160 (o7 159),o4 23 160]
 (oN [o0 24 (oA 0)]
 (.seq (oN [o0 25 (oA 0)]
 (.block 2 (.loop aRE)))
 (oN [o4 176 24,o4 177 19,o0 178 (.bin .geq (.t 176) (.t 177)),o4 179 178,o2 180 (oK 23 []) 179 true,o0 181 (.pick (.t 179) (.t 180) (.c (.bool false))),o4 182 181,o2 183 (oK 12 []) 182 true,o0 184 (.pick (.t 182) (.t 183) (.c (.bool false))),o4 6 184]
 oL)))))))))))))))⟩
def aS5:ACode:=.seq (oN [o4 115 16,o0 116 (o8 2 3),o0 117 (o7 116),o0 118 (oF 117),o0 119 (oH 115 118)]
 (.cond (.t 119) .skip
 (oM 0)))
 (.seq (.block 1 (.dreg [o3 122 (o8 15 0) 0 1,o3 123 (o7 122) 0 1,o3 124 (o8 3 3) 0 0,o3 125 (o7 124) 0 0,o3 126 (o9 16) 0 0,o3 127 (oK 17 [.t 125,.t 126]) 0 1,o3 128 (.bin .rem (.t 127) (o5 4)) 1 1,o3 129 (.mklit 1 [.t 128]) 1 1,o3 130 (.append 1 8 (.t 123) (.t 129)) 1 2,o3 131 (o8 15 0) 2 2,⟨o1 (.store 1 (.t 131) (.t 130)),2,3⟩]))
 (.reg [o4 120 16,o0 121 (oI 120 1),o4 16 121]))
def aTM:ACode:=.seq (oN [o4 180 25,o0 181 (o8 15 0),o0 182 (o7 181),o0 183 (oF 182),o0 184 (oH 180 183),o4 185 184,o2 186 (o9 24) 185 true,o2 187 (.bin .lss (.t 186) (o5 0)) 185 true,o0 188 (.pick (.t 185) (.t 187) (.c (.bool false)))]
 (.cond (.t 188) .skip
 (oM 2)))
 (.seq (.block 3 (.seq (.dreg [o3 191 (o9 23) 0 1,o3 192 (o8 15 0) 0 1,o3 193 (o7 192) 0 1,o3 194 (o9 25) 0 1,o3 195 (oC 1 193 194) 0 1,o3 196 (o7 195) 0 1,o3 197 (.bin .sub (.t 191) (.t 196)) 0 1,o3 198 (o9 22) 0 0,o3 199 (o8 2 4) 0 0,o3 200 (o7 199) 0 0,o3 201 (o9 25) 0 0,o3 202 (.bin .add (.t 200) (.t 201)) 0 0,o3 203 (oC 1 198 202) 0 0,o3 204 (o7 203) 0 0,o3 205 (oK 34 [.t 204]) 0 1,o3 206 (.bin .sub (.t 197) (.t 205)) 1 1,o3 23 (o9 206) 1 1])
 (oN [o4 207 23,o0 208 (.bin .leq (.t 207) (o5 0))]
 (.cond (.t 208) (.reg [o4 209 25,o0 210 (oI 209 1),o4 24 210])
 .skip))))
 (.reg [o4 189 25,o0 190 (oI 189 1),o4 25 190]))
def a5:AFunc:=⟨245,[.tmp 4],
 oN [o0 2 (.box 7 (.t 0)),o0 3 (.box 5 (.t 1)),o0 4 (.mov (.c (.bool false)))]
 (oN [o0 27 (oB 7 2),o0 28 (oK 28 [.t 27]),o4 26 28,o0 29 (oD 26 0),o0 30 (oD 26 1),o0 31 (oD 26 2),o4 5 29,o4 6 30,o4 7 31]
 (oN [o0 32 (o8 3 1),o0 33 (oB 2 32),o0 34 (oK 29 [(.t 33),(o5 0),(o5 40)]),o4 8 34]
 (.seq (oN [o4 35 7,o0 36 (oG true (.t 35) (o5 0)),o4 37 36,o2 38 (o9 8) 37 false,o2 39 (oG true (.t 38) (o5 0)) 37 false,o0 40 (.pick (.t 37) (.c (.bool true)) (.t 39)),o4 41 40,o2 42 (o8 3 1) 41 false,o2 43 (o8 42 1) 41 false,o2 44 (o7 43) 41 false,o2 45 (o8 3 1) 41 false,o2 46 (o8 45 0) 41 false,o2 47 (o7 46) 41 false,o2 48 (oI 47 3) 41 false,o2 49 (.bin .gtr (.t 44) (.t 48)) 41 false,o0 50 (.pick (.t 41) (.c (.bool true)) (.t 49))]
 (.cond (.t 50) (oN [o0 51 (oK 30 []),o4 52 51,o2 53 (oK 31 []) 52 true,o0 54 (.pick (.t 52) (.t 53) (.c (.bool false))),o4 4 54]
 oL)
 .skip))
 (.seq (.reg [o0 55 (oB 7 2),o0 56 (oK 32 [(.t 55),(.c (.lit [] true none))]),o4 9 56])
 (.seq (oN [o4 57 9,o0 58 (oF 57),o0 59 (oG false (.t 58) (o5 0))]
 (.cond (.t 59) (oN [o0 60 (oK 30 []),o4 61 60,o2 62 (oK 31 []) 61 true,o0 63 (.pick (.t 61) (.t 62) (.c (.bool false))),o4 4 63]
 oL)
 .skip))
 (oN [o0 64 (o8 3 0),o0 65 (o7 64),o0 66 (.conv .i64 (.t 65)),o0 67 (o8 2 5),o0 68 (o7 67),o0 69 (oF 68),o0 70 (.bin .rem (.t 66) (.t 69)),o4 10 70]
 (oN [o0 72 (oB 7 2),o4 73 10,o0 74 (oK 33 [.t 72,.t 73]),o4 71 74,o0 75 (oD 71 0),o0 76 (oD 71 1),o4 11 75,o4 12 76]
 (oN [o0 77 (o8 2 5),o0 78 (o7 77),o4 79 10,o0 80 (oC 5 78 79),o0 81 (o8 80 3),o0 82 (oB 2 81),o0 13 (.alloc [.int .i64 0,.int .i64 0]),o1 (.store 2 (.t 13) (.t 82))]
 (.seq (.dreg [o3 83 (o8 13 0) 0 0,o3 84 (o7 83) 0 0,o3 85 (oK 34 [.t 84]) 0 1,o3 86 (o8 13 1) 0 1,o3 87 (o7 86) 0 1,o3 88 (oK 34 [.t 87]) 1 2,o3 89 (.build [.int .i64 0,.int .i64 0] [(0,1,(.t 85)),(1,1,(.t 88))]) 2 2,o3 14 (.alloc [.int .i64 0,.int .i64 0]) 0 2,⟨o1 (.store 2 (.t 14) (.t 89)),2,3⟩])
 (.seq (oN [o4 90 12,o0 91 (oG true (.t 90) (o5 0))]
 (.cond (.t 91) (oN [o0 4 (.mov (.c (.bool false)))]
 oL)
 .skip))
 (.seq (oN [o4 92 11,o0 93 (oG true (.t 92) (o5 1)),o4 94 93,o2 95 (o8 14 1) 94 false,o2 96 (o7 95) 94 false,o2 97 (o8 14 0) 94 false,o2 98 (o7 97) 94 false,o2 99 (oI 98 3) 94 false,o2 100 (.bin .gtr (.t 96) (.t 99)) 94 false,o0 101 (.pick (.t 94) (.c (.bool true)) (.t 100))]
 (.cond (.t 101) (oN [o0 102 (oK 30 []),o4 103 102,o2 104 (oK 31 []) 103 true,o0 105 (.pick (.t 103) (.t 104) (.c (.bool false))),o4 4 105]
 oL)
 .skip))
 (.seq (.reg [o0 106 (oB 2 14),o0 107 (.mklit 2 [.t 106]),o0 108 (o8 3 1),o0 109 (oB 2 108),o0 110 (.build [.int .i64 0,.int .i64 0,.int .i64 0,.int .i64 0] [(2,2,(.t 109))]),o0 111 (.mklit 4 [.t 110]),o0 112 (.build [.lit [] true none,.int .i64 0,.lit [] true none,.lit [] true none,.lit [] true none] [(2,1,(.t 107)),(3,1,(.t 111))]),o0 15 (.alloc [.lit [] true none,.int .i64 0,.lit [] true none,.lit [] true none,.lit [] true none]),o1 (.store 5 (.t 15) (.t 112))])
 (.seq (oN [o0 113 (o8 2 4),o0 114 (o7 113),o4 16 114]
 (.block 0 (.loop aS5)))
 (oN [o0 133 (oB 5 15),o0 134 (oK 35 [(.t 133),(o5 0)]),o4 132 134,o0 135 (oD 132 0),o0 136 (oD 132 1),o0 137 (oD 132 2),o0 17 (.alloc [.int .i64 0,.int .i64 0]),o1 (.store 2 (.t 17) (.t 135)),o4 18 136,o4 19 137]
 (.seq (oN [o4 138 19,o0 139 (oG true (.t 138) (o5 0))]
 (.cond (.t 139) (oN [o0 4 (.mov (.c (.bool false)))]
 oL)
 .skip))
 (.seq (.reg [o4 140 9,o0 141 (o8 3 4),o0 142 (o7 141),o0 143 (oK 17 [(.t 142),(o5 0)]),o4 144 9,o0 145 (oF 144),o0 146 (.bin .rem (.t 143) (.t 145)),o0 147 (oC 2 140 146),o0 148 (oB 2 147),o0 20 (.alloc [.lit [] true none,.lit [] true none]),o1 (.store 2 (.t 20) (.t 148))])
 (.seq (.dreg [o3 149 (o8 20 1) 0 1,o3 150 (o7 149) 0 1,o3 151 (o9 10) 0 1,o3 152 (oC 1 150 151) 0 1,o3 153 (o7 152) 0 1,o3 154 (o8 3 4) 0 0,o3 155 (o7 154) 0 0,o3 156 (oK 17 [(.t 155),(o5 1)]) 0 1,o3 157 (o8 20 1) 0 1,o3 158 (o7 157) 0 1,o3 159 (o9 10) 0 1,o3 160 (oC 1 158 159) 0 1,o3 161 (o7 160) 0 1,o3 162 (oF 161) 0 1,o3 163 (.bin .rem (.t 156) (.t 162)) 1 1,o3 164 (oC 1 153 163) 1 1,o3 165 (o7 164) 1 1,o3 21 (o9 165) 1 1])
 (oN [o0 166 (oB 7 2),o4 167 10,o4 168 21,o0 169 (o8 20 0),o0 170 (o7 169),o0 171 (oK 36 [.t 166,.t 167,.t 168,.t 170]),o4 22 171]
 (.seq (.dreg [o3 172 (o8 3 1) 0 1,o3 173 (oB 2 172) 0 1,o3 174 (o8 3 4) 0 0,o3 175 (o7 174) 0 0,o3 176 (oK 17 [(.t 175),(o5 2)]) 0 1,o3 177 (oK 19 [.t 173,.t 176]) 1 2,o3 23 (o9 177) 2 2])
 (oN [o0 24 (.mov (.c (.int .i64 (-1))))]
 (.seq (oN [o4 178 23,o0 179 (oG false (.t 178) (o5 0))]
 (.cond (.t 179) (.reg [o0 24 (oA 0)])
 .skip))
 (.seq (oN [o0 25 (oA 0)]
 (.block 2 (.loop aTM)))
 (.seq (oN [o4 211 24,o0 212 (.bin .lss (.t 211) (o5 0))]
 (.cond (.t 212) (oN [o4 213 18,o0 214 (oG true (.t 213) (o5 1)),o4 215 214,o2 216 (oK 30 []) 215 true,o0 217 (.pick (.t 215) (.t 216) (.c (.bool false))),o4 218 217,o2 219 (oK 31 []) 218 true,o0 220 (.pick (.t 218) (.t 219) (.c (.bool false))),o4 4 220]
 oL)
 .skip))
 (oN [o4 221 18,o0 222 (oG true (.t 221) (o5 2)),o4 223 222,o2 224 (o9 24) 223 true,o2 225 (o8 17 0) 223 true,o2 226 (o7 225) 223 true,o2 227 (.bin .geq (.t 224) (.t 226)) 223 true,o0 228 (.pick (.t 223) (.t 227) (.c (.bool false))),o4 229 228,o2 230 (o9 18) 229 true,o2 231 (oG true (.t 230) (o5 1)) 229 true,o2 232 (o9 231) 229 true,o2 233 (o9 24) 232 false,o2 234 (o8 17 1) 232 false,o2 235 (o7 234) 232 false,o2 236 (.bin .leq (.t 233) (.t 235)) 232 false,o2 237 (.pick (.t 232) (.c (.bool true)) (.t 236)) 229 true,o0 238 (.pick (.t 229) (.t 237) (.c (.bool false))),o4 239 238,o2 240 (oK 30 []) 239 true,o0 241 (.pick (.t 239) (.t 240) (.c (.bool false))),o4 242 241,o2 243 (oK 31 []) 242 true,o0 244 (.pick (.t 242) (.t 243) (.c (.bool false))),o4 4 244]
 oL))))))))))))))))))))))))⟩
def aSS:ACode:=.seq (oN [o4 104 16,o0 105 (o8 2 4),o0 106 (o7 105),o0 107 (oF 106),o0 108 (oH 104 107)]
 (.cond (.t 108) .skip
 (oM 0)))
 (.seq (.block 1 (oN [o0 111 (o8 2 4),o0 112 (o7 111),o4 113 16,o0 114 (oC 3 112 113),o0 115 (oB 3 114),o0 17 (.alloc [.int .i64 0,.int .i64 0,.bool false]),o1 (.store 3 (.t 17) (.t 115))]
 (oN [o0 116 (o8 17 0),o0 117 (o7 116),o4 118 11,o0 119 (oG false (.t 117) (.t 118))]
 (.cond (.t 119) (.dreg [o3 120 (.mklit 3 []) 0 0,o3 121 (o8 15 6) 0 0,o3 122 (o7 121) 0 0,o3 123 (.append 3 24 (.t 120) (.t 122)) 0 1,o3 124 (o8 17 1) 0 1,o3 125 (o7 124) 0 1,o3 126 (o8 17 2) 0 1,o3 127 (o7 126) 0 1,o3 128 (.build [.int .i64 0,.int .i64 0,.bool false] [(1,1,(.t 125)),(2,1,(.t 127))]) 0 1,o3 129 (.mklit 3 [.t 128]) 0 1,o3 130 (.append 3 24 (.t 123) (.t 129)) 1 2,o3 131 (o8 15 6) 2 2,⟨o1 (.store 1 (.t 131) (.t 130)),2,3⟩])
 .skip))))
 (.reg [o4 109 16,o0 110 (oI 109 1),o4 16 110]))
def a6:AFunc:=⟨206,[.tmp 4],
 oN [o0 2 (.box 5 (.t 0)),o0 3 (.box 2 (.t 1)),o0 4 (.mov (.c (.bool false)))]
 (oN [o0 29 (oB 5 2),o0 30 (oK 37 [.t 29]),o4 28 30,o0 31 (oD 28 0),o0 32 (oD 28 1),o0 33 (oD 28 2),o4 5 31,o4 6 32,o4 7 33]
 (.seq (.seq (.reg [o4 34 7,o0 35 (oG true (.t 34) (o5 0)),o4 36 35,o2 37 (o8 2 3) 36 false,o2 38 (o7 37) 36 false,o2 39 (oF 38) 36 false,o2 40 (oG false (.t 39) (o5 0)) 36 false,o0 41 (.pick (.t 36) (.c (.bool true)) (.t 40)),o4 42 41,o2 43 (oB 5 2) 42 false,o2 44 (oK 38 [(.t 43),(.c (.lit [] true none))]) 42 false,o2 45 (.not (.t 44)) 42 false,o0 46 (.pick (.t 42) (.c (.bool true)) (.t 45))])
 (.cond (.t 46) (oN [o0 48 (oB 5 2),o0 49 (oK 35 [(.t 48),(o5 0)]),o4 47 49,o0 50 (oD 47 0),o0 51 (oD 47 1),o0 52 (oD 47 2),o0 8 (.alloc [.int .i64 0,.int .i64 0]),o1 (.store 2 (.t 8) (.t 50)),o4 9 51,o4 10 52]
 (oN [o4 53 10,o0 54 (oG true (.t 53) (o5 0)),o4 55 54,o2 56 (oK 31 []) 55 true,o0 57 (.pick (.t 55) (.t 56) (.c (.bool false))),o4 58 57,o2 59 (oK 39 []) 58 true,o0 60 (.pick (.t 58) (.t 59) (.c (.bool false))),o4 4 60]
 oL))
 .skip))
 (oN [o0 61 (.iaddr (some 2) 1 (.t 3) (o5 0)),o0 62 (o7 61),o0 63 (.conv .i64 (.t 62)),o0 64 (o8 2 3),o0 65 (o7 64),o0 66 (oF 65),o0 67 (.bin .rem (.t 63) (.t 66)),o4 11 67]
 (oN [o0 69 (oB 5 2),o4 70 11,o0 71 (oK 35 [.t 69,.t 70]),o4 68 71,o0 72 (oD 68 0),o0 73 (oD 68 1),o0 74 (oD 68 2),o0 12 (.alloc [.int .i64 0,.int .i64 0]),o1 (.store 2 (.t 12) (.t 72)),o4 13 73,o4 14 74]
 (.seq (oN [o4 75 14,o0 76 (oG true (.t 75) (o5 0)),o4 77 76,o2 78 (o9 13) 77 false,o2 79 (oK 20 [(.t 78),(o5 0),(o5 2)]) 77 false,o2 80 (.not (.t 79)) 77 false,o0 81 (.pick (.t 77) (.c (.bool true)) (.t 80))]
 (.cond (.t 81) (oN [o0 4 (.mov (.c (.bool false)))]
 oL)
 .skip))
 (.seq (.reg [o0 82 (o8 2 0),o0 83 (o7 82),o0 84 (oF 83),o0 85 (.max [(o5 1),(.t 84)]),o0 86 (oB 2 12),o0 87 (.build [.int .i64 0,.bool false] [(1,1,(.c (.bool true)))]),o0 88 (.mklit 2 [.t 87]),⟨some 89,.build [.str ⟨#[]⟩,.int .i64 0] [(0,1,(.c (.str ⟨#[102,105,114,115,116]⟩)))],none⟩,⟨some 90,.build [.str ⟨#[]⟩,.int .i64 0] [(0,1,(.c (.str ⟨#[115,101,99,111,110,100]⟩))),(1,1,(o5 1))],none⟩,o0 91 (.mklit 2 [.t 89,.t 90]),o0 92 (.build [.int .i64 0,.int .i64 0,.int .i64 0,.lit [] true none,.lit [] true none,.int .i64 0,.lit [] true none] [(0,1,(.t 85)),(1,2,(.t 86)),(5,1,(o5 1)),(4,1,(.t 88)),(3,1,(.t 91))]),o0 15 (.alloc [.int .i64 0,.int .i64 0,.int .i64 0,.lit [] true none,.lit [] true none,.int .i64 0,.lit [] true none]),o1 (.store 7 (.t 15) (.t 92))])
 (.seq (.dreg [o3 93 (o8 15 3) 0 0,o3 94 (o7 93) 0 0,o3 95 (.iaddr (some 2) 1 (.t 3) (o5 1)) 0 0,o3 96 (o7 95) 0 0,o3 97 (.conv .i64 (.t 96)) 0 0,o3 98 (o8 15 0) 0 0,o3 99 (o7 98) 0 0,o3 100 (.bin .rem (.t 97) (.t 99)) 0 0,o3 101 (.bin .add (o5 1) (.t 100)) 0 0,o3 102 (.iaddr none 2 (.t 94) (o5 1)) 0 0,o3 103 (o8 102 1) 0 0,⟨o1 (.store 1 (.t 103) (.t 101)),0,1⟩])
 (.seq (oN [o0 16 (oA 0)]
 (.block 0 (.loop aSS)))
 (.seq (oN [o4 132 13,o0 133 (oG false (.t 132) (o5 2))]
 (.cond (.t 133) (.reg [o0 134 (o8 15 4),o1 (.store 1 (.t 134) (.c (.lit [] true none)))])
 .skip))
 (.seq (oN [o0 136 (oB 7 15),o0 137 (oK 40 [.t 136]),o4 135 137,o0 138 (oD 135 0),o0 139 (oD 135 1),o0 140 (oD 135 2),o4 18 138,o4 19 139,o4 20 140]
 (oN [o4 141 20,o0 142 (oG true (.t 141) (o5 0))]
 (.cond (.t 142) (oN [o0 4 (.mov (.c (.bool false)))]
 oL)
 .skip)))
 (oN [o0 144 (oB 7 15),o0 145 (oK 41 [.t 144]),o4 143 145,o0 146 (oD 143 0),o0 147 (oD 143 1),o4 21 146,o4 22 147]
 (oN [o0 149 (oB 7 15),o0 150 (oK 42 [(.t 149),(o5 0)]),o4 148 150,o0 151 (oD 148 0),o0 152 (oD 148 1),o0 153 (oD 148 2),o0 23 (.alloc [.int .i64 0,.int .i64 0]),o1 (.store 2 (.t 23) (.t 151)),o4 24 152,o4 25 153]
 (oN [o0 155 (oB 7 15),o0 156 (oK 43 [(.t 155),(o5 0)]),o4 154 156,o0 157 (oD 154 0),o0 158 (oD 154 1),o4 26 157,o4 27 158]
 (.seq (oN [o4 159 22,o0 160 (oG true (.t 159) (o5 0)),o4 161 160,o2 162 (o9 25) 161 false,o2 163 (oG true (.t 162) (o5 0)) 161 false,o0 164 (.pick (.t 161) (.c (.bool true)) (.t 163)),o4 165 164,o2 166 (o9 27) 165 false,o2 167 (oG true (.t 166) (o5 0)) 165 false,o0 168 (.pick (.t 165) (.c (.bool true)) (.t 167)),o4 169 168,o2 170 (o9 21) 169 false,o2 171 (oF 170) 169 false,o2 172 (.bin .gtr (.t 171) (o5 0)) 169 false,o0 173 (.pick (.t 169) (.c (.bool true)) (.t 172)),o4 174 173,o2 175 (oB 2 23) 174 false,o2 176 (oB 2 12) 174 false,o2 177 (.eql (.agg [.i,.i]) true (.t 175) (.t 176)) 174 false,o0 178 (.pick (.t 174) (.c (.bool true)) (.t 177)),o4 179 178,o2 180 (o9 24) 179 false,o2 181 (oG false (.t 180) (o5 2)) 179 false,o2 182 (o9 13) 179 false,o2 183 (oG false (.t 182) (o5 2)) 179 false,o2 184 (.eql (.one .b) true (.t 181) (.t 183)) 179 false,o0 185 (.pick (.t 179) (.c (.bool true)) (.t 184))]
 (.cond (.t 185) (oN [o0 4 (.mov (.c (.bool false)))]
 oL)
 .skip))
 (.seq (oN [o4 186 13,o0 187 (oG false (.t 186) (o5 2))]
 (.cond (.t 187) (oN [o4 188 26,o0 189 (oF 188),o0 190 (oG false (.t 189) (o5 0)),o4 191 190,o2 192 (oK 31 []) 191 true,o0 193 (.pick (.t 191) (.t 192) (.c (.bool false))),o4 194 193,o2 195 (oK 39 []) 194 true,o0 196 (.pick (.t 194) (.t 195) (.c (.bool false))),o4 4 196]
 oL)
 .skip))
 (oN [o4 197 26,o0 198 (.mklit 1 [(o5 0)]),o0 199 (oK 44 [.t 197,.t 198]),o4 200 199,o2 201 (oK 31 []) 200 true,o0 202 (.pick (.t 200) (.t 201) (.c (.bool false))),o4 203 202,o2 204 (oK 39 []) 203 true,o0 205 (.pick (.t 203) (.t 204) (.c (.bool false))),o4 4 205]
 oL))))))))))))))))⟩
def aT6:ACode:=.seq (oN [o4 100 20,o4 101 14,o0 102 (oF 101),o0 103 (oH 100 102)]
 (.cond (.t 103) .skip
 (oM 0)))
 (.seq (.block 1 (.seq (.reg [o0 106 (o8 4 3),o0 107 (o7 106),o4 108 20,o0 109 (oC 6 107 108),o0 110 (oB 6 109),⟨some 21,.alloc [.str ⟨#[]⟩,.int .i64 0,.int .i64 0,.int .i64 0,.int .i64 0,.int .i64 0],none⟩,o1 (.store 6 (.t 21) (.t 110))])
 (.seq (.seq (.dreg [o3 111 (o9 17) 0 0,o3 112 (o9 20) 0 0,o3 113 (oC 1 111 112) 0 0,o3 114 (o7 113) 0 0,o3 115 (o9 14) 0 0,o3 116 (o9 20) 0 0,o3 117 (oC 2 115 116) 0 0,o3 118 (oB 2 117) 0 0,o3 119 (oK 53 [.t 114,.t 118]) 0 1,o3 120 (.not (.t 119)) 1 1])
 (.cond (.t 120) (oN [o0 6 (.mov (.c (.bool false)))]
 oL)
 .skip))
 (oN [o4 121 14,o4 122 20,o0 123 (oC 2 121 122),o0 124 (o8 123 1),o0 125 (o7 124),o0 126 (oK 54 [.t 125]),o0 127 (o8 21 1),o1 (.store 1 (.t 127) (.t 126))]
 (oN [o0 128 (o8 21 3),o0 129 (o7 128),o0 130 (o8 21 1),o0 131 (o7 130),o0 132 (.max [.t 129,.t 131]),o0 133 (o8 21 3),o1 (.store 1 (.t 133) (.t 132))]
 (.seq (.reg [o0 134 (oB 6 21),⟨some 22,.alloc [.str ⟨#[]⟩,.int .i64 0,.int .i64 0,.int .i64 0,.int .i64 0,.int .i64 0],none⟩,o1 (.store 6 (.t 22) (.t 134))])
 (oN [o4 135 17,o4 136 20,o0 137 (oC 1 135 136),o0 138 (o7 137),o0 139 (oK 54 [.t 138]),o0 140 (o8 22 1),o1 (.store 1 (.t 140) (.t 139))]
 (.seq (.dreg [o3 141 (.mklit 6 []) 0 0,o3 142 (o8 18 3) 0 0,o3 143 (o7 142) 0 0,o3 144 (.append 6 56 (.t 141) (.t 143)) 0 1,o3 145 (oB 6 21) 0 1,o3 146 (.mklit 6 [.t 145]) 0 1,o3 147 (.append 6 56 (.t 144) (.t 146)) 1 2,o3 148 (o8 18 3) 2 2,⟨o1 (.store 1 (.t 148) (.t 147)),2,3⟩])
 (.dreg [o3 149 (.mklit 6 []) 0 0,o3 150 (o8 19 3) 0 0,o3 151 (o7 150) 0 0,o3 152 (.append 6 56 (.t 149) (.t 151)) 0 1,o3 153 (oB 6 22) 0 1,o3 154 (.mklit 6 [.t 153]) 0 1,o3 155 (.append 6 56 (.t 152) (.t 154)) 1 2,o3 156 (o8 19 3) 2 2,⟨o1 (.store 1 (.t 156) (.t 155)),2,3⟩])))))))))
 (.reg [o4 104 20,o0 105 (oI 104 1),o4 20 105]))
def a7:AFunc:=⟨206,[.tmp 6],
 oN [o0 3 (.box 4 (.t 0)),o0 4 (.box 4 (.t 1)),o0 6 (.mov (.c (.bool false)))]
 (oN [o0 31 (oB 4 3),o0 32 (oK 45 [.t 31]),o4 30 32,o0 33 (oD 30 0),o0 34 (oD 30 1),o0 35 (oD 30 2),o4 7 33,o4 8 34,o4 9 35]
 (oN [o0 37 (oB 4 4),o0 38 (oK 46 [.t 37]),o4 36 38,o0 39 (oD 36 0),o0 40 (oD 36 1),o0 41 (oD 36 2),o4 10 39,o4 11 40,o4 12 41]
 (.seq (oN [o4 42 9,o0 43 (oG true (.t 42) (o5 0)),o4 44 43,o2 45 (o9 12) 44 false,o2 46 (oG true (.t 45) (o5 0)) 44 false,o0 47 (.pick (.t 44) (.c (.bool true)) (.t 46)),o4 48 47,o2 49 (o8 4 3) 48 false,o2 50 (o7 49) 48 false,o2 51 (oF 50) 48 false,o2 52 (o8 3 2) 48 false,o2 53 (o7 52) 48 false,o2 54 (oF 53) 48 false,o2 55 (oH 51 54) 48 false,o0 56 (.pick (.t 48) (.c (.bool true)) (.t 55))]
 (.cond (.t 56) (oN [o0 57 (oK 47 []),o4 58 57,o2 59 (oK 48 []) 58 true,o0 60 (.pick (.t 58) (.t 59) (.c (.bool false))),o4 6 60]
 oL)
 .skip))
 (.seq (.reg [o0 61 (oB 4 3),o0 62 (oK 49 [(.t 61),(.c (.lit [] true none))]),o4 13 62])
 (.seq (oN [o4 63 13,o0 64 (oF 63),o0 65 (oG false (.t 64) (o5 0))]
 (.cond (.t 65) (oN [o0 66 (oK 47 []),o4 67 66,o2 68 (oK 48 []) 67 true,o0 69 (.pick (.t 67) (.t 68) (.c (.bool false))),o4 6 69]
 oL)
 .skip))
 (oN [o0 71 (oB 4 3),o0 72 (oK 50 [.t 71]),o4 70 72,o0 73 (oD 70 0),o0 74 (oD 70 1),o4 14 73,o4 15 74]
 (.seq (oN [o4 75 15,o0 76 (.not (.t 75))]
 (.cond (.t 76) (oN [o0 77 (oK 47 []),o4 78 77,o2 79 (oK 48 []) 78 true,o0 80 (.pick (.t 78) (.t 79) (.c (.bool false))),o4 6 80]
 oL)
 .skip))
 (.seq (.dreg [o3 82 (oB 4 3) 0 1,o3 83 (o9 13) 0 1,o3 84 (o9 2) 0 1,o3 85 (.conv .i64 (.t 84)) 0 1,o3 86 (o9 13) 0 1,o3 87 (oF 86) 0 1,o3 88 (.bin .rem (.t 85) (.t 87)) 0 1,o3 89 (oC 2 83 88) 0 1,o3 90 (oB 2 89) 0 1,o3 91 (oB 4 3) 0 0,o3 92 (oK 52 [.t 91]) 0 1,o3 93 (oK 51 [.t 82,.t 90,.t 92]) 1 2,o3 81 (o9 93) 2 2,o3 94 (oD 81 0) 2 2,o3 95 (oD 81 1) 2 2,o3 16 (o9 94) 2 2,o3 17 (o9 95) 2 2])
 (.seq (.dreg [o3 96 (oB 4 4) 0 0,o3 97 (oB 4 4) 0 1,o3 18 (.alloc [.int .i64 0,.int .i64 0,.int .i64 0,.lit [] true none]) 0 0,o3 19 (.alloc [.int .i64 0,.int .i64 0,.int .i64 0,.lit [] true none]) 0 0,⟨o1 (.store 4 (.t 18) (.t 96)),0,1⟩,⟨o1 (.store 4 (.t 19) (.t 97)),1,2⟩])
 (oN [o0 98 (o8 18 3),o1 (.store 1 (.t 98) (.c (.lit [] true none))),o0 99 (o8 19 3),o1 (.store 1 (.t 99) (.c (.lit [] true none)))]
 (.seq (oN [o0 20 (oA 0)]
 (.block 0 (.loop aT6)))
 (oN [o0 158 (oB 4 18),o0 159 (oK 55 [.t 158]),o4 157 159,o0 160 (oD 157 0),o0 161 (oD 157 1),o0 162 (oD 157 2),o4 23 160,o4 24 161,o4 25 162]
 (.seq (oN [o4 163 25,o0 164 (oG true (.t 163) (o5 0))]
 (.cond (.t 164) (oN [o4 165 25,o0 166 (oG false (.t 165) (o5 9)),o4 167 166,o2 168 (oK 47 []) 167 true,o0 169 (.pick (.t 167) (.t 168) (.c (.bool false))),o4 170 169,o2 171 (oK 48 []) 170 true,o0 172 (.pick (.t 170) (.t 171) (.c (.bool false))),o4 6 172]
 oL)
 .skip))
 (oN [o0 174 (oB 4 19),o4 175 23,o0 176 (oK 56 [.t 174,.t 175]),o4 173 176,o0 177 (oD 173 0),o0 178 (oD 173 1),o4 26 177,o4 27 178]
 (oN [o0 180 (oB 4 19),o4 181 23,o0 182 (oK 57 [.t 180,.t 181]),o4 179 182,o0 183 (oD 179 0),o0 184 (oD 179 1),o4 28 183,o4 29 184]
 (oN [o4 185 27,o0 186 (oG false (.t 185) (o5 0)),o4 187 186,o2 188 (o9 29) 187 true,o2 189 (oG false (.t 188) (o5 0)) 187 true,o0 190 (.pick (.t 187) (.t 189) (.c (.bool false))),o4 191 190,o2 192 (o9 26) 191 true,o2 193 (oG false (.t 192) (o5 1)) 191 true,o0 194 (.pick (.t 191) (.t 193) (.c (.bool false))),o4 195 194,o2 196 (o9 28) 195 true,o2 197 (o9 24) 195 true,o2 198 (.bin .leq (.t 196) (.t 197)) 195 true,o0 199 (.pick (.t 195) (.t 198) (.c (.bool false))),o4 200 199,o2 201 (oK 47 []) 200 true,o0 202 (.pick (.t 200) (.t 201) (.c (.bool false))),o4 203 202,o2 204 (oK 48 []) 203 true,o0 205 (.pick (.t 203) (.t 204) (.c (.bool false))),o4 6 205]
 oL))))))))))))))))⟩
def aNY:ACode:=.seq (oN [o4 99 18,o4 100 15,o0 101 (oF 100),o0 102 (oH 99 101)]
 (.cond (.t 102) .skip
 (oM 0)))
 (.seq (.block 1 (.dreg [o3 105 (oB 2 17) 0 0,o3 106 (o9 15) 0 0,o3 107 (o9 18) 0 0,o3 108 (oC 2 106 107) 0 0,o3 109 (o8 108 0) 0 0,o3 110 (o7 109) 0 0,o3 111 (oK 58 [.t 105,.t 110]) 0 1,o3 112 (o9 15) 0 1,o3 113 (o9 18) 0 1,o3 114 (oC 2 112 113) 0 1,o3 115 (o8 114 1) 0 1,o3 116 (o7 115) 0 1,o3 117 (oK 58 [.t 111,.t 116]) 1 2,⟨o1 (.store 2 (.t 17) (.t 117)),2,3⟩]))
 (.reg [o4 103 18,o0 104 (oI 103 1),o4 18 104]))
def a8:AFunc:=⟨244,[.tmp 6],
 oN [o0 3 (.box 7 (.t 0)),o0 4 (.box 4 (.t 1)),o0 6 (.mov (.c (.bool false)))]
 (oN [o0 31 (oB 7 3),o0 32 (oK 10 [.t 31]),o4 30 32,o0 33 (oD 30 0),o0 34 (oD 30 1),o0 35 (oD 30 2),o4 7 33,o4 8 34,o4 9 35]
 (oN [o0 37 (oB 4 4),o0 38 (oK 45 [.t 37]),o4 36 38,o0 39 (oD 36 0),o0 40 (oD 36 1),o0 41 (oD 36 2),o4 10 39,o4 11 40,o4 12 41]
 (.seq (oN [o4 42 9,o0 43 (oG true (.t 42) (o5 0)),o4 44 43,o2 45 (o9 12) 44 false,o2 46 (oG true (.t 45) (o5 0)) 44 false,o0 47 (.pick (.t 44) (.c (.bool true)) (.t 46)),o4 48 47,o2 49 (o8 3 5) 48 false,o2 50 (o7 49) 48 false,o2 51 (oF 50) 48 false,o2 52 (oG false (.t 51) (o5 0)) 48 false,o0 53 (.pick (.t 48) (.c (.bool true)) (.t 52)),o4 54 53,o2 55 (o8 4 2) 54 false,o2 56 (o7 55) 54 false,o2 57 (oF 56) 54 false,o2 58 (oG false (.t 57) (o5 0)) 54 false,o0 59 (.pick (.t 54) (.c (.bool true)) (.t 58)),o4 60 59,o2 61 (o9 2) 60 false,o2 62 (oF 61) 60 false,o2 63 (.bin .lss (.t 62) (o5 6)) 60 false,o0 64 (.pick (.t 60) (.c (.bool true)) (.t 63))]
 (.cond (.t 64) (oN [o0 65 (oK 12 []),o4 66 65,o2 67 (oK 48 []) 66 true,o0 68 (.pick (.t 66) (.t 67) (.c (.bool false))),o4 6 68]
 oL)
 .skip))
 (.seq (.dreg [o3 69 (oB 4 4) 0 0,o3 70 (oK 49 [(.t 69),(.c (.lit [] true none))]) 0 1,o3 71 (oB 7 3) 0 1,o3 72 (oK 14 [(.t 71),(.c (.lit [] true none))]) 1 2,o3 13 (o9 70) 2 2,o3 14 (o9 72) 2 2])
 (.seq (oN [o4 73 13,o0 74 (oF 73),o0 75 (oG false (.t 74) (o5 0)),o4 76 75,o2 77 (o9 14) 76 false,o2 78 (oF 77) 76 false,o2 79 (oG false (.t 78) (o5 0)) 76 false,o0 80 (.pick (.t 76) (.c (.bool true)) (.t 79))]
 (.cond (.t 80) (oN [o0 81 (oK 12 []),o4 82 81,o2 83 (oK 48 []) 82 true,o0 84 (.pick (.t 82) (.t 83) (.c (.bool false))),o4 6 84]
 oL)
 .skip))
 (oN [o0 86 (oB 4 4),o0 87 (oK 50 [.t 86]),o4 85 87,o0 88 (oD 85 0),o0 89 (oD 85 1),o4 15 88,o4 16 89]
 (.seq (oN [o4 90 16,o0 91 (.not (.t 90))]
 (.cond (.t 91) (oN [o0 92 (oK 12 []),o4 93 92,o2 94 (oK 48 []) 93 true,o0 95 (.pick (.t 93) (.t 94) (.c (.bool false))),o4 6 95]
 oL)
 .skip))
 (oN [o4 96 15,o0 97 (.iaddr none 2 (.t 96) (o5 0)),o0 98 (oB 2 97),o0 17 (.alloc [.int .i64 0,.int .i64 0]),o1 (.store 2 (.t 17) (.t 98))]
 (.seq (oN [o0 18 (oA 1)]
 (.block 0 (.loop aNY)))
 (.seq (.dreg [o3 118 (o8 17 0) 0 0,o3 119 (o7 118) 0 0,o3 120 (oK 54 [.t 119]) 0 1,o3 121 (o8 17 1) 0 1,o3 122 (o7 121) 0 1,o3 123 (oK 54 [.t 122]) 1 2,o3 124 (.build [.int .i64 0,.int .i64 0] [(0,1,(.t 120)),(1,1,(.t 123))]) 2 2,o3 125 (o8 3 3) 2 2,⟨o1 (.store 2 (.t 125) (.t 124)),2,3⟩])
 (.seq (.dreg [o3 126 (o9 2) 0 0,o3 127 (.iaddr none 1 (.t 126) (o5 0)) 0 0,o3 128 (o7 127) 0 0,o3 129 (.conv .i64 (.t 128)) 0 0,o3 130 (o8 3 5) 0 0,o3 131 (o7 130) 0 0,o3 132 (oF 131) 0 0,o3 133 (.bin .rem (.t 129) (.t 132)) 0 0,o3 134 (o9 2) 0 0,o3 135 (.iaddr none 1 (.t 134) (o5 1)) 0 0,o3 136 (o7 135) 0 0,o3 137 (.conv .i64 (.t 136)) 0 0,o3 138 (o8 3 0) 0 0,o3 139 (o7 138) 0 0,o3 140 (oF 139) 0 0,o3 141 (oI 140 1) 0 0,o3 142 (.bin .rem (.t 137) (.t 141)) 0 0,o3 19 (o9 133) 0 0,o3 20 (o9 142) 0 0])
 (oN [o0 144 (oB 7 3),o4 145 19,o4 146 20,o0 147 (oK 59 [.t 144,.t 145,.t 146]),o4 143 147,o0 148 (oD 143 0),o0 149 (oD 143 1),o4 21 148,o4 22 149]
 (.seq (oN [o4 150 22,o0 151 (oG true (.t 150) (o5 0))]
 (.cond (.t 151) (oN [o0 6 (.mov (.c (.bool false)))]
 oL)
 .skip))
 (.seq (.reg [o4 152 14,o4 153 2,o0 154 (.iaddr none 1 (.t 153) (o5 2)),o0 155 (o7 154),o0 156 (.conv .i64 (.t 155)),o4 157 14,o0 158 (oF 157),o0 159 (.bin .rem (.t 156) (.t 158)),o0 160 (oC 2 152 159),o0 161 (oB 2 160),o0 23 (.alloc [.lit [] true none,.lit [] true none]),o1 (.store 2 (.t 23) (.t 161))])
 (.seq (.dreg [o3 162 (o8 23 1) 0 0,o3 163 (o7 162) 0 0,o3 164 (o9 19) 0 0,o3 165 (oC 1 163 164) 0 0,o3 166 (o7 165) 0 0,o3 167 (o9 2) 0 0,o3 168 (.iaddr none 1 (.t 167) (o5 3)) 0 0,o3 169 (o7 168) 0 0,o3 170 (.conv .i64 (.t 169)) 0 0,o3 171 (o8 23 1) 0 0,o3 172 (o7 171) 0 0,o3 173 (o9 19) 0 0,o3 174 (oC 1 172 173) 0 0,o3 175 (o7 174) 0 0,o3 176 (oF 175) 0 0,o3 177 (.bin .rem (.t 170) (.t 176)) 0 0,o3 178 (oC 1 166 177) 0 0,o3 179 (o7 178) 0 0,o3 24 (o9 179) 0 0])
 (.seq (.dreg [o3 181 (oB 4 4) 0 1,o3 182 (o9 13) 0 1,o3 183 (o9 2) 0 1,o3 184 (.iaddr none 1 (.t 183) (o5 4)) 0 1,o3 185 (o7 184) 0 1,o3 186 (.conv .i64 (.t 185)) 0 1,o3 187 (o9 13) 0 1,o3 188 (oF 187) 0 1,o3 189 (.bin .rem (.t 186) (.t 188)) 0 1,o3 190 (oC 2 182 189) 0 1,o3 191 (oB 2 190) 0 1,o3 192 (oB 4 4) 0 0,o3 193 (oK 52 [.t 192]) 0 1,o3 194 (oK 51 [.t 181,.t 191,.t 193]) 1 2,o3 180 (o9 194) 2 2,o3 195 (oD 180 0) 2 2,o3 196 (oD 180 1) 2 2,o3 25 (o9 195) 2 2,o3 26 (o9 196) 2 2])
 (oN [o4 197 26,o4 198 2,o0 199 (.iaddr none 1 (.t 198) (o5 5)),o0 200 (o7 199),o0 201 (.conv .i64 (.t 200)),o4 202 26,o0 203 (oF 202),o0 204 (.bin .rem (.t 201) (.t 203)),o0 205 (oC 1 197 204),o0 206 (o7 205),o0 207 (oK 54 [.t 206]),o4 27 207]
 (oN [o0 208 (o8 23 0),o0 209 (o7 208),o4 210 24,o4 211 20,o0 212 (oK 18 [.t 209,.t 210,.t 211]),o4 28 212]
 (oN [o4 213 28,o0 214 (o8 3 1),o0 215 (o7 214),o0 216 (.bin .geq (.t 213) (.t 215)),o4 217 216,o2 218 (o9 28) 217 true,o2 219 (o9 27) 217 true,o2 220 (.bin .add (.t 218) (.t 219)) 217 true,o2 221 (o8 3 2) 217 true,o2 222 (o7 221) 217 true,o2 223 (.bin .leq (.t 220) (.t 222)) 217 true,o0 224 (.pick (.t 217) (.t 223) (.c (.bool false))),o4 29 224]
 (oN [o4 225 21,o0 226 (oG true (.t 225) (o5 1)),o4 227 226,o2 228 (o9 29) 227 false,o0 229 (.pick (.t 227) (.c (.bool true)) (.t 228)),o4 230 229,o2 231 (o9 21) 230 true,o2 232 (oG true (.t 231) (o5 2)) 230 true,o2 233 (o9 232) 230 true,o2 234 (o9 29) 233 false,o2 235 (.not (.t 234)) 233 false,o2 236 (.pick (.t 233) (.c (.bool true)) (.t 235)) 230 true,o0 237 (.pick (.t 230) (.t 236) (.c (.bool false))),o4 238 237,o2 239 (oK 12 []) 238 true,o0 240 (.pick (.t 238) (.t 239) (.c (.bool false))),o4 241 240,o2 242 (oK 48 []) 241 true,o0 243 (.pick (.t 241) (.t 242) (.c (.bool false))),o4 6 243]
 oL))))))))))))))))))))⟩
def aJW:ACode:=.seq (oN [o4 20 5,o0 21 (o8 1 0),o0 22 (o7 21),o0 23 (oF 22),o0 24 (oH 20 23)]
 (.cond (.t 24) .skip
 (oM 0)))
 (.seq (.block 1 (oN [o0 27 (o8 1 0),o0 28 (o7 27),o4 29 5,o0 30 (oC 2 28 29),o0 31 (oB 2 30),o0 32 (oK 29 [(.t 31),(o5 0),(o5 2)]),o4 6 32]
 (oN [o4 33 6,o0 34 (oG true (.t 33) (o5 0))]
 (.cond (.t 34) (oN [o4 35 5,o4 36 6,o0 2 (oA 1),o4 3 35,o4 4 36]
 oL)
 .skip))))
 (.reg [o4 25 5,o0 26 (oI 25 1),o4 5 26]))
def aJZ:ACode:=.seq (oN [o4 61 9,o0 62 (o8 1 5),o0 63 (o7 62),o0 64 (oF 63),o0 65 (oH 61 64)]
 (.cond (.t 65) .skip
 (oM 2)))
 (.seq (.block 3 (.seq (.reg [o0 68 (o8 1 5),o0 69 (o7 68),o4 70 9,o0 71 (oC 4 69 70),o0 72 (oB 4 71),⟨some 10,.alloc [.str ⟨#[]⟩,.int .i64 0,.int .i64 0,.int .i64 0],none⟩,o1 (.store 4 (.t 10) (.t 72))])
 (oN [o0 73 (o8 10 0),o0 74 (o7 73),o4 75 8,o0 76 (oK 67 [.t 74,.t 75]),o4 11 76]
 (oN [o4 77 8,o0 78 (o8 10 0),o0 79 (o7 78),o0 80 (.mklit 1 [.t 79]),o0 81 (.append 1 16 (.t 77) (.t 80)),o4 8 81]
 (.seq (.dreg [o3 82 (o8 10 1) 0 1,o3 83 (oB 2 82) 0 1,o3 84 (oB 7 1) 0 0,o3 85 (oK 68 [.t 84]) 0 1,o3 86 (.bin .sub (.t 85) (o5 1)) 1 1,o3 87 (oK 29 [(.t 83),(o5 0),(.t 86)]) 1 2,o3 12 (o9 87) 2 2])
 (.seq (oN [o4 88 11,o0 89 (oG false (.t 88) (o5 0)),o4 90 89,o2 91 (o9 12) 90 true,o2 92 (oG false (.t 91) (o5 7)) 90 true,o2 93 (o9 92) 90 true,o2 94 (o8 10 3) 93 false,o2 95 (o7 94) 93 false,o2 96 (oK 20 [(.t 95),(o5 1),(o5 99)]) 93 false,o2 97 (.not (.t 96)) 93 false,o2 98 (.pick (.t 93) (.c (.bool true)) (.t 97)) 90 true,o0 99 (.pick (.t 90) (.t 98) (.c (.bool false)))]
 (.cond (.t 99) (.reg [o0 11 (oA 7)])
 .skip))
 (.seq (oN [o4 100 11,o0 101 (oG false (.t 100) (o5 0))]
 (.cond (.t 101) (.reg [o4 102 12,o4 11 102])
 .skip))
 (oN [o4 103 11,o0 104 (oG true (.t 103) (o5 0))]
 (.cond (.t 104) (oN [o4 105 9,o4 106 11,o0 2 (oA 3),o4 3 105,o4 4 106]
 oL)
 .skip)))))))))
 (.reg [o4 66 9,o0 67 (oI 66 1),o4 9 67]))
def aIN:ACode:=.seq (oN [o4 111 13,o0 112 (o8 1 6),o0 113 (o7 112),o0 114 (oF 113),o0 115 (oH 111 114)]
 (.cond (.t 115) .skip
 (oM 4)))
 (.seq (.block 5 (oN [o0 118 (o8 1 6),o0 119 (o7 118),o4 120 13,o0 121 (oC 3 119 120),o0 122 (oB 3 121),o0 14 (.alloc [.int .i64 0,.int .i64 0,.int .i64 0]),o1 (.store 3 (.t 14) (.t 122))]
 (.seq (oN [o0 123 (o8 14 0),o0 124 (o7 123),o0 125 (o8 1 5),o0 126 (o7 125),o0 127 (oF 126),o0 128 (.bin .sub (.t 127) (o5 1)),o0 129 (oK 20 [(.t 124),(o5 0),(.t 128)]),o0 130 (.not (.t 129))]
 (.cond (.t 130) (oN [o4 131 13,o0 2 (oA 4),o4 3 131,o0 4 (oA 4)]
 oL)
 .skip))
 (.seq (.dreg [o3 132 (o8 14 1) 0 1,o3 133 (o7 132) 0 1,o3 134 (oB 7 1) 0 0,o3 135 (oK 68 [.t 134]) 0 1,o3 136 (oK 20 [(.t 133),(o5 0),(.t 135)]) 1 2,o3 137 (.not (.t 136)) 2 2,o3 138 (o9 137) 2 2,⟨o2 139 (o8 14 2) 138 false,2,2⟩,⟨o2 140 (o7 139) 138 false,2,2⟩,⟨o2 141 (oK 20 [(.t 140),(o5 0),(o5 30)]) 138 false,2,3⟩,⟨o2 142 (.not (.t 141)) 138 false,3,3⟩,o3 143 (.pick (.t 138) (.c (.bool true)) (.t 142)) 3 3])
 (.cond (.t 143) (oN [o4 144 13,o0 2 (oA 4),o4 3 144,o0 4 (oA 7)]
 oL)
 .skip)))))
 (.reg [o4 116 13,o0 117 (oI 116 1),o4 13 117]))
def a10:AFunc:=⟨145,[.tmp 2,.tmp 3,.tmp 4],
 oN [o0 1 (.box 7 (.t 0)),o0 2 (oA 0),o0 3 (oA 0),o0 4 (oA 0)]
 (.seq (oN [o0 15 (o8 1 0),o0 16 (o7 15),o0 17 (oF 16),o0 18 (oK 20 [(.t 17),(o5 1),(o5 7)]),o0 19 (.not (.t 18))]
 (.cond (.t 19) (oN [o0 2 (oA 1),o0 3 (oA 0),o0 4 (oA 3)]
 oL)
 .skip))
 (.seq (oN [o0 5 (oA 0)]
 (.block 0 (.loop aJW)))
 (oN [o0 37 (o8 1 3),o0 38 (oB 2 37),o0 39 (oK 29 [(.t 38),(o5 0),(o5 9)]),o4 7 39]
 (.seq (oN [o0 40 (o8 1 1),o0 41 (o7 40),o0 42 (oK 20 [(.t 41),(o5 0),(o5 30)]),o0 43 (.not (.t 42)),o4 44 43,o2 45 (o8 1 2) 44 false,o2 46 (o7 45) 44 false,o2 47 (oK 20 [(.t 46),(o5 0),(o5 30)]) 44 false,o2 48 (.not (.t 47)) 44 false,o0 49 (.pick (.t 44) (.c (.bool true)) (.t 48)),o4 50 49,o2 51 (o9 7) 50 false,o2 52 (oG false (.t 51) (o5 7)) 50 false,o0 53 (.pick (.t 50) (.c (.bool true)) (.t 52))]
 (.cond (.t 53) (oN [o0 2 (oA 2),o0 3 (oA 0),o0 4 (oA 7)]
 oL)
 .skip))
 (.seq (oN [o4 54 7,o0 55 (oG true (.t 54) (o5 0))]
 (.cond (.t 55) (oN [o4 56 7,o0 2 (oA 2),o0 3 (oA 0),o4 4 56]
 oL)
 .skip))
 (.seq (oN [o0 57 (o8 1 5),o0 58 (o7 57),o0 59 (oF 58),o0 60 (.bin .gtr (.t 59) (o5 4))]
 (.cond (.t 60) (oN [o0 2 (oA 3),o0 3 (oA 0),o0 4 (oA 3)]
 oL)
 .skip))
 (oN [o0 8 (.mov (.c (.lit [] true none)))]
 (.seq (oN [o0 9 (oA 0)]
 (.block 2 (.loop aJZ)))
 (.seq (oN [o0 107 (o8 1 6),o0 108 (o7 107),o0 109 (oF 108),o0 110 (.bin .gtr (.t 109) (o5 4))]
 (.cond (.t 110) (oN [o0 2 (oA 4),o0 3 (oA 0),o0 4 (oA 3)]
 oL)
 .skip))
 (.seq (oN [o0 13 (oA 0)]
 (.block 4 (.loop aIN)))
 (oN [o0 2 (oA 0),o0 3 (oA 0),o0 4 (oA 0)]
 oL)))))))))))⟩
def a12:AFunc:=⟨205,[.tmp 0],
 oN [o0 0 (.mov (.c (.bool false)))]
 (.seq (.reg [o0 31 (oK 72 [(.c (.lit [] true none))]),o0 32 (oK 73 [(o5 1),(o5 3),(o5 2)]),o0 33 (.mklit 3 [.t 32]),o0 34 (oK 72 [.t 33]),o0 1 (.alloc [.lit [] true none,.int .i64 0,.int .i64 0,.int .i64 0,.int .i64 0,.lit [] true none,.lit [] true none]),o0 2 (.alloc [.lit [] true none,.int .i64 0,.int .i64 0,.int .i64 0,.int .i64 0,.lit [] true none,.lit [] true none]),o1 (.store 7 (.t 1) (.t 31)),o1 (.store 7 (.t 2) (.t 34))])
 (.seq (.reg [o0 35 (oK 73 [(o5 1),(o5 3),(o5 2)]),o0 36 (oK 73 [(o5 0),(o5 1),(o5 3)]),o0 37 (.mklit 3 [.t 35,.t 36]),o0 38 (oK 72 [.t 37]),o0 3 (.alloc [.lit [] true none,.int .i64 0,.int .i64 0,.int .i64 0,.int .i64 0,.lit [] true none,.lit [] true none]),o1 (.store 7 (.t 3) (.t 38))])
 (oN [o0 40 (oB 7 1),o0 41 (oK 15 [(.t 40),(o5 1),(o5 4)]),o4 39 41,o0 42 (oD 39 0),o0 43 (oD 39 1),o0 4 (.alloc [.int .i64 0,.int .i64 0]),o1 (.store 2 (.t 4) (.t 42)),o4 5 43]
 (oN [o0 45 (oB 7 2),o0 46 (oK 15 [(.t 45),(o5 1),(o5 4)]),o4 44 46,o0 47 (oD 44 0),o0 48 (oD 44 1),o0 6 (.alloc [.int .i64 0,.int .i64 0]),o1 (.store 2 (.t 6) (.t 47)),o4 7 48]
 (oN [o0 50 (oB 7 1),o0 51 (oK 59 [(.t 50),(o5 0),(o5 4)]),o4 49 51,o0 52 (oD 49 0),o0 53 (oD 49 1),o4 8 52,o4 9 53]
 (oN [o0 55 (oB 7 1),o0 56 (oK 59 [(.t 55),(o5 0),(o5 3)]),o4 54 56,o0 57 (oD 54 0),o0 58 (oD 54 1),o4 10 57,o4 11 58]
 (oN [o0 60 (oB 7 1),o0 61 (oK 74 [(.t 60),(o5 0)]),o4 59 61,o0 62 (oD 59 0),o0 63 (oD 59 1),o0 64 (oD 59 2),o4 12 62,o4 13 63,o4 14 64]
 (oN [o0 66 (oB 7 1),o0 67 (oK 75 [(.t 66),(o5 0)]),o4 65 67,o0 68 (oD 65 0),o0 69 (oD 65 1),o4 15 68,o4 16 69]
 (oN [o0 71 (oB 7 1),o0 72 (oK 26 [(.t 71),(o5 4),(o5 50)]),o4 70 72,o0 73 (oD 70 0),o0 74 (oD 70 1),o0 75 (oD 70 2),o4 17 73,o4 18 74,o4 19 75]
 (oN [o0 77 (oB 7 1),o0 78 (oK 26 [(.t 77),(o5 4),(o5 80)]),o4 76 78,o0 79 (oD 76 0),o0 80 (oD 76 1),o0 81 (oD 76 2),o4 20 79,o4 21 80,o4 22 81]
 (oN [o0 83 (oB 7 2),o0 84 (oK 76 [(.t 83),(o5 1)]),o4 82 84,o0 85 (oD 82 0),o0 86 (oD 82 1),o0 23 (.alloc [.int .i64 0,.int .i64 0]),o1 (.store 2 (.t 23) (.t 85)),o4 24 86]
 (oN [o0 88 (oB 7 2),o0 89 (oK 77 [(.t 88),(o5 1)]),o4 87 89,o0 90 (oD 87 0),o0 91 (oD 87 1),o4 25 90,o4 26 91]
 (oN [o0 93 (oB 7 3),o0 94 (oK 78 [.t 93]),o4 92 94,o0 95 (oD 92 0),o0 96 (oD 92 1),o4 27 95,o4 28 96]
 (oN [o0 98 (oB 7 3),o0 99 (oK 75 [(.t 98),(o5 0)]),o4 97 99,o0 100 (oD 97 0),o0 101 (oD 97 1),o4 29 100,o4 30 101]
 (.seq (.dreg [o3 102 (o9 5) 0 0,o3 103 (oG false (.t 102) (o5 0)) 0 0,o3 104 (o9 103) 0 0,⟨o2 105 (o9 7) 104 true,0,0⟩,⟨o2 106 (oG false (.t 105) (o5 0)) 104 true,0,0⟩,o3 107 (.pick (.t 104) (.t 106) (.c (.bool false))) 0 0,o3 108 (o9 107) 0 0,⟨o2 109 (o9 9) 108 true,0,0⟩,⟨o2 110 (oG false (.t 109) (o5 0)) 108 true,0,0⟩,o3 111 (.pick (.t 108) (.t 110) (.c (.bool false))) 0 0,o3 112 (o9 111) 0 0,⟨o2 113 (o9 11) 112 true,0,0⟩,⟨o2 114 (oG false (.t 113) (o5 0)) 112 true,0,0⟩,o3 115 (.pick (.t 112) (.t 114) (.c (.bool false))) 0 0,o3 116 (o9 115) 0 0,⟨o2 117 (o9 14) 116 true,0,0⟩,⟨o2 118 (oG false (.t 117) (o5 0)) 116 true,0,0⟩,o3 119 (.pick (.t 116) (.t 118) (.c (.bool false))) 0 0,o3 120 (o9 119) 0 0,⟨o2 121 (o9 16) 120 true,0,0⟩,⟨o2 122 (oG false (.t 121) (o5 0)) 120 true,0,0⟩,o3 123 (.pick (.t 120) (.t 122) (.c (.bool false))) 0 0,o3 124 (o9 123) 0 0,⟨o2 125 (o9 19) 124 true,0,0⟩,⟨o2 126 (oG false (.t 125) (o5 0)) 124 true,0,0⟩,o3 127 (.pick (.t 124) (.t 126) (.c (.bool false))) 0 0,o3 128 (o9 127) 0 0,⟨o2 129 (o9 22) 128 true,0,0⟩,⟨o2 130 (oG false (.t 129) (o5 9)) 128 true,0,0⟩,o3 131 (.pick (.t 128) (.t 130) (.c (.bool false))) 0 0,o3 132 (o9 131) 0 0,⟨o2 133 (o9 24) 132 true,0,0⟩,⟨o2 134 (oG false (.t 133) (o5 0)) 132 true,0,0⟩,o3 135 (.pick (.t 132) (.t 134) (.c (.bool false))) 0 0,o3 136 (o9 135) 0 0,⟨o2 137 (o9 26) 136 true,0,0⟩,⟨o2 138 (oG false (.t 137) (o5 0)) 136 true,0,0⟩,o3 139 (.pick (.t 136) (.t 138) (.c (.bool false))) 0 0,o3 140 (o9 139) 0 0,⟨o2 141 (o9 28) 140 true,0,0⟩,⟨o2 142 (oG false (.t 141) (o5 0)) 140 true,0,0⟩,o3 143 (.pick (.t 140) (.t 142) (.c (.bool false))) 0 0,o3 144 (o9 143) 0 0,⟨o2 145 (o9 30) 144 true,0,0⟩,⟨o2 146 (oG false (.t 145) (o5 8)) 144 true,0,0⟩,o3 147 (.pick (.t 144) (.t 146) (.c (.bool false))) 0 0,o3 148 (o9 147) 0 0,⟨o2 149 (oB 2 4) 148 true,0,1⟩,⟨o2 150 (oK 79 [(o5 3),(o5 6)]) 148 true,0,1⟩,⟨o2 151 (.eql (.agg [.i,.i]) false (.t 149) (.t 150)) 148 true,1,1⟩,o3 152 (.pick (.t 148) (.t 151) (.c (.bool false))) 1 1,o3 153 (o9 152) 1 1,⟨o2 154 (oB 2 6) 153 true,1,2⟩,⟨o2 155 (oK 79 [(o5 4),(o5 5)]) 153 true,1,2⟩,⟨o2 156 (.eql (.agg [.i,.i]) false (.t 154) (.t 155)) 153 true,2,2⟩,o3 157 (.pick (.t 153) (.t 156) (.c (.bool false))) 2 2,o3 158 (o9 157) 2 2,⟨o2 159 (o9 8) 158 true,2,2⟩,⟨o2 160 (oG false (.t 159) (o5 1)) 158 true,2,2⟩,o3 161 (.pick (.t 158) (.t 160) (.c (.bool false))) 2 2,o3 162 (o9 161) 2 2,⟨o2 163 (o9 10) 162 true,2,2⟩,⟨o2 164 (oG false (.t 163) (o5 2)) 162 true,2,2⟩,o3 165 (.pick (.t 162) (.t 164) (.c (.bool false))) 2 2,o3 166 (o9 165) 2 2,⟨o2 167 (o9 12) 166 true,2,2⟩,⟨o2 168 (.mklit 1 [(o5 4)]) 166 true,2,2⟩,⟨o2 169 (oK 44 [.t 167,.t 168]) 166 true,2,3⟩,o3 170 (.pick (.t 166) (.t 169) (.c (.bool false))) 3 3,o3 171 (o9 170) 3 3,⟨o2 172 (o9 13) 171 true,3,3⟩,⟨o2 173 (.mklit 1 [(o5 4),(o5 5)]) 171 true,3,3⟩,⟨o2 174 (oK 44 [.t 172,.t 173]) 171 true,3,4⟩,o3 175 (.pick (.t 171) (.t 174) (.c (.bool false))) 4 4,o3 176 (o9 175) 4 4,⟨o2 177 (o9 15) 176 true,4,4⟩,⟨o2 178 (oG false (.t 177) (o5 4)) 176 true,4,4⟩,o3 179 (.pick (.t 176) (.t 178) (.c (.bool false))) 4 4,o3 180 (o9 179) 4 4,⟨o2 181 (o9 17) 180 true,4,4⟩,⟨o2 182 (.mklit 1 [(o5 0),(o5 1)]) 180 true,4,4⟩,⟨o2 183 (oK 44 [.t 181,.t 182]) 180 true,4,5⟩,o3 184 (.pick (.t 180) (.t 183) (.c (.bool false))) 5 5,o3 185 (o9 184) 5 5,⟨o2 186 (o9 18) 185 true,5,5⟩,⟨o2 187 (.mklit 1 [(o5 1)]) 185 true,5,5⟩,⟨o2 188 (oK 44 [.t 186,.t 187]) 185 true,5,6⟩,o3 189 (.pick (.t 185) (.t 188) (.c (.bool false))) 6 6,o3 190 (o9 189) 6 6,⟨o2 191 (oB 2 23) 190 true,6,7⟩,⟨o2 192 (oK 79 [(o5 0),(o5 0)]) 190 true,6,7⟩,⟨o2 193 (.eql (.agg [.i,.i]) false (.t 191) (.t 192)) 190 true,7,7⟩,o3 194 (.pick (.t 190) (.t 193) (.c (.bool false))) 7 7,o3 195 (o9 194) 7 7,⟨o2 196 (o9 25) 195 true,7,7⟩,⟨o2 197 (.mklit 1 [(o5 1)]) 195 true,7,7⟩,⟨o2 198 (oK 44 [.t 196,.t 197]) 195 true,7,8⟩,o3 199 (.pick (.t 195) (.t 198) (.c (.bool false))) 8 8,o3 200 (o9 199) 8 8,⟨o2 201 (o9 27) 200 true,8,8⟩,⟨o2 202 (.mklit 1 [(o5 1)]) 200 true,8,8⟩,⟨o2 203 (oK 44 [.t 201,.t 202]) 200 true,8,9⟩,o3 204 (.pick (.t 200) (.t 203) (.c (.bool false))) 9 9,o3 0 (o9 204) 9 9])
 oL)))))))))))))))⟩
def M5:ACode:=.seq (oN [o4 25 10,o0 26 (o8 2 5),o0 27 (o7 26),o0 28 (oF 27),o0 29 (oH 25 28),o4 30 29,o2 31 (o9 9) 30 true,o0 32 (.pick (.t 30) (.t 31) (.c (.bool false)))]
 (.cond (.t 32) .skip
 (oM 2)))
 (.seq (.block 3 (.seq (.dreg [o3 35 (oB 7 2) 0 0,o3 36 (o9 10) 0 0,o3 37 (o9 5) 0 0,o3 38 (o9 7) 0 0,o3 39 (oC 1 37 38) 0 0,o3 40 (o7 39) 0 0,o3 41 (o9 1) 0 0,o3 42 (oK 91 [.t 35,.t 36,.t 40,.t 41]) 0 1,o3 11 (o9 42) 1 1])
 (oN [o4 43 11,o0 44 (oF 43),o0 45 (.bin .gtr (.t 44) (o5 0)),o4 9 45]
 (.reg [o0 46 (.mklit 1 []),o0 47 (o8 8 1),o0 48 (o7 47),o0 49 (.append 1 24 (.t 46) (.t 48)),o4 50 11,o0 51 (.mklit 1 [.t 50]),o0 52 (.append 1 24 (.t 49) (.t 51)),o0 53 (o8 8 1),o1 (.store 1 (.t 53) (.t 52))]))))
 (.reg [o4 33 10,o0 34 (oI 33 1),o4 10 34]))
def aI6:ACode:=.seq (oN [o4 14 7,o4 15 5,o0 16 (oF 15),o0 17 (oH 14 16)]
 (.cond (.t 17) .skip
 (oM 0)))
 (.seq (.block 1 (.seq (.reg [o4 20 5,o4 21 7,o0 22 (oC 1 20 21),o0 23 (o7 22),o0 24 (.build [.lit [] true none,.lit [] true none] [(0,1,(.t 23))]),o0 8 (.alloc [.lit [] true none,.lit [] true none]),o1 (.store 2 (.t 8) (.t 24))])
 (oN [o0 9 (.mov (.c (.bool true)))]
 (.seq (oN [o0 10 (oA 0)]
 (.block 2 (.loop M5)))
 (oN [o4 54 9]
 (.cond (.t 54) (.reg [o4 55 6,o0 56 (oB 2 8),o0 57 (.mklit 2 [.t 56]),o0 58 (.append 2 48 (.t 55) (.t 57)),o4 6 58])
 .skip))))))
 (.reg [o4 18 7,o0 19 (oI 18 1),o4 7 19]))
def a14:AFunc:=⟨60,[.tmp 4],
 oN [o0 2 (.box 7 (.t 0)),o0 4 (.mov (.c (.lit [] true none)))]
 (oN [o0 12 (oB 7 2),o0 13 (oK 90 [.t 12]),o4 5 13]
 (oN [o0 6 (.mov (.c (.lit [] true none)))]
 (.seq (oN [o0 7 (oA 0)]
 (.block 0 (.loop aI6)))
 (oN [o4 59 6,o4 4 59]
 oL))))⟩
def a15:AFunc:=⟨31,[.cell 6 (some 2),.tmp 7],
 oN [o0 3 (.box 7 (.t 0)),o0 6 (.alloc [.int .i64 0,.int .i64 0]),o0 7 (oA 0)]
 (.seq (.dreg [o3 11 (oB 7 3) 0 1,o3 12 (o9 1) 0 1,o3 13 (.max [(.t 12),(.c (.int .i64 (-1099511627775)))]) 0 1,o3 14 (o9 2) 0 0,o3 15 (o8 3 0) 0 0,o3 16 (o7 15) 0 0,o3 17 (oF 16) 0 0,o3 18 (.mklit 1 [.t 14,.t 17]) 0 0,o3 19 (oK 93 [.t 18]) 0 1,o3 20 (oK 92 [.t 11,.t 13,.t 19]) 1 2,o3 10 (o9 20) 2 2,o3 21 (oD 10 0) 2 2,o3 22 (oD 10 1) 2 2,o3 8 (o9 21) 2 2,o3 9 (o9 22) 2 2])
 (.seq (oN [o4 23 9,o0 24 (oG true (.t 23) (o5 0))]
 (.cond (.t 24) (oN [o0 25 (.build [.int .i64 0,.int .i64 0] []),o4 26 9,o1 (.store 2 (.t 6) (.t 25)),o4 7 26]
 oL)
 .skip))
 (oN [o4 27 8,o4 28 1,o4 29 2,o0 30 (oK 94 [.t 27,.t 28,.t 29]),o1 (.store 2 (.t 6) (.t 30)),o0 7 (oA 0)]
 oL)))⟩
def XV:ACode:=.seq (oN [o4 10 8,o4 11 2,o0 12 (oH 10 11)]
 (.cond (.t 12) .skip
 (oM 0)))
 (.seq (.block 1 (.reg [o4 15 7,o0 16 (oI 15 1),o4 17 0,o4 18 8,o0 19 (oC 1 17 18),o0 20 (o7 19),o0 21 (.bin .add (.t 16) (.t 20)),o4 7 21]))
 (.reg [o4 13 8,o0 14 (oI 13 1),o4 8 14]))
def a18:AFunc:=⟨23,[.tmp 6],
 oN [o0 6 (oA 0)]
 (oN [o0 7 (oA 0)]
 (.seq (oN [o4 9 1,o4 8 9]
 (.block 0 (.loop XV)))
 (oN [o4 22 7,o4 6 22]
 oL)))⟩
def a20:AFunc:=⟨15,[.tmp 6],
 oN [o0 6 (.mov (.c (.bool false)))]
 (oN [o4 7 0,o4 8 1,o0 9 (.bin .geq (.t 7) (.t 8)),o4 10 9,o2 11 (o9 0) 10 true,o2 12 (o9 2) 10 true,o2 13 (.bin .leq (.t 11) (.t 12)) 10 true,o0 14 (.pick (.t 10) (.t 13) (.c (.bool false))),o4 6 14]
 oL)⟩
def aJJ:ACode:=oN [o0 49 (oH 48 47)]
 (.seq (.cond (.t 49) .skip
 (oM 0))
 (.seq (.block 1 (oN [o4 50 48,o4 13 50]
 (oN [o4 51 9,o4 52 13,o4 53 1,o0 54 (oK 94 [.t 51,.t 52,.t 53]),o0 14 (.alloc [.int .i64 0,.int .i64 0]),o1 (.store 2 (.t 14) (.t 54))]
 (.seq (oN [o0 55 (o8 14 1),o0 56 (o7 55),o0 57 (o8 3 3),o0 58 (o8 57 1),o0 59 (o7 58),o0 60 (.bin .add (.t 56) (.t 59)),o0 61 (o8 3 2),o0 62 (o7 61),o0 63 (.bin .leq (.t 60) (.t 62))]
 (.cond (.t 63) (.reg [o4 64 10,o4 65 13,o0 66 (.bin .shl (o5 1) (.t 65)),o0 67 (.bin .or (.t 64) (.t 66)),o4 10 67])
 .skip))
 (oN [o0 68 (o8 14 0),o0 69 (o7 68),o0 70 (o8 3 1),o0 71 (o7 70),o0 72 (oH 69 71)]
 (.cond (.t 72) (.reg [o4 73 11,o4 74 13,o0 75 (.bin .shl (o5 1) (.t 74)),o0 76 (.bin .or (.t 73) (.t 75)),o4 11 76])
 .skip))))))
 (.reg [o0 77 (oI 48 1),o4 48 77])))
def aJO:ACode:=oN [o0 97 (oH 96 95)]
 (.seq (.cond (.t 97) .skip
 (oM 4))
 (.seq (.block 5 (oN [o0 98 (oC 1 94 96),o0 99 (o7 98),o4 21 99]
 (.reg [o4 100 19,o4 101 12,o4 102 21,o0 103 (oC 4 101 102),o0 104 (o8 103 3),o0 105 (o7 104),o0 106 (.bin .add (.t 100) (.t 105)),o4 19 106])))
 (.reg [o0 107 (oI 96 1),o4 96 107])))
def aJQ:ACode:=oN [o0 82 (oH 81 80)]
 (.seq (.cond (.t 82) .skip
 (oM 2))
 (.seq (.block 3 (oN [o4 83 81,o4 16 83]
 (oN [o4 84 16,o4 85 12,o0 86 (oF 85),o0 87 (oK 117 [.t 84,.t 86]),o4 88 16,o4 89 11,o0 90 (.bin .and (.t 88) (.t 89)),o4 91 12,o0 92 (oF 91),o0 93 (oK 117 [.t 90,.t 92]),o4 17 87,o4 18 93,o0 19 (oA 0)]
 (.seq (oN [o4 94 17,o0 95 (oF 94),o0 96 (oA 0)]
 (.block 4 (.loop aJO)))
 (.seq (oN [o4 108 16,o4 109 10,o0 110 (.bin .andNot (.t 108) (.t 109)),o0 111 (oG true (.t 110) (o5 0)),o4 112 111,o2 113 (o9 19) 112 false,o2 114 (o9 2) 112 false,o2 115 (oH 113 114) 112 false,o0 116 (.pick (.t 112) (.c (.bool true)) (.t 115))]
 (.cond (.t 116) (oM 3)
 .skip))
 (oN [o4 117 18,o0 118 (oF 117),o4 119 7,o0 120 (oF 119),o0 121 (oH 118 120),o4 122 121,o2 123 (o9 18) 122 false,o2 124 (oF 123) 122 false,o2 125 (o9 7) 122 false,o2 126 (oF 125) 122 false,o2 127 (oG false (.t 124) (.t 126)) 122 false,o2 128 (o9 127) 122 false,o2 129 (o9 17) 128 true,o2 130 (oF 129) 128 true,o2 131 (o9 6) 128 true,o2 132 (oF 131) 128 true,o2 133 (oH 130 132) 128 true,o2 134 (o9 133) 128 true,o2 135 (o9 17) 134 false,o2 136 (oF 135) 134 false,o2 137 (o9 6) 134 false,o2 138 (oF 137) 134 false,o2 139 (oG false (.t 136) (.t 138)) 134 false,o2 140 (o9 139) 134 false,o2 141 (o9 17) 140 true,o2 142 (o9 6) 140 true,o2 143 (oK 118 [.t 141,.t 142]) 140 true,o2 144 (.bin .lss (.t 143) (o5 0)) 140 true,o2 145 (.pick (.t 140) (.t 144) (.c (.bool false))) 134 false,o2 146 (.pick (.t 134) (.c (.bool true)) (.t 145)) 128 true,o2 147 (.pick (.t 128) (.t 146) (.c (.bool false))) 122 false,o0 148 (.pick (.t 122) (.c (.bool true)) (.t 147)),o4 22 148]
 (oN [o4 149 15,o0 150 (.not (.t 149)),o4 151 150,o2 152 (o9 22) 151 false,o0 153 (.pick (.t 151) (.c (.bool true)) (.t 152))]
 (.cond (.t 153) (.reg [o4 154 17,o4 155 18,o4 6 154,o4 7 155,o0 15 (.mov (.c (.bool true)))])
 .skip))))))))
 (.reg [o0 156 (oI 81 1),o4 81 156])))
def a26:AFunc:=⟨161,[.tmp 6,.tmp 7,.tmp 8],
 oN [o0 3 (.box 7 (.t 0)),o0 6 (.mov (.c (.lit [] true none))),o0 7 (.mov (.c (.lit [] true none))),o0 8 (oA 0)]
 (.seq (.dreg [o3 24 (oB 7 3) 0 1,o3 25 (o9 1) 0 0,o3 26 (o8 3 0) 0 0,o3 27 (o7 26) 0 0,o3 28 (oF 27) 0 0,o3 29 (o9 2) 0 0,o3 30 (.mklit 1 [(.t 25),(.t 28),(.t 29),(o5 400)]) 0 0,o3 31 (oK 93 [.t 30]) 0 1,o3 32 (oK 92 [(.t 24),(.c (.int .i64 (-1099511627776))),(.t 31)]) 1 2,o3 23 (o9 32) 2 2,o3 33 (oD 23 0) 2 2,o3 34 (oD 23 1) 2 2,o3 9 (o9 33) 2 2,o3 8 (o9 34) 2 2])
 (.seq (oN [o4 35 8,o0 36 (oG true (.t 35) (o5 0))]
 (.cond (.t 36) (oN [o4 37 8,o0 6 (.mov (.c (.lit [] true none))),o0 7 (.mov (.c (.lit [] true none))),o4 8 37]
 oL)
 .skip))
 (oN [o0 10 (oA 0),o0 11 (oA 0)]
 (.seq (.reg [o0 38 (o8 3 5),o0 39 (o7 38),o0 40 (oF 39),⟨some 41,.mkslice [.str ⟨#[]⟩,.int .i64 0,.int .i64 0,.int .i64 0] 40 (.t 40) (.t 40),none⟩,o4 12 41])
 (oN [o4 42 12,o0 43 (o8 3 5),o0 44 (o7 43),o0 45 (.copy 4 (.t 42) (.t 44))]
 (.seq (oN [o4 46 12,o0 47 (oF 46),o0 48 (oA 0)]
 (.block 0 (.loop aJJ)))
 (oN [o0 15 (.mov (.c (.bool false)))]
 (.seq (oN [o4 78 12,o0 79 (oF 78),o0 80 (.bin .shl (o5 1) (.t 79)),o0 81 (oA 0)]
 (.block 2 (.loop aJQ)))
 (.seq (oN [o4 157 15,o0 158 (.not (.t 157))]
 (.cond (.t 158) (oN [o0 6 (.mov (.c (.lit [] true none))),o0 7 (.mov (.c (.lit [] true none))),o0 8 (oA 9)]
 oL)
 .skip))
 (oN [o4 159 6,o4 160 7,o4 6 159,o4 7 160,o0 8 (oA 0)]
 oL))))))))))⟩
def a29:AFunc:=⟨26,[.tmp 6],
 oN [o0 3 (.box 2 (.t 0)),o0 6 (oA 0)]
 (.seq (oN [o0 7 (o8 3 0),o0 8 (o7 7),o4 9 1,o4 10 2,o0 11 (oK 20 [.t 8,.t 9,.t 10]),o0 12 (.not (.t 11)),o4 13 12,o2 14 (o8 3 1) 13 false,o2 15 (o7 14) 13 false,o2 16 (o9 1) 13 false,o2 17 (o9 2) 13 false,o2 18 (oK 20 [.t 15,.t 16,.t 17]) 13 false,o2 19 (.not (.t 18)) 13 false,o0 20 (.pick (.t 13) (.c (.bool true)) (.t 19))]
 (.cond (.t 20) (oN [o0 6 (oA 7)]
 oL)
 .skip))
 (.seq (oN [o0 21 (o8 3 1),o0 22 (o7 21),o0 23 (o8 3 0),o0 24 (o7 23),o0 25 (oH 22 24)]
 (.cond (.t 25) (oN [o0 6 (oA 2)]
 oL)
 .skip))
 (oN [o0 6 (oA 0)]
 oL)))⟩
def a44:AFunc:=⟨22,[.tmp 4],
 oN [o0 4 (.mov (.c (.bool false)))]
 (oN [o4 5 0,o0 6 (oF 5),o4 7 1,o0 8 (oF 7),o0 9 (oG false (.t 6) (.t 8)),o4 10 9,o2 11 (o9 0) 10 true,o2 12 (o9 1) 10 true,o2 13 (oK 170 [.t 11,.t 12]) 10 true,o2 14 (.not (.t 13)) 10 true,o0 15 (.pick (.t 10) (.t 14) (.c (.bool false))),o4 16 15,o2 17 (o9 1) 16 true,o2 18 (o9 0) 16 true,o2 19 (oK 170 [.t 17,.t 18]) 16 true,o2 20 (.not (.t 19)) 16 true,o0 21 (.pick (.t 16) (.t 20) (.c (.bool false))),o4 4 21]
 oL)⟩
def aI0:ACode:=.seq (oN [o4 19 5,o0 20 (o8 1 1),o0 21 (o7 20),o0 22 (oF 21),o0 23 (oH 19 22)]
 (.cond (.t 23) .skip
 (oM 0)))
 (.seq (.block 1 (.seq (.dreg [o3 26 (oB 4 1) 0 0,o3 27 (o8 1 1) 0 0,o3 28 (o7 27) 0 0,o3 29 (o9 5) 0 0,o3 30 (oC 5 28 29) 0 0,o3 31 (oB 5 30) 0 0,o3 32 (oK 171 [.t 26,.t 31]) 0 1,o3 6 (o9 32) 1 1])
 (oN [o4 33 6,o0 34 (oG true (.t 33) (o5 0))]
 (.cond (.t 34) (oN [o4 35 5,o4 36 6,o0 2 (oA 2),o4 3 35,o4 4 36]
 oL)
 .skip))))
 (.reg [o4 24 5,o0 25 (oI 24 1),o4 5 25]))
def aJU:ACode:=.seq (oN [o4 41 8,o0 42 (o8 1 2),o0 43 (o7 42),o0 44 (oF 43),o0 45 (oH 41 44)]
 (.cond (.t 45) .skip
 (oM 2)))
 (.seq (.block 3 (oN [o0 48 (o8 1 2),o0 49 (o7 48),o4 50 8,o0 51 (oC 5 49 50),o0 52 (o8 51 0),o0 53 (o7 52),o4 54 7,o0 55 (oK 67 [.t 53,.t 54]),o4 9 55]
 (oN [o4 56 7,o0 57 (o8 1 2),o0 58 (o7 57),o4 59 8,o0 60 (oC 5 58 59),o0 61 (o8 60 0),o0 62 (o7 61),o0 63 (.mklit 1 [.t 62]),o0 64 (.append 1 16 (.t 56) (.t 63)),o4 7 64]
 (.seq (oN [o4 65 9,o0 66 (oG false (.t 65) (o5 0))]
 (.cond (.t 66) (.dreg [o3 67 (oB 4 1) 0 0,o3 68 (o8 1 2) 0 0,o3 69 (o7 68) 0 0,o3 70 (o9 8) 0 0,o3 71 (oC 5 69 70) 0 0,o3 72 (oB 5 71) 0 0,o3 73 (oK 172 [.t 67,.t 72]) 0 1,o3 9 (o9 73) 1 1])
 .skip))
 (oN [o4 74 9,o0 75 (oG true (.t 74) (o5 0))]
 (.cond (.t 75) (oN [o4 76 8,o4 77 9,o0 2 (oA 3),o4 3 76,o4 4 77]
 oL)
 .skip))))))
 (.reg [o4 46 8,o0 47 (oI 46 1),o4 8 47]))
def aI2:ACode:=.seq (oN [o4 82 10,o0 83 (o8 1 3),o0 84 (o7 83),o0 85 (oF 84),o0 86 (oH 82 85)]
 (.cond (.t 86) .skip
 (oM 4)))
 (.seq (.block 5 (.seq (.seq (.dreg [o3 89 (o8 1 3) 0 0,o3 90 (o7 89) 0 0,o3 91 (o9 10) 0 0,o3 92 (oC 2 90 91) 0 0,o3 93 (o8 92 0) 0 0,o3 94 (o7 93) 0 0,o3 95 (o8 1 2) 0 0,o3 96 (o7 95) 0 0,o3 97 (oF 96) 0 0,o3 98 (.bin .sub (.t 97) (o5 1)) 0 0,o3 99 (oK 20 [(.t 94),(o5 0),(.t 98)]) 0 1,o3 100 (.not (.t 99)) 1 1])
 (.cond (.t 100) (oN [o4 101 10,o0 2 (oA 4),o4 3 101,o0 4 (oA 4)]
 oL)
 .skip))
 (oN [o0 102 (o8 1 3),o0 103 (o7 102),o4 104 10,o0 105 (oC 2 103 104),o0 106 (o8 105 1),o0 107 (o7 106),o0 108 (oK 20 [(.t 107),(.c (.int .i64 (-1))),(o5 400)]),o0 109 (.not (.t 108))]
 (.cond (.t 109) (oN [o4 110 10,o0 2 (oA 4),o4 3 110,o0 4 (oA 7)]
 oL)
 .skip))))
 (.reg [o4 87 10,o0 88 (oI 87 1),o4 10 88]))
def a45:AFunc:=⟨111,[.tmp 2,.tmp 3,.tmp 4],
 oN [o0 1 (.box 4 (.t 0)),o0 2 (oA 0),o0 3 (oA 0),o0 4 (oA 0)]
 (.seq (oN [o0 11 (o8 1 0),o0 12 (o7 11),o0 13 (oK 20 [(.t 12),(o5 2),(o5 5)]),o0 14 (.not (.t 13))]
 (.cond (.t 14) (oN [o0 2 (oA 1),o0 3 (oA 0),o0 4 (oA 7)]
 oL)
 .skip))
 (.seq (oN [o0 15 (o8 1 1),o0 16 (o7 15),o0 17 (oF 16),o0 18 (.bin .gtr (.t 17) (o5 5))]
 (.cond (.t 18) (oN [o0 2 (oA 2),o0 3 (oA 0),o0 4 (oA 3)]
 oL)
 .skip))
 (.seq (oN [o0 5 (oA 0)]
 (.block 0 (.loop aI0)))
 (.seq (oN [o0 37 (o8 1 2),o0 38 (o7 37),o0 39 (oF 38),o0 40 (.bin .gtr (.t 39) (o5 3))]
 (.cond (.t 40) (oN [o0 2 (oA 3),o0 3 (oA 0),o0 4 (oA 3)]
 oL)
 .skip))
 (oN [o0 7 (.mov (.c (.lit [] true none)))]
 (.seq (oN [o0 8 (oA 0)]
 (.block 2 (.loop aJU)))
 (.seq (oN [o0 78 (o8 1 3),o0 79 (o7 78),o0 80 (oF 79),o0 81 (.bin .gtr (.t 80) (o5 3))]
 (.cond (.t 81) (oN [o0 2 (oA 4),o0 3 (oA 0),o0 4 (oA 3)]
 oL)
 .skip))
 (.seq (oN [o0 10 (oA 0)]
 (.block 4 (.loop aI2)))
 (oN [o0 2 (oA 0),o0 3 (oA 0),o0 4 (oA 0)]
 oL)))))))))⟩
def a48:AFunc:=⟨231,[.tmp 0],
 oN [o0 0 (.mov (.c (.bool false)))]
 (.seq (.reg [o0 36 (oK 181 [(.c (.bool false)),(.c (.lit [] true none))]),o0 37 (oK 181 [(.c (.bool true)),(.c (.lit [] true none))]),o0 1 (.alloc [.int .i64 0,.lit [] true none,.lit [] true none,.lit [] true none]),o0 2 (.alloc [.int .i64 0,.lit [] true none,.lit [] true none,.lit [] true none]),o1 (.store 4 (.t 1) (.t 36)),o1 (.store 4 (.t 2) (.t 37))])
 (.seq (.reg [o0 38 (oK 182 [(o5 0),(.c (.int .i64 (-1)))]),o0 39 (oK 182 [(o5 1),(o5 15)]),o0 40 (.mklit 2 [.t 38,.t 39]),o0 41 (oK 181 [(.c (.bool true)),(.t 40)]),o0 42 (oK 182 [(o5 0),(.c (.int .i64 (-1)))]),o0 43 (.mklit 2 [.t 42]),o0 44 (oK 181 [(.c (.bool true)),(.t 43)]),o0 3 (.alloc [.int .i64 0,.lit [] true none,.lit [] true none,.lit [] true none]),o0 4 (.alloc [.int .i64 0,.lit [] true none,.lit [] true none,.lit [] true none]),o1 (.store 4 (.t 3) (.t 41)),o1 (.store 4 (.t 4) (.t 44))])
 (oN [o0 46 (oB 4 1),o0 47 (oK 183 [(.t 46),(o5 3)]),o4 45 47,o0 48 (oD 45 0),o0 49 (oD 45 1),o4 5 48,o4 6 49]
 (oN [o0 51 (oB 4 1),o0 52 (oK 184 [(.t 51),(o5 1)]),o4 50 52,o0 53 (oD 50 0),o0 54 (oD 50 1),o0 55 (oD 50 2),o0 7 (.alloc [.int .i64 0,.int .i64 0]),o1 (.store 2 (.t 7) (.t 53)),o4 8 54,o4 9 55]
 (oN [o0 57 (oB 4 2),o0 58 (oK 184 [(.t 57),(o5 1)]),o4 56 58,o0 59 (oD 56 0),o0 60 (oD 56 1),o0 61 (oD 56 2),o0 10 (.alloc [.int .i64 0,.int .i64 0]),o1 (.store 2 (.t 10) (.t 59)),o4 11 60,o4 12 61]
 (oN [o0 63 (oB 4 4),o0 64 (oK 184 [(.t 63),(o5 0)]),o4 62 64,o0 65 (oD 62 0),o0 66 (oD 62 1),o0 67 (oD 62 2),o0 13 (.alloc [.int .i64 0,.int .i64 0]),o1 (.store 2 (.t 13) (.t 65)),o4 14 66,o4 15 67]
 (oN [o0 69 (oB 4 2),o0 70 (oK 185 [.t 69]),o4 68 70,o0 71 (oD 68 0),o0 72 (oD 68 1),o0 73 (oD 68 2),o4 16 71,o4 17 72,o4 18 73]
 (oN [o0 75 (oB 4 2),o0 76 (oK 186 [.t 75]),o4 74 76,o0 77 (oD 74 0),o0 78 (oD 74 1),o4 19 77,o4 20 78]
 (oN [o0 80 (oB 4 1),o0 81 (oK 186 [.t 80]),o4 79 81,o0 82 (oD 79 0),o0 83 (oD 79 1),o4 21 82,o4 22 83]
 (oN [o0 85 (oB 4 2),o0 86 (oK 187 [.t 85]),o4 84 86,o0 87 (oD 84 0),o0 88 (oD 84 1),o0 89 (oD 84 2),o4 23 87,o4 24 88,o4 25 89]
 (oN [o0 91 (oB 4 1),o0 92 (oK 188 [.t 91]),o4 90 92,o0 93 (oD 90 0),o0 94 (oD 90 1),o0 95 (oD 90 2),o4 26 93,o4 27 94,o4 28 95]
 (oN [o0 97 (oB 4 1),o0 98 (oK 189 [.t 97]),o4 96 98,o0 99 (oD 96 0),o0 100 (oD 96 1),o0 101 (oD 96 2),o4 29 99,o4 30 100,o4 31 101]
 (oN [o0 103 (oB 4 3),o0 104 (oK 190 [.t 103]),o4 102 104,o0 105 (oD 102 0),o0 106 (oD 102 1),o4 32 105,o4 33 106]
 (oN [o0 108 (oB 4 3),o0 109 (oK 186 [.t 108]),o4 107 109,o0 110 (oD 107 0),o0 111 (oD 107 1),o4 34 110,o4 35 111]
 (.seq (.dreg [o3 112 (o9 6) 0 0,o3 113 (oG false (.t 112) (o5 0)) 0 0,o3 114 (o9 113) 0 0,⟨o2 115 (o9 9) 114 true,0,0⟩,⟨o2 116 (oG false (.t 115) (o5 0)) 114 true,0,0⟩,o3 117 (.pick (.t 114) (.t 116) (.c (.bool false))) 0 0,o3 118 (o9 117) 0 0,⟨o2 119 (o9 12) 118 true,0,0⟩,⟨o2 120 (oG false (.t 119) (o5 0)) 118 true,0,0⟩,o3 121 (.pick (.t 118) (.t 120) (.c (.bool false))) 0 0,o3 122 (o9 121) 0 0,⟨o2 123 (o9 15) 122 true,0,0⟩,⟨o2 124 (oG false (.t 123) (o5 0)) 122 true,0,0⟩,o3 125 (.pick (.t 122) (.t 124) (.c (.bool false))) 0 0,o3 126 (o9 125) 0 0,⟨o2 127 (o9 18) 126 true,0,0⟩,⟨o2 128 (oG false (.t 127) (o5 0)) 126 true,0,0⟩,o3 129 (.pick (.t 126) (.t 128) (.c (.bool false))) 0 0,o3 130 (o9 129) 0 0,⟨o2 131 (o9 20) 130 true,0,0⟩,⟨o2 132 (oG false (.t 131) (o5 0)) 130 true,0,0⟩,o3 133 (.pick (.t 130) (.t 132) (.c (.bool false))) 0 0,o3 134 (o9 133) 0 0,⟨o2 135 (o9 22) 134 true,0,0⟩,⟨o2 136 (oG false (.t 135) (o5 9)) 134 true,0,0⟩,o3 137 (.pick (.t 134) (.t 136) (.c (.bool false))) 0 0,o3 138 (o9 137) 0 0,⟨o2 139 (o9 25) 138 true,0,0⟩,⟨o2 140 (oG false (.t 139) (o5 0)) 138 true,0,0⟩,o3 141 (.pick (.t 138) (.t 140) (.c (.bool false))) 0 0,o3 142 (o9 141) 0 0,⟨o2 143 (o9 28) 142 true,0,0⟩,⟨o2 144 (oG false (.t 143) (o5 0)) 142 true,0,0⟩,o3 145 (.pick (.t 142) (.t 144) (.c (.bool false))) 0 0,o3 146 (o9 145) 0 0,⟨o2 147 (o9 31) 146 true,0,0⟩,⟨o2 148 (oG false (.t 147) (o5 0)) 146 true,0,0⟩,o3 149 (.pick (.t 146) (.t 148) (.c (.bool false))) 0 0,o3 150 (o9 149) 0 0,⟨o2 151 (o9 33) 150 true,0,0⟩,⟨o2 152 (oG false (.t 151) (o5 0)) 150 true,0,0⟩,o3 153 (.pick (.t 150) (.t 152) (.c (.bool false))) 0 0,o3 154 (o9 153) 0 0,⟨o2 155 (o9 35) 154 true,0,0⟩,⟨o2 156 (oG false (.t 155) (o5 8)) 154 true,0,0⟩,o3 157 (.pick (.t 154) (.t 156) (.c (.bool false))) 0 0,o3 158 (o9 157) 0 0,⟨o2 159 (o9 5) 158 true,0,0⟩,⟨o2 160 (.mklit 1 [(o5 3),(o5 2)]) 158 true,0,0⟩,⟨o2 161 (.mklit 1 [(o5 3),(o5 1),(o5 0)]) 158 true,0,0⟩,⟨o2 162 (.mklit 1 [.t 160,.t 161]) 158 true,0,0⟩,⟨o2 163 (oK 191 [.t 159,.t 162]) 158 true,0,1⟩,o3 164 (.pick (.t 158) (.t 163) (.c (.bool false))) 1 1,o3 165 (o9 164) 1 1,⟨o2 166 (oB 2 7) 165 true,1,2⟩,⟨o2 167 (oK 192 [(o5 14),(o5 16)]) 165 true,1,2⟩,⟨o2 168 (.eql (.agg [.i,.i]) false (.t 166) (.t 167)) 165 true,2,2⟩,o3 169 (.pick (.t 165) (.t 168) (.c (.bool false))) 2 2,o3 170 (o9 169) 2 2,⟨o2 171 (o9 8) 170 true,2,2⟩,⟨o2 172 (oG false (.t 171) (o5 1)) 170 true,2,2⟩,o3 173 (.pick (.t 170) (.t 172) (.c (.bool false))) 2 2,o3 174 (o9 173) 2 2,⟨o2 175 (o9 11) 174 true,2,2⟩,⟨o2 176 (oG false (.t 175) (o5 0)) 174 true,2,2⟩,o3 177 (.pick (.t 174) (.t 176) (.c (.bool false))) 2 2,o3 178 (o9 177) 2 2,⟨o2 179 (o9 14) 178 true,2,2⟩,⟨o2 180 (oG false (.t 179) (o5 2)) 178 true,2,2⟩,o3 181 (.pick (.t 178) (.t 180) (.c (.bool false))) 2 2,o3 182 (o9 181) 2 2,⟨o2 183 (o9 16) 182 true,2,2⟩,⟨o2 184 (oF 183) 182 true,2,2⟩,⟨o2 185 (oG false (.t 184) (o5 0)) 182 true,2,2⟩,o3 186 (.pick (.t 182) (.t 185) (.c (.bool false))) 2 2,o3 187 (o9 186) 2 2,⟨o2 188 (o9 17) 187 true,2,2⟩,⟨o2 189 (.mklit 1 [(o5 0),(o5 1)]) 187 true,2,2⟩,⟨o2 190 (oK 44 [.t 188,.t 189]) 187 true,2,3⟩,o3 191 (.pick (.t 187) (.t 190) (.c (.bool false))) 3 3,o3 192 (o9 191) 3 3,⟨o2 193 (o9 19) 192 true,3,3⟩,⟨o2 194 (oG false (.t 193) (o5 0)) 192 true,3,3⟩,o3 195 (.pick (.t 192) (.t 194) (.c (.bool false))) 3 3,o3 196 (o9 195) 3 3,⟨o2 197 (o9 23) 196 true,3,3⟩,⟨o2 198 (.mklit 1 [(o5 2)]) 196 true,3,3⟩,⟨o2 199 (.mklit 1 [(o5 3),(o5 2)]) 196 true,3,3⟩,⟨o2 200 (.mklit 1 [.t 198,.t 199]) 196 true,3,3⟩,⟨o2 201 (oK 191 [.t 197,.t 200]) 196 true,3,4⟩,o3 202 (.pick (.t 196) (.t 201) (.c (.bool false))) 4 4,o3 203 (o9 202) 4 4,⟨o2 204 (o9 24) 203 true,4,4⟩,⟨o2 205 (.mklit 1 [(o5 0),(o5 1)]) 203 true,4,4⟩,⟨o2 206 (oK 44 [.t 204,.t 205]) 203 true,4,5⟩,o3 207 (.pick (.t 203) (.t 206) (.c (.bool false))) 5 5,o3 208 (o9 207) 5 5,⟨o2 209 (o9 26) 208 true,5,5⟩,⟨o2 210 (oF 209) 208 true,5,5⟩,⟨o2 211 (oG false (.t 210) (o5 0)) 208 true,5,5⟩,o3 212 (.pick (.t 208) (.t 211) (.c (.bool false))) 5 5,o3 213 (o9 212) 5 5,⟨o2 214 (o9 27) 213 true,5,5⟩,⟨o2 215 (.mklit 1 [(o5 2)]) 213 true,5,5⟩,⟨o2 216 (oK 44 [.t 214,.t 215]) 213 true,5,6⟩,o3 217 (.pick (.t 213) (.t 216) (.c (.bool false))) 6 6,o3 218 (o9 217) 6 6,⟨o2 219 (o9 29) 218 true,6,6⟩,⟨o2 220 (oG false (.t 219) (o5 3)) 218 true,6,6⟩,o3 221 (.pick (.t 218) (.t 220) (.c (.bool false))) 6 6,o3 222 (o9 221) 6 6,⟨o2 223 (o9 30) 222 true,6,6⟩,⟨o2 224 (oG false (.t 223) (o5 1)) 222 true,6,6⟩,o3 225 (.pick (.t 222) (.t 224) (.c (.bool false))) 6 6,o3 226 (o9 225) 6 6,⟨o2 227 (o9 32) 226 true,6,6⟩,⟨o2 228 (.mklit 1 [(o5 1)]) 226 true,6,6⟩,⟨o2 229 (oK 44 [.t 227,.t 228]) 226 true,6,7⟩,o3 230 (.pick (.t 226) (.t 229) (.c (.bool false))) 7 7,o3 0 (o9 230) 7 7])
 oL)))))))))))))))⟩
def aJA:ACode:=.seq (oN [o4 31 11,o0 32 (o8 2 3),o0 33 (o7 32),o0 34 (oF 33),o0 35 (oH 31 34)]
 (.cond (.t 35) .skip
 (oM 2)))
 (.seq (.block 3 (.dreg [o3 38 (o9 10) 0 0,o3 39 (o9 38) 0 0,⟨o2 40 (o9 1) 39 true,0,0⟩,⟨o2 41 (o9 11) 39 true,0,0⟩,⟨o2 42 (oK 64 [.t 40,.t 41]) 39 true,0,1⟩,⟨o2 43 (o9 42) 39 true,1,1⟩,⟨o2 44 (o9 9) 43 false,1,1⟩,⟨o2 45 (o8 2 3) 43 false,1,1⟩,⟨o2 46 (o7 45) 43 false,1,1⟩,⟨o2 47 (o9 11) 43 false,1,1⟩,⟨o2 48 (oC 2 46 47) 43 false,1,1⟩,⟨o2 49 (o8 48 0) 43 false,1,1⟩,⟨o2 50 (o7 49) 43 false,1,1⟩,⟨o2 51 (oC 1 44 50) 43 false,1,1⟩,⟨o2 52 (o7 51) 43 false,1,1⟩,⟨o2 53 (o8 2 3) 43 false,1,1⟩,⟨o2 54 (o7 53) 43 false,1,1⟩,⟨o2 55 (o9 11) 43 false,1,1⟩,⟨o2 56 (oC 2 54 55) 43 false,1,1⟩,⟨o2 57 (o8 56 1) 43 false,1,1⟩,⟨o2 58 (o7 57) 43 false,1,1⟩,⟨o2 59 (oG false (.t 52) (.t 58)) 43 false,1,1⟩,⟨o2 60 (.pick (.t 43) (.c (.bool true)) (.t 59)) 39 true,1,1⟩,o3 61 (.pick (.t 39) (.t 60) (.c (.bool false))) 1 1,o3 10 (o9 61) 1 1]))
 (.reg [o4 36 11,o0 37 (oI 36 1),o4 11 37]))
def aJV:ACode:=.seq (oN [o4 14 7,o4 15 5,o0 16 (oF 15),o0 17 (oH 14 16)]
 (.cond (.t 17) .skip
 (oM 0)))
 (.seq (.block 1 (.seq (.dreg [o3 21 (oB 4 2) 0 1,o3 22 (o9 5) 0 1,o3 23 (o9 7) 0 1,o3 24 (oC 2 22 23) 0 1,o3 25 (oB 2 24) 0 1,o3 26 (oB 4 2) 0 0,o3 27 (oK 52 [.t 26]) 0 1,o3 28 (oK 51 [.t 21,.t 25,.t 27]) 1 2,o3 20 (o9 28) 2 2,o3 29 (oD 20 0) 2 2,o3 30 (oD 20 1) 2 2,o3 8 (o9 29) 2 2,o3 9 (o9 30) 2 2])
 (oN [o0 10 (.mov (.c (.bool true)))]
 (.seq (oN [o0 11 (oA 0)]
 (.block 2 (.loop aJA)))
 (oN [o4 62 10]
 (.cond (.t 62) (.reg [o4 63 6,o4 64 5,o4 65 7,o0 66 (oC 2 64 65),o0 67 (oB 2 66),o0 68 (.mklit 2 [.t 67]),o0 69 (.append 2 48 (.t 63) (.t 68)),o4 6 69])
 .skip))))))
 (.reg [o4 18 7,o0 19 (oI 18 1),o4 7 19]))
def a49:AFunc:=⟨71,[.tmp 4],
 oN [o0 2 (.box 4 (.t 0)),o0 4 (.mov (.c (.lit [] true none)))]
 (oN [o0 12 (oB 4 2),o0 13 (oK 193 [.t 12]),o4 5 13]
 (oN [o0 6 (.mov (.c (.lit [] true none)))]
 (.seq (oN [o0 7 (oA 0)]
 (.block 0 (.loop aJV)))
 (oN [o4 70 6,o4 4 70]
 oL))))⟩
def aI5:ACode:=.seq (oN [o4 9 5,o0 10 (o8 1 2),o0 11 (o7 10),o0 12 (oF 11),o0 13 (oH 9 12)]
 (.cond (.t 13) .skip
 (oM 0)))
 (.seq (.block 1 (oN [o0 17 (oB 4 1),o4 18 5,o0 19 (oK 184 [.t 17,.t 18]),o4 16 19,o0 20 (oD 16 0),o0 21 (oD 16 1),o0 22 (oD 16 2),o0 6 (.alloc [.int .i64 0,.int .i64 0]),o1 (.store 2 (.t 6) (.t 20)),o4 7 21,o4 8 22]
 (.seq (oN [o4 23 8,o0 24 (oG true (.t 23) (o5 0)),o4 25 24,o2 26 (o9 7) 25 false,o2 27 (oG true (.t 26) (o5 1)) 25 false,o0 28 (.pick (.t 25) (.c (.bool true)) (.t 27)),o4 29 28,o2 30 (o8 6 0) 29 false,o2 31 (o7 30) 29 false,o2 32 (oK 20 [(.t 31),(o5 0),(o5 400)]) 29 false,o2 33 (.not (.t 32)) 29 false,o0 34 (.pick (.t 29) (.c (.bool true)) (.t 33)),o4 35 34,o2 36 (o8 6 1) 35 false,o2 37 (o7 36) 35 false,o2 38 (o8 6 0) 35 false,o2 39 (o7 38) 35 false,o2 40 (oK 20 [(.t 37),(.t 39),(o5 300)]) 35 false,o2 41 (.not (.t 40)) 35 false,o0 42 (.pick (.t 35) (.c (.bool true)) (.t 41))]
 (.cond (.t 42) (oN [o0 2 (.mov (.c (.lit [] true none))),o0 3 (.mov (.c (.bool false)))]
 oL)
 .skip))
 (.reg [o4 43 4,o0 44 (oB 2 6),o0 45 (.mklit 2 [.t 44]),o0 46 (.append 2 16 (.t 43) (.t 45)),o4 4 46]))))
 (.reg [o4 14 5,o0 15 (oI 14 1),o4 5 15]))
def a50:AFunc:=⟨48,[.tmp 2,.tmp 3],
 oN [o0 1 (.box 4 (.t 0)),o0 2 (.mov (.c (.lit [] true none))),o0 3 (.mov (.c (.bool false)))]
 (oN [o0 4 (.mov (.c (.lit [] true none)))]
 (.seq (oN [o0 5 (oA 0)]
 (.block 0 (.loop aI5)))
 (oN [o4 47 4,o4 2 47,o0 3 (.mov (.c (.bool true)))]
 oL)))⟩
def aIS:ACode:=.seq (oN [o4 29 12,o4 30 2,o4 31 10,o0 32 (oC 1 30 31),o0 33 (o7 32),o0 34 (oF 33),o0 35 (oH 29 34)]
 (.cond (.t 35) .skip
 (oM 2)))
 (.seq (.block 3 (.seq (.dreg [o3 38 (o8 4 0) 0 0,o3 39 (o7 38) 0 0,o3 40 (o9 2) 0 0,o3 41 (o9 10) 0 0,o3 42 (oC 1 40 41) 0 0,o3 43 (o7 42) 0 0,o3 44 (o9 12) 0 0,o3 45 (oC 1 43 44) 0 0,o3 46 (o7 45) 0 0,o3 47 (oC 1 39 46) 0 0,o3 48 (o7 47) 0 0])
 (.cond (.t 48) (.reg [o0 11 (.mov (.c (.int .i64 (-1))))])
 .skip)))
 (.reg [o4 36 12,o0 37 (oI 36 1),o4 12 37]))
def UB:ACode:=.seq (oN [o4 49 13,o4 50 2,o4 51 10,o0 52 (oC 1 50 51),o0 53 (o7 52),o0 54 (oF 53),o0 55 (oH 49 54),o4 56 55,o2 57 (o9 11) 56 true,o2 58 (oG true (.t 57) (.c (.int .i64 (-1)))) 56 true,o0 59 (.pick (.t 56) (.t 58) (.c (.bool false)))]
 (.cond (.t 59) .skip
 (oM 4)))
 (.seq (.block 5 (oN [o4 62 2,o4 63 10,o0 64 (oC 1 62 63),o0 65 (o7 64),o4 66 13,o0 67 (oC 1 65 66),o0 68 (o7 67),o4 14 68]
 (oN [o4 69 8,o4 70 14,o4 71 11,o0 72 (o8 4 1),o0 73 (o7 72),o4 74 14,o0 75 (oC 1 73 74),o0 76 (o7 75),o0 77 (oK 194 [.t 69,.t 70,.t 71,.t 76]),o4 15 77]
 (oN [o4 78 15,o0 79 (o8 4 1),o0 80 (o7 79),o4 81 14,o0 82 (oC 1 80 81),o0 83 (o7 82),o0 84 (.bin .add (.t 78) (.t 83)),o4 11 84]
 (.reg [o4 85 8,o4 86 10,o4 87 14,o4 88 15,o4 89 11,o0 90 (.build [.int .i64 0,.int .i64 0,.int .i64 0,.int .i64 0] [(0,1,(.t 86)),(1,1,(.t 87)),(2,1,(.t 88)),(3,1,(.t 89))]),o0 91 (.mklit 4 [.t 90]),o0 92 (.append 4 32 (.t 85) (.t 91)),o4 8 92])))))
 (.reg [o4 60 13,o0 61 (oI 60 1),o4 13 61]))
def aJ5:ACode:=.seq (oN [o4 16 10,o0 17 (o8 3 2),o0 18 (o7 17),o0 19 (oF 18),o0 20 (oH 16 19)]
 (.cond (.t 20) .skip
 (oM 0)))
 (.seq (.block 1 (oN [o0 23 (o8 3 2),o0 24 (o7 23),o4 25 10,o0 26 (oC 5 24 25),o0 27 (o8 26 2),o0 28 (o7 27),o4 11 28]
 (.seq (oN [o0 12 (oA 0)]
 (.block 2 (.loop aIS)))
 (.seq (oN [o0 13 (oA 0)]
 (.block 4 (.loop UB)))
 (.reg [o4 93 9,o4 94 11,o0 95 (.mklit 1 [.t 94]),o0 96 (.append 1 8 (.t 93) (.t 95)),o4 9 96])))))
 (.reg [o4 21 10,o0 22 (oI 21 1),o4 10 22]))
def a51:AFunc:=⟨99,[.tmp 6,.tmp 7],
 oN [o0 3 (.box 4 (.t 0)),o0 4 (.box 2 (.t 1)),o0 6 (.mov (.c (.lit [] true none))),o0 7 (.mov (.c (.lit [] true none)))]
 (oN [o0 8 (.mov (.c (.lit [] true none)))]
 (oN [o0 9 (.mov (.c (.lit [] true none)))]
 (.seq (oN [o0 10 (oA 0)]
 (.block 0 (.loop aJ5)))
 (oN [o4 97 8,o4 98 9,o4 6 97,o4 7 98]
 oL))))⟩
def aJI:ACode:=.seq (oN [o4 5 4,o0 6 (o8 1 2),o0 7 (o7 6),o0 8 (oF 7),o0 9 (oH 5 8)]
 (.cond (.t 9) .skip
 (oM 0)))
 (.seq (.block 1 (.reg [o4 12 3,o0 13 (o8 1 2),o0 14 (o7 13),o4 15 4,o0 16 (oC 5 14 15),o0 17 (o8 16 4),o0 18 (o7 17),o0 19 (.mklit 1 [.t 18]),o0 20 (.append 1 24 (.t 12) (.t 19)),o4 3 20]))
 (.reg [o4 10 4,o0 11 (oI 10 1),o4 4 11]))
def a52:AFunc:=⟨22,[.tmp 2],
 oN [o0 1 (.box 4 (.t 0)),o0 2 (.mov (.c (.lit [] true none)))]
 (oN [o0 3 (.mov (.c (.lit [] true none)))]
 (.seq (oN [o0 4 (oA 0)]
 (.block 0 (.loop aJI)))
 (oN [o4 21 3,o4 2 21]
 oL)))⟩
def a54:AFunc:=⟨6,[.tmp 2],
 oN [o0 2 (oA 0)]
 (oN [o4 3 0,o0 4 (.bin .quo (.t 3) (o5 100)),o0 5 (.bin .add (o5 1) (.t 4)),o4 2 5]
 oL)⟩
def a58:AFunc:=⟨14,[.cell 4 (some 2)],
 oN [o0 2 (.box 2 (.t 0)),o0 4 (.alloc [.int .i64 0,.int .i64 0])]
 (oN [o0 5 (o8 2 0),o0 6 (o7 5),o4 7 1,o0 8 (.min [.t 6,.t 7]),o0 9 (o8 2 1),o0 10 (o7 9),o4 11 1,o0 12 (.max [.t 10,.t 11]),o0 13 (.build [.int .i64 0,.int .i64 0] [(0,1,(.t 8)),(1,1,(.t 12))]),o1 (.store 2 (.t 4) (.t 13))]
 oL)⟩
def a59:AFunc:=⟨30,[.tmp 6,.tmp 7],
 oN [o0 3 (.box 7 (.t 0)),o0 6 (oA 0),o0 7 (oA 0)]
 (.seq (.dreg [o3 11 (oB 7 3) 0 1,o3 12 (o9 1) 0 1,o3 13 (.max [(.t 12),(.c (.int .i64 (-1099511627775)))]) 0 1,o3 14 (o9 2) 0 0,o3 15 (o8 3 0) 0 0,o3 16 (o7 15) 0 0,o3 17 (oF 16) 0 0,o3 18 (.mklit 1 [.t 14,.t 17]) 0 0,o3 19 (oK 93 [.t 18]) 0 1,o3 20 (oK 92 [.t 11,.t 13,.t 19]) 1 2,o3 10 (o9 20) 2 2,o3 21 (oD 10 0) 2 2,o3 22 (oD 10 1) 2 2,o3 8 (o9 21) 2 2,o3 9 (o9 22) 2 2])
 (.seq (oN [o4 23 9,o0 24 (oG true (.t 23) (o5 0))]
 (.cond (.t 24) (oN [o4 25 9,o0 6 (oA 0),o4 7 25]
 oL)
 .skip))
 (oN [o4 26 8,o4 27 1,o4 28 2,o0 29 (oK 204 [.t 26,.t 27,.t 28]),o4 6 29,o0 7 (oA 0)]
 oL)))⟩
def aIV:ACode:=.seq (oN [o4 7 6,o4 8 0,o0 9 (oF 8),o0 10 (oH 7 9)]
 (.cond (.t 10) .skip
 (oM 0)))
 (.seq (.block 1 (.reg [o4 13 5,o4 14 13,o2 15 (o9 0) 14 false,o2 16 (o9 6) 14 false,o2 17 (oC 1 15 16) 14 false,o2 18 (o7 17) 14 false,o2 19 (o9 1) 14 false,o2 20 (oG false (.t 18) (.t 19)) 14 false,o0 21 (.pick (.t 14) (.c (.bool true)) (.t 20)),o4 5 21]))
 (.reg [o4 11 6,o0 12 (oI 11 1),o4 6 12]))
def a64:AFunc:=⟨23,[.tmp 4],
 oN [o0 4 (.mov (.c (.bool false)))]
 (oN [o0 5 (.mov (.c (.bool false)))]
 (.seq (oN [o0 6 (oA 0)]
 (.block 0 (.loop aIV)))
 (oN [o4 22 5,o4 4 22]
 oL)))⟩
def a67:AFunc:=⟨14,[.tmp 4],
 oN [o0 4 (oA 0)]
 (oN [o0 5 (oA 0)]
 (.seq (oN [o4 6 1,o4 7 0,o0 8 (oK 220 [.t 6,.t 7]),o0 9 (.bin .geq (.t 8) (o5 0))]
 (.cond (.t 9) (.reg [o0 5 (oA 5)])
 .skip))
 (.seq (oN [o4 10 0,o0 11 (oK 221 [.t 10]),o0 12 (.not (.t 11))]
 (.cond (.t 12) (.reg [o0 5 (oA 6)])
 .skip))
 (oN [o4 13 5,o4 4 13]
 oL))))⟩
def a68:AFunc:=⟨6,[.tmp 2],
 oN [o0 1 (.box 7 (.t 0)),o0 2 (oA 0)]
 (oN [o0 3 (o8 1 0),o0 4 (o7 3),o0 5 (oF 4),o4 2 5]
 oL)⟩
def a72:AFunc:=⟨18,[.cell 2 (some 7)],
 .seq (.reg [o0 2 (.alloc [.lit [] true none,.int .i64 0,.int .i64 0,.int .i64 0,.int .i64 0,.lit [] true none,.lit [] true none])])
 (.seq (.reg [o0 3 (oK 79 [(o5 1),(o5 1)]),o0 4 (oK 79 [(o5 0),(o5 1)]),o0 5 (oK 79 [(o5 0),(o5 0)]),o0 6 (oK 79 [(o5 1),(o5 2)]),o0 7 (oK 79 [(o5 0),(o5 1)]),o0 8 (.mkref 2 [.t 3,.t 4,.t 5,.t 6,.t 7]),o0 9 (oK 79 [(o5 2),(o5 3)]),⟨some 10,.build [.str ⟨#[]⟩,.int .i64 0,.int .i64 0,.int .i64 0] [(0,1,(.c (.str ⟨#[104,105,108,108]⟩))),(3,1,(o5 30))],none⟩,o0 11 (oK 79 [(o5 1),(o5 2)]),⟨some 12,.build [.str ⟨#[]⟩,.int .i64 0,.int .i64 0,.int .i64 0] [(0,1,(.c (.str ⟨#[98,97,110,107]⟩))),(1,2,(.t 11)),(3,1,(o5 20))],none⟩,o0 13 (oK 79 [(o5 0),(o5 1)]),⟨some 14,.build [.str ⟨#[]⟩,.int .i64 0,.int .i64 0,.int .i64 0] [(0,1,(.c (.str ⟨#[98,101,110,100]⟩))),(1,2,(.t 13)),(3,1,(o5 25))],none⟩,o0 15 (.mkref 4 [.t 10,.t 12,.t 14]),o4 16 0,o0 17 (.build [.lit [] true none,.int .i64 0,.int .i64 0,.int .i64 0,.int .i64 0,.lit [] true none,.lit [] true none] [(0,1,(.t 8)),(1,1,(o5 6)),(2,1,(o5 11)),(3,2,(.t 9)),(5,1,(.t 15)),(6,1,(.t 16))]),o1 (.store 7 (.t 2) (.t 17))])
 oL)⟩
def a73:AFunc:=⟨11,[.cell 6 (some 3)],
 oN [o0 6 (.alloc [.int .i64 0,.int .i64 0,.int .i64 0])]
 (oN [o4 7 0,o4 8 1,o4 9 2,o0 10 (.build [.int .i64 0,.int .i64 0,.int .i64 0] [(0,1,(.t 7)),(1,1,(.t 8)),(2,1,(.t 9))]),o1 (.store 3 (.t 6) (.t 10))]
 oL)⟩
def aJ6:ACode:=oN [o0 25 (oH 24 23)]
 (.seq (.cond (.t 25) .skip
 (oM 0))
 (.seq (.block 1 (oN [o4 26 24,o4 8 26]
 (oN [o4 27 7,o4 28 1,o4 29 8,o0 30 (oK 204 [.t 27,.t 28,.t 29]),o4 9 30]
 (.seq (oN [o4 31 9,o0 32 (oG false (.t 31) (o5 1))]
 (.cond (.t 32) (.reg [o4 33 4,o4 34 8,o0 35 (.mklit 1 [.t 34]),o0 36 (.append 1 8 (.t 33) (.t 35)),o4 4 36])
 .skip))
 (oN [o4 37 9,o0 38 (oG true (.t 37) (o5 2))]
 (.cond (.t 38) (.reg [o4 39 5,o4 40 8,o0 41 (.mklit 1 [.t 40]),o0 42 (.append 1 8 (.t 39) (.t 41)),o4 5 42])
 .skip))))))
 (.reg [o0 43 (oI 24 1),o4 24 43])))
def a74:AFunc:=⟨46,[.tmp 4,.tmp 5,.tmp 6],
 oN [o0 2 (.box 7 (.t 0)),o0 4 (.mov (.c (.lit [] true none))),o0 5 (.mov (.c (.lit [] true none))),o0 6 (oA 0)]
 (oN [o0 11 (oB 7 2),o4 12 1,o0 13 (.max [(.t 12),(.c (.int .i64 (-1099511627775)))]),o0 14 (oK 92 [(.t 11),(.t 13),(o6 222)]),o4 10 14,o0 15 (oD 10 0),o0 16 (oD 10 1),o4 7 15,o4 6 16]
 (.seq (oN [o4 17 6,o0 18 (oG true (.t 17) (o5 0))]
 (.cond (.t 18) (oN [o4 19 6,o0 4 (.mov (.c (.lit [] true none))),o0 5 (.mov (.c (.lit [] true none))),o4 6 19]
 oL)
 .skip))
 (.seq (oN [o0 20 (o8 2 0),o0 21 (o7 20),o0 22 (oF 21),o0 23 (oI 22 1),o0 24 (oA 0)]
 (.block 0 (.loop aJ6)))
 (oN [o4 44 4,o4 45 5,o4 4 44,o4 5 45,o0 6 (oA 0)]
 oL))))⟩
def aJ3:ACode:=oN [o0 25 (oH 24 23)]
 (.seq (.cond (.t 25) .skip
 (oM 0))
 (.seq (.block 1 (oN [o4 26 24,o4 9 26]
 (.seq (.dreg [o3 27 (o9 6) 0 0,o3 28 (o9 1) 0 0,o3 29 (o9 9) 0 0,o3 30 (oK 94 [.t 27,.t 28,.t 29]) 0 1,o3 31 (.field (.t 30) 1 none) 1 1,o3 32 (o8 2 3) 0 1,o3 33 (o8 32 1) 0 1,o3 34 (o7 33) 0 1,o3 35 (.bin .add (.t 31) (.t 34)) 1 1,o3 36 (o8 2 2) 0 1,o3 37 (o7 36) 0 1,o3 38 (.bin .leq (.t 35) (.t 37)) 1 1])
 (.cond (.t 38) (.reg [o4 39 9,o4 8 39])
 .skip))))
 (.reg [o0 40 (oI 24 1),o4 24 40])))
def a75:AFunc:=⟨44,[.tmp 4,.tmp 5],
 oN [o0 2 (.box 7 (.t 0)),o0 4 (oA 0),o0 5 (oA 0)]
 (oN [o0 11 (oB 7 2),o4 12 1,o0 13 (.max [(.t 12),(.c (.int .i64 (-1099511627775)))]),o0 14 (oK 92 [(.t 11),(.t 13),(o6 222)]),o4 10 14,o0 15 (oD 10 0),o0 16 (oD 10 1),o4 6 15,o4 7 16]
 (.seq (oN [o4 17 7,o0 18 (oG true (.t 17) (o5 0))]
 (.cond (.t 18) (oN [o4 19 7,o0 4 (oA 0),o4 5 19]
 oL)
 .skip))
 (oN [o0 8 (.mov (.c (.int .i64 (-1))))]
 (.seq (oN [o0 20 (o8 2 0),o0 21 (o7 20),o0 22 (oF 21),o0 23 (oI 22 1),o0 24 (oA 0)]
 (.block 0 (.loop aJ3)))
 (.seq (oN [o4 41 8,o0 42 (.bin .lss (.t 41) (o5 0))]
 (.cond (.t 42) (oN [o0 4 (oA 0),o0 5 (oA 9)]
 oL)
 .skip))
 (oN [o4 43 8,o4 4 43,o0 5 (oA 0)]
 oL))))))⟩
def aOL:ACode:=oN [o0 30 (.mnext (.t 29)),o0 31 (oD 30 0)]
 (.seq (.cond (.t 31) .skip
 (oM 0))
 (.block 1 (oN [o0 32 (.entry (.t 29)),o0 33 (oD 32 0),o0 7 (.alloc [.int .i64 0,.int .i64 0,.int .i64 0,.int .i64 0,.int .i64 0,.int .i64 0,.int .i64 0]),o1 (.store 7 (.t 7) (.t 33))]
 (.dreg [o3 34 (o8 4 0) 0 0,o3 35 (o7 34) 0 0,o3 36 (o9 1) 0 0,o3 37 (.iaddr (some 7) 1 (.t 7) (.t 36)) 0 0,o3 38 (o7 37) 0 0,o3 39 (.min [.t 35,.t 38]) 0 0,o3 40 (o8 4 1) 0 0,o3 41 (o7 40) 0 0,o3 42 (o9 1) 0 0,o3 43 (.iaddr (some 7) 1 (.t 7) (.t 42)) 0 0,o3 44 (o7 43) 0 0,o3 45 (.max [.t 41,.t 44]) 0 0,o3 46 (.build [.int .i64 0,.int .i64 0] [(0,1,(.t 39)),(1,1,(.t 45))]) 0 0,⟨o1 (.store 2 (.t 4) (.t 46)),0,1⟩]))))
def a76:AFunc:=⟨48,[.cell 4 (some 2),.tmp 5],
 oN [o0 2 (.box 7 (.t 0)),o0 4 (.alloc [.int .i64 0,.int .i64 0]),o0 5 (oA 0)]
 (.seq (.dreg [o3 9 (oB 7 2) 0 1,o3 10 (o9 1) 0 0,o3 11 (o8 2 0) 0 0,o3 12 (o7 11) 0 0,o3 13 (oF 12) 0 0,o3 14 (.bin .sub (.t 13) (o5 1)) 0 0,o3 15 (.mklit 1 [.t 10,.t 14]) 0 0,o3 16 (oK 93 [.t 15]) 0 1,o3 17 (oK 92 [(.t 9),(.c (.int .i64 (-1099511627776))),(.t 16)]) 1 2,o3 8 (o9 17) 2 2,o3 18 (oD 8 0) 2 2,o3 19 (oD 8 1) 2 2,o3 6 (o9 18) 2 2,o3 5 (o9 19) 2 2])
 (.seq (oN [o4 20 5,o0 21 (oG true (.t 20) (o5 0))]
 (.cond (.t 21) (oN [o0 22 (oB 2 4),o4 23 5,o1 (.store 2 (.t 4) (.t 22)),o4 5 23]
 oL)
 .skip))
 (oN [o0 24 (.build [.int .i64 0,.int .i64 0] [(0,1,(o5 2))]),o1 (.store 2 (.t 4) (.t 24))]
 (.seq (oN [o4 25 6,o0 26 (.nilCheck (.t 25)),o0 27 (o8 26 8),o0 28 (o7 27),o0 29 (.mrange (.t 28))]
 (.block 0 (.loop aOL)))
 (oN [o0 47 (oB 2 4),o1 (.store 2 (.t 4) (.t 47)),o0 5 (oA 0)]
 oL)))))⟩
def aQK:ACode:=oN [o0 26 (.mnext (.t 25)),o0 27 (oD 26 0)]
 (.seq (.cond (.t 27) .skip
 (oM 0))
 (.block 1 (oN [o0 28 (.entry (.t 25)),o0 29 (oD 28 1),o0 10 (.alloc [.int .i64 0,.int .i64 0,.int .i64 0,.int .i64 0]),o1 (.store 4 (.t 10) (.t 29))]
 (.reg [o4 30 8,o4 31 1,o0 32 (.iaddr (some 4) 1 (.t 10) (.t 31)),o0 33 (o7 32),o0 34 (.bin .or (.t 30) (.t 33)),o4 8 34]))))
def a77:AFunc:=⟨40,[.tmp 4,.tmp 5],
 oN [o0 2 (.box 7 (.t 0)),o0 4 (.mov (.c (.lit [] true none))),o0 5 (oA 0)]
 (oN [o0 12 (oB 7 2),o4 13 1,o0 14 (.max [(.t 13),(.c (.int .i64 (-1099511627775)))]),o0 15 (oK 92 [(.t 12),(.t 14),(o6 222)]),o4 11 15,o0 16 (oD 11 0),o0 17 (oD 11 1),o4 6 16,o4 7 17]
 (.seq (oN [o4 18 7,o0 19 (oG true (.t 18) (o5 0))]
 (.cond (.t 19) (oN [o4 20 7,o0 4 (.mov (.c (.lit [] true none))),o4 5 20]
 oL)
 .skip))
 (oN [o0 8 (oA 0)]
 (.seq (oN [o4 21 6,o0 22 (.nilCheck (.t 21)),o0 23 (o8 22 8),o0 24 (o7 23),o0 25 (.mrange (.t 24))]
 (.block 0 (.loop aQK)))
 (oN [o4 35 8,o0 36 (o8 2 0),o0 37 (o7 36),o0 38 (oF 37),o0 39 (oK 117 [.t 35,.t 38]),o4 4 39,o0 5 (oA 0)]
 oL)))))⟩
def aJH:ACode:=oN [o0 21 (oH 20 19)]
 (.seq (.cond (.t 21) .skip
 (oM 0))
 (.seq (.block 1 (oN [o4 22 20,o4 5 22]
 (oN [o4 23 5,o0 24 (o8 1 6),o0 25 (o7 24),o0 26 (oF 25),o0 27 (oK 117 [.t 23,.t 26]),o4 6 27]
 (.seq (oN [o4 28 4,o4 29 28,o2 30 (o9 6) 29 true,o2 31 (oF 30) 29 true,o2 32 (o9 2) 29 true,o2 33 (oF 32) 29 true,o2 34 (.bin .gtr (.t 31) (.t 33)) 29 true,o2 35 (o9 34) 29 true,o2 36 (o9 6) 35 false,o2 37 (oF 36) 35 false,o2 38 (o9 2) 35 false,o2 39 (oF 38) 35 false,o2 40 (oG false (.t 37) (.t 39)) 35 false,o2 41 (o9 40) 35 false,o2 42 (o9 6) 41 true,o2 43 (o9 2) 41 true,o2 44 (oK 118 [.t 42,.t 43]) 41 true,o2 45 (.bin .gtr (.t 44) (o5 0)) 41 true,o2 46 (.pick (.t 41) (.t 45) (.c (.bool false))) 35 false,o2 47 (.pick (.t 35) (.c (.bool true)) (.t 46)) 29 true,o0 48 (.pick (.t 29) (.t 47) (.c (.bool false)))]
 (.cond (.t 48) (oM 1)
 .skip))
 (oN [o0 49 (oB 7 1),o4 50 5,o0 51 (oK 224 [.t 49,.t 50]),o0 52 (.nilCheck (.t 51)),o0 53 (o8 52 8),o0 54 (o7 53),o0 55 (.len 2 (.t 54)),o0 56 (.bin .gtr (.t 55) (o5 0))]
 (.cond (.t 56) (.reg [o4 57 6,o4 2 57,o0 4 (.mov (.c (.bool true)))])
 .skip))))))
 (.reg [o0 58 (oI 20 1),o4 20 58])))
def a78:AFunc:=⟨60,[.tmp 2,.tmp 3],
 oN [o0 1 (.box 7 (.t 0)),o0 2 (.mov (.c (.lit [] true none))),o0 3 (oA 0)]
 (.seq (oN [o0 8 (oB 7 1),o0 9 (oK 223 [.t 8]),o4 7 9,o0 10 (oD 7 0),o0 11 (oD 7 1),o0 12 (oD 7 2),o4 3 12]
 (oN [o4 13 3,o0 14 (oG true (.t 13) (o5 0))]
 (.cond (.t 14) (oN [o4 15 3,o0 2 (.mov (.c (.lit [] true none))),o4 3 15]
 oL)
 .skip)))
 (oN [o0 4 (.mov (.c (.bool false)))]
 (.seq (oN [o0 16 (o8 1 6),o0 17 (o7 16),o0 18 (oF 17),o0 19 (.bin .shl (o5 1) (.t 18)),o0 20 (oA 0)]
 (.block 0 (.loop aJH)))
 (oN [o4 59 2,o4 2 59,o0 3 (oA 0)]
 oL))))⟩
def a79:AFunc:=⟨8,[.cell 4 (some 2)],
 oN [o0 4 (.alloc [.int .i64 0,.int .i64 0])]
 (oN [o4 5 0,o4 6 1,o0 7 (.build [.int .i64 0,.int .i64 0] [(0,1,(.t 5)),(1,1,(.t 6))]),o1 (.store 2 (.t 4) (.t 7))]
 oL)⟩
def aI9:ACode:=.seq (oN [o4 28 7,o0 29 (o8 1 0),o0 30 (o7 29),o4 31 4,o0 32 (oC 2 30 31),o0 33 (o8 32 1),o0 34 (o7 33),o0 35 (.bin .leq (.t 28) (.t 34))]
 (.cond (.t 35) .skip
 (oM 4)))
 (.seq (.block 5 (.reg [o4 38 5,o0 39 (.mklit 1 []),o4 40 3,o4 41 6,o0 42 (oC 1 40 41),o0 43 (o7 42),o0 44 (.append 1 8 (.t 39) (.t 43)),o4 45 7,o0 46 (.mklit 1 [.t 45]),o0 47 (.append 1 8 (.t 44) (.t 46)),o0 48 (.mklit 1 [.t 47]),o0 49 (.append 1 24 (.t 38) (.t 48)),o4 5 49]))
 (.reg [o4 36 7,o0 37 (oI 36 1),o4 7 37]))
def aJP:ACode:=.seq (oN [o4 16 6,o4 17 3,o0 18 (oF 17),o0 19 (oH 16 18)]
 (.cond (.t 19) .skip
 (oM 2)))
 (.seq (.block 3 (oN [o0 22 (o8 1 0),o0 23 (o7 22),o4 24 4,o0 25 (oC 2 23 24),o0 26 (o8 25 0),o0 27 (o7 26),o4 7 27]
 (.block 4 (.loop aI9))))
 (.reg [o4 20 6,o0 21 (oI 20 1),o4 6 21]))
def aJD:ACode:=.seq (oN [o4 9 4,o0 10 (o8 1 0),o0 11 (o7 10),o0 12 (oF 11),o0 13 (oH 9 12)]
 (.cond (.t 13) .skip
 (oM 0)))
 (.seq (.block 1 (oN [o0 5 (.mov (.c (.lit [] true none)))]
 (.seq (oN [o0 6 (oA 0)]
 (.block 2 (.loop aJP)))
 (.reg [o4 50 5,o4 3 50]))))
 (.reg [o4 14 4,o0 15 (oI 14 1),o4 4 15]))
def a90:AFunc:=⟨52,[.tmp 2],
 oN [o0 1 (.box 7 (.t 0)),o0 2 (.mov (.c (.lit [] true none)))]
 (.seq (.reg [o0 8 (.mklit 1 [(.c (.lit [] true none))]),o4 3 8])
 (.seq (oN [o0 4 (oA 0)]
 (.block 0 (.loop aJD)))
 (oN [o4 51 3,o4 2 51]
 oL)))⟩
def aIP:ACode:=.seq (oN [o4 32 12,o0 33 (o8 4 6),o0 34 (o7 33),o0 35 (oF 34),o0 36 (oH 32 35)]
 (.cond (.t 36) .skip
 (oM 2)))
 (.seq (.block 3 (oN [o0 39 (o8 4 6),o0 40 (o7 39),o4 41 12,o0 42 (oC 3 40 41),o0 43 (oB 3 42),o0 13 (.alloc [.int .i64 0,.int .i64 0,.int .i64 0]),o1 (.store 3 (.t 13) (.t 43))]
 (oN [o0 44 (o8 13 0),o0 45 (o7 44),o4 46 1,o0 47 (oG false (.t 45) (.t 46)),o4 48 47,o2 49 (o9 3) 48 true,o2 50 (o9 12) 48 true,o2 51 (oK 64 [.t 49,.t 50]) 48 true,o2 52 (.not (.t 51)) 48 true,o0 53 (.pick (.t 48) (.t 52) (.c (.bool false)))]
 (.cond (.t 53) (.dreg [o3 54 (o9 11) 0 0,o3 55 (o9 54) 0 0,⟨o2 56 (o9 2) 55 true,0,0⟩,⟨o2 57 (o9 10) 55 true,0,0⟩,⟨o2 58 (o8 13 1) 55 true,0,0⟩,⟨o2 59 (o7 58) 55 true,0,0⟩,⟨o2 60 (oK 18 [.t 56,.t 57,.t 59]) 55 true,0,1⟩,⟨o2 61 (o8 13 2) 55 true,0,1⟩,⟨o2 62 (o7 61) 55 true,0,1⟩,⟨o2 63 (oG false (.t 60) (.t 62)) 55 true,1,1⟩,o3 64 (.pick (.t 55) (.t 63) (.c (.bool false))) 1 1,o3 11 (o9 64) 1 1])
 .skip))))
 (.reg [o4 37 12,o0 38 (oI 37 1),o4 12 38]))
def aJ0:ACode:=.seq (oN [o4 21 10,o0 22 (o8 4 5),o0 23 (o7 22),o4 24 1,o0 25 (oC 4 23 24),o0 26 (o8 25 1),o0 27 (o8 26 1),o0 28 (o7 27),o0 29 (.bin .leq (.t 21) (.t 28))]
 (.cond (.t 29) .skip
 (oM 0)))
 (.seq (.block 1 (oN [o0 11 (.mov (.c (.bool true)))]
 (.seq (oN [o0 12 (oA 0)]
 (.block 2 (.loop aIP)))
 (oN [o4 65 11]
 (.cond (.t 65) (.reg [o4 66 9,o4 67 10,o0 68 (.mklit 1 [.t 67]),o0 69 (.append 1 8 (.t 66) (.t 68)),o4 9 69])
 .skip)))))
 (.reg [o4 30 10,o0 31 (oI 30 1),o4 10 31]))
def a91:AFunc:=⟨71,[.tmp 8],
 oN [o0 4 (.box 7 (.t 0)),o0 8 (.mov (.c (.lit [] true none)))]
 (oN [o0 9 (.mov (.c (.lit [] true none)))]
 (.seq (oN [o0 14 (o8 4 5),o0 15 (o7 14),o4 16 1,o0 17 (oC 4 15 16),o0 18 (o8 17 1),o0 19 (o8 18 0),o0 20 (o7 19),o4 10 20]
 (.block 0 (.loop aJ0)))
 (oN [o4 70 9,o4 8 70]
 oL)))⟩
def a92:AFunc:=⟨47,[.tmp 6,.tmp 7],
 oN [o0 3 (.box 7 (.t 0)),o0 6 (.mov (.c (.nilPtr))),o0 7 (oA 0)]
 (.seq (oN [o0 14 (oB 7 3),o0 15 (oK 223 [.t 14]),o4 13 15,o0 16 (oD 13 0),o0 17 (oD 13 1),o0 18 (oD 13 2),o4 8 16,o4 9 17,o4 10 18]
 (oN [o4 19 10,o0 20 (oG true (.t 19) (o5 0))]
 (.cond (.t 20) (oN [o4 21 10,o0 6 (.mov (.c (.nilPtr))),o4 7 21]
 oL)
 .skip)))
 (.seq (oN [o4 22 1,o0 23 (oG true (.t 22) (.c (.int .i64 (-1099511627776)))),o4 24 23,o2 25 (o8 3 5) 24 true,o2 26 (o7 25) 24 true,o2 27 (oF 26) 24 true,o2 28 (.bin .sub (.t 27) (o5 1)) 24 true,o2 29 (o9 1) 24 true,o2 30 (.mklit 1 [.t 29]) 24 true,o2 31 (oK 232 [(o5 0),(.t 28),(.t 30)]) 24 true,o0 32 (.pick (.t 24) (.t 31) (.c (.bool false)))]
 (.cond (.t 32) (oN [o0 6 (.mov (.c (.nilPtr))),o0 7 (oA 4)]
 oL)
 .skip))
 (.seq (oN [o4 33 2,o0 34 (.call (.t 33) []),o4 11 34]
 (oN [o4 35 11,o0 36 (oG true (.t 35) (o5 0))]
 (.cond (.t 36) (oN [o4 37 11,o0 6 (.mov (.c (.nilPtr))),o4 7 37]
 oL)
 .skip)))
 (oN [o0 38 (oB 7 3),o0 39 (oK 224 [(.t 38),(o5 0)]),o4 12 39]
 (.seq (oN [o4 40 12,o0 41 (.nilCheck (.t 40)),o0 42 (o8 41 8),o0 43 (o7 42),o0 44 (.len 2 (.t 43)),o0 45 (oG false (.t 44) (o5 0))]
 (.cond (.t 45) (oN [o0 6 (.mov (.c (.nilPtr))),o0 7 (oA 8)]
 oL)
 .skip))
 (oN [o4 46 12,o4 6 46,o0 7 (oA 0)]
 oL))))))⟩
def a93:AFunc:=⟨4,[.tmp 2],
 oN [o0 1 (.box 1 (.t 0)),o0 2 (.mov (.c (.nilFunc)))]
 (oN [o0 3 (.mkfun 233 [] [.t 1]),o4 2 3]
 oL)⟩
def aI4:ACode:=oN [o0 35 (oH 34 33)]
 (.seq (.cond (.t 35) .skip
 (oM 2))
 (.seq (.block 3 (oN [o0 36 (oC 1 32 34),o0 37 (o7 36),o4 10 37]
 (oN [o4 38 0,o0 39 (oB 7 7),o4 40 10,o4 41 2,o0 42 (oK 234 [.t 38,.t 39,.t 40,.t 41]),o4 11 42]
 (.reg [o0 43 (o8 6 0),o0 44 (o7 43),o4 45 11,o0 46 (.min [.t 44,.t 45]),o0 47 (o8 6 1),o0 48 (o7 47),o4 49 11,o0 50 (.max [.t 48,.t 49]),o0 51 (.build [.int .i64 0,.int .i64 0] [(0,1,(.t 46)),(1,1,(.t 50))]),o1 (.store 2 (.t 6) (.t 51))]))))
 (.reg [o0 52 (oI 34 1),o4 34 52])))
def aPD:ACode:=oN [o0 18 (.mnext (.t 17)),o0 19 (oD 18 0)]
 (.seq (.cond (.t 19) .skip
 (oM 0))
 (.block 1 (oN [o0 20 (.entry (.t 17)),o0 21 (oD 20 0),o0 22 (oD 20 1),o0 7 (.alloc [.int .i64 0,.int .i64 0,.int .i64 0,.int .i64 0,.int .i64 0,.int .i64 0,.int .i64 0]),o0 8 (.alloc [.int .i64 0,.int .i64 0,.int .i64 0,.int .i64 0]),o1 (.store 7 (.t 7) (.t 21)),o1 (.store 4 (.t 8) (.t 22))]
 (.seq (.dreg [o3 23 (o9 1) 0 0,o3 24 (.iaddr (some 4) 1 (.t 8) (.t 23)) 0 0,o3 25 (o7 24) 0 0,o3 26 (o9 0) 0 0,o3 27 (.nilCheck (.t 26)) 0 0,o3 28 (o8 27 0) 0 0,o3 29 (o8 28 0) 0 0,o3 30 (o7 29) 0 0,o3 31 (oF 30) 0 0,o3 32 (oK 117 [.t 25,.t 31]) 0 1,o3 33 (oF 32) 1 1,o3 34 (oA 0) 0 1])
 (.block 2 (.loop aI4))))))
def a94:AFunc:=⟨54,[.cell 6 (some 2)],
 oN [o0 6 (.alloc [.int .i64 0,.int .i64 0])]
 (oN [o0 12 (.build [.int .i64 0,.int .i64 0] [(0,1,(o5 31)),(1,1,(.c (.int .i64 (-1))))]),o1 (.store 2 (.t 6) (.t 12))]
 (.seq (oN [o4 13 0,o0 14 (.nilCheck (.t 13)),o0 15 (o8 14 8),o0 16 (o7 15),o0 17 (.mrange (.t 16))]
 (.block 0 (.loop aPD)))
 (oN [o0 53 (oB 2 6),o1 (.store 2 (.t 6) (.t 53))]
 oL)))⟩
def H1:ACode:=oN [o0 8 (.snext (.t 7)),o0 9 (oD 8 0)]
 (.seq (.cond (.t 9) .skip
 (oM 0))
 (.block 1 (oN [o0 10 (oD 8 1),o0 11 (oD 8 2),o4 3 10,o4 4 11]
 (oN [o4 12 4,o0 13 (.bin .geq (.t 12) (.c (.int .i32 97))),o4 14 13,o2 15 (o9 4) 14 true,o2 16 (.bin .leq (.t 15) (.c (.int .i32 122))) 14 true,o0 17 (.pick (.t 14) (.t 16) (.c (.bool false))),o4 5 17]
 (oN [o4 18 5,o0 19 (.not (.t 18)),o4 20 19,o2 21 (o9 3) 20 true,o2 22 (oG false (.t 21) (o5 0)) 20 true,o2 23 (o9 22) 20 true,o2 24 (o9 4) 23 false,o2 25 (oG true (.t 24) (.c (.int .i32 46))) 23 false,o2 26 (o9 25) 23 false,o2 27 (o9 4) 26 true,o2 28 (.bin .lss (.t 27) (.c (.int .i32 48))) 26 true,o2 29 (o9 28) 26 true,o2 30 (o9 4) 29 false,o2 31 (.bin .gtr (.t 30) (.c (.int .i32 57))) 29 false,o2 32 (.pick (.t 29) (.c (.bool true)) (.t 31)) 26 true,o2 33 (.pick (.t 26) (.t 32) (.c (.bool false))) 23 false,o2 34 (.pick (.t 23) (.c (.bool true)) (.t 33)) 20 true,o0 35 (.pick (.t 20) (.t 34) (.c (.bool false)))]
 (.cond (.t 35) (oN [o0 2 (.mov (.c (.bool false)))]
 oL)
 .skip))))))
def OA:AFunc:=⟨41,[.tmp 2],
 oN [o0 2 (.mov (.c (.bool false)))]
 (.seq (oN [o4 6 0,o0 7 (.srange (.t 6))]
 (.block 0 (.loop H1)))
 (oN [o4 36 0,o0 37 (.len 0 (.t 36)),o0 38 (.mklit 1 [.t 37]),o0 39 (oK 244 [(o5 1),(o5 16),(.t 38)]),o0 40 (.not (.t 39)),o4 2 40]
 oL))⟩
def aCF:ACode:=oN [o0 8 (oH 7 6)]
 (.seq (.cond (.t 8) .skip
 (oM 0))
 (.seq (.block 1 (oN [o4 9 7,o4 5 9]
 (oN [o4 10 0,o4 11 5,o0 12 (.bin .shr (.t 10) (.t 11)),o0 13 (.bin .and (.t 12) (o5 1)),o0 14 (oG false (.t 13) (o5 1))]
 (.cond (.t 14) (.reg [o4 15 4,o4 16 5,o0 17 (.mklit 1 [.t 16]),o0 18 (.append 1 8 (.t 15) (.t 17)),o4 4 18])
 .skip))))
 (.reg [o0 19 (oI 7 1),o4 7 19])))
def XS:AFunc:=⟨21,[.tmp 4],
 oN [o0 4 (.mov (.c (.lit [] true none)))]
 (.seq (oN [o4 6 1,o0 7 (oA 0)]
 (.block 0 (.loop aCF)))
 (oN [o4 20 4,o4 4 20]
 oL))⟩
def QY:ACode:=oN [o0 12 (oH 11 10)]
 (.seq (.cond (.t 12) .skip
 (oM 0))
 (.seq (.block 1 (oN [o4 13 11,o0 14 (oC 1 9 11),o0 15 (o7 14),o4 5 13,o4 6 15]
 (.seq (oN [o4 16 5,o4 17 1,o0 18 (oF 17),o0 19 (.bin .geq (.t 16) (.t 18))]
 (.cond (.t 19) (oN [o0 4 (oA 1)]
 oL)
 .skip))
 (oN [o4 20 1,o4 21 5,o0 22 (oC 1 20 21),o0 23 (o7 22),o4 7 23]
 (oN [o4 24 6,o4 25 7,o0 26 (oK 254 [.t 24,.t 25]),o4 8 26]
 (oN [o4 27 8,o0 28 (oG true (.t 27) (o5 0))]
 (.cond (.t 28) (oN [o4 29 8,o4 4 29]
 oL)
 .skip)))))))
 (.reg [o0 30 (oI 11 1),o4 11 30])))
def M0:AFunc:=⟨36,[.tmp 4],
 oN [o0 4 (oA 0)]
 (.seq (oN [o4 9 0,o0 10 (oF 9),o0 11 (oA 0)]
 (.block 0 (.loop QY)))
 (.seq (oN [o4 31 0,o0 32 (oF 31),o4 33 1,o0 34 (oF 33),o0 35 (oH 32 34)]
 (.cond (.t 35) (oN [o0 4 (.mov (.c (.int .i64 (-1))))]
 oL)
 .skip))
 (oN [o0 4 (oA 0)]
 oL)))⟩
def Y3:ACode:=.seq (.seq (.dreg [o3 6 (o9 5) 0 0,o3 7 (o9 0) 0 0,o3 8 (oF 7) 0 0,o3 9 (oH 6 8) 0 0,o3 10 (o9 9) 0 0,⟨o2 11 (o9 5) 10 true,0,0⟩,⟨o2 12 (o9 1) 10 true,0,0⟩,⟨o2 13 (oF 12) 10 true,0,0⟩,⟨o2 14 (oH 11 13) 10 true,0,0⟩,o3 15 (.pick (.t 10) (.t 14) (.c (.bool false))) 0 0,o3 16 (o9 15) 0 0,⟨o2 17 (o9 0) 16 true,0,0⟩,⟨o2 18 (o9 5) 16 true,0,0⟩,⟨o2 19 (oC 1 17 18) 16 true,0,0⟩,⟨o2 20 (o7 19) 16 true,0,0⟩,⟨o2 21 (o9 1) 16 true,0,0⟩,⟨o2 22 (o9 5) 16 true,0,0⟩,⟨o2 23 (oC 1 21 22) 16 true,0,0⟩,⟨o2 24 (o7 23) 16 true,0,0⟩,⟨o2 25 (oG false (.t 20) (.t 24)) 16 true,0,0⟩,o3 26 (.pick (.t 16) (.t 25) (.c (.bool false))) 0 0])
 (.cond (.t 26) .skip
 (oM 0)))
 (.block 1 (.reg [o4 27 5,o0 28 (oI 27 1),o4 5 28]))
def aBX:AFunc:=⟨48,[.tmp 4],
 oN [o0 4 (.mov (.c (.bool false)))]
 (oN [o0 5 (oA 0)]
 (.seq (.block 0 (.loop Y3))
 (.seq (oN [o4 29 5,o4 30 1,o0 31 (oF 30),o0 32 (oG false (.t 29) (.t 31))]
 (.cond (.t 32) (oN [o0 4 (.mov (.c (.bool false)))]
 oL)
 .skip))
 (.seq (.dreg [o3 33 (o9 5) 0 0,o3 34 (o9 0) 0 0,o3 35 (oF 34) 0 0,o3 36 (oG false (.t 33) (.t 35)) 0 0,o3 37 (o9 36) 0 0,⟨o2 38 (o9 0) 37 false,0,0⟩,⟨o2 39 (o9 5) 37 false,0,0⟩,⟨o2 40 (oC 1 38 39) 37 false,0,0⟩,⟨o2 41 (o7 40) 37 false,0,0⟩,⟨o2 42 (o9 1) 37 false,0,0⟩,⟨o2 43 (o9 5) 37 false,0,0⟩,⟨o2 44 (oC 1 42 43) 37 false,0,0⟩,⟨o2 45 (o7 44) 37 false,0,0⟩,⟨o2 46 (oH 41 45) 37 false,0,0⟩,o3 47 (.pick (.t 37) (.c (.bool true)) (.t 46)) 0 0,o3 4 (o9 47) 0 0])
 oL))))⟩
def aBA:AFunc:=⟨46,[.tmp 4],
 oN [o0 2 (.box 4 (.t 0)),o0 3 (.box 5 (.t 1)),o0 4 (oA 0)]
 (.seq (oN [o0 6 (oB 4 2),o0 7 (o8 3 0),o0 8 (o7 7),o0 9 (oK 309 [.t 6,.t 8]),o0 10 (.not (.t 9)),o4 11 10,o2 12 (oB 4 2) 11 false,o2 13 (o8 3 1) 11 false,o2 14 (o7 13) 11 false,o2 15 (oK 309 [.t 12,.t 14]) 11 false,o2 16 (.not (.t 15)) 11 false,o0 17 (.pick (.t 11) (.c (.bool true)) (.t 16))]
 (.cond (.t 17) (oN [o0 4 (oA 4)]
 oL)
 .skip))
 (.seq (oN [o0 18 (o8 3 0),o0 19 (o7 18),o0 20 (o8 3 1),o0 21 (o7 20),o0 22 (oG false (.t 19) (.t 21))]
 (.cond (.t 22) (oN [o0 4 (oA 2)]
 oL)
 .skip))
 (oN [o0 23 (o8 3 2),o0 24 (oB 2 23),o0 25 (oK 29 [(.t 24),(o5 1),(o5 20)]),o4 5 25]
 (.seq (oN [o4 26 5,o0 27 (oG false (.t 26) (o5 7)),o4 28 27,o2 29 (o8 3 4) 28 false,o2 30 (o7 29) 28 false,o2 31 (oK 20 [(.t 30),(o5 0),(o5 2)]) 28 false,o2 32 (.not (.t 31)) 28 false,o0 33 (.pick (.t 28) (.c (.bool true)) (.t 32))]
 (.cond (.t 33) (oN [o0 4 (oA 7)]
 oL)
 .skip))
 (.seq (oN [o4 34 5,o0 35 (oG true (.t 34) (o5 0)),o4 36 35,o2 37 (o8 3 2) 36 false,o2 38 (o8 37 1) 36 false,o2 39 (o7 38) 36 false,o2 40 (o8 3 2) 36 false,o2 41 (o8 40 0) 36 false,o2 42 (o7 41) 36 false,o2 43 (oI 42 1) 36 false,o2 44 (.bin .gtr (.t 39) (.t 43)) 36 false,o0 45 (.pick (.t 36) (.c (.bool true)) (.t 44))]
 (.cond (.t 45) (oN [o0 4 (oA 2)]
 oL)
 .skip))
 (oN [o0 4 (oA 0)]
 oL))))))⟩
def aAI:ACode:=.seq (oN [o4 26 5,o0 27 (o8 3 4),o0 28 (o7 27),o0 29 (oF 28),o0 30 (oH 26 29)]
 (.cond (.t 30) .skip
 (oM 0)))
 (.seq (.block 1 (.seq (.dreg [o3 33 (o8 3 4) 0 0,o3 34 (o7 33) 0 0,o3 35 (o9 5) 0 0,o3 36 (oC 1 34 35) 0 0,o3 37 (o7 36) 0 0,o3 38 (o8 2 1) 0 0,o3 39 (o7 38) 0 0,o3 40 (oF 39) 0 0,o3 41 (.bin .sub (.t 40) (o5 1)) 0 0,o3 42 (oK 20 [(.t 37),(o5 0),(.t 41)]) 0 1,o3 43 (.not (.t 42)) 1 1])
 (.cond (.t 43) (oN [o0 4 (oA 4)]
 oL)
 .skip)))
 (.reg [o4 31 5,o0 32 (oI 31 1),o4 5 32]))
def aAP:AFunc:=⟨51,[.tmp 4],
 oN [o0 2 (.box 4 (.t 0)),o0 3 (.box 5 (.t 1)),o0 4 (oA 0)]
 (.seq (oN [o0 6 (oB 4 2),o0 7 (o8 3 1),o0 8 (o7 7),o0 9 (oK 309 [.t 6,.t 8]),o0 10 (.not (.t 9))]
 (.cond (.t 10) (oN [o0 4 (oA 4)]
 oL)
 .skip))
 (.seq (oN [o0 11 (o8 3 2),o0 12 (o7 11),o0 13 (oK 20 [(.t 12),(o5 0),(o5 60)]),o0 14 (.not (.t 13)),o4 15 14,o2 16 (o8 3 3) 15 false,o2 17 (o7 16) 15 false,o2 18 (oK 20 [(.t 17),(o5 0),(o5 400)]) 15 false,o2 19 (.not (.t 18)) 15 false,o0 20 (.pick (.t 15) (.c (.bool true)) (.t 19))]
 (.cond (.t 20) (oN [o0 4 (oA 7)]
 oL)
 .skip))
 (.seq (oN [o0 21 (o8 3 4),o0 22 (o7 21),o0 23 (oF 22),o0 24 (oK 20 [(.t 23),(o5 1),(o5 4)]),o0 25 (.not (.t 24))]
 (.cond (.t 25) (oN [o0 4 (oA 3)]
 oL)
 .skip))
 (.seq (oN [o0 5 (oA 0)]
 (.block 0 (.loop aAI)))
 (.seq (oN [o0 44 (oB 4 2),o0 45 (o8 3 1),o0 46 (o7 45),o0 47 (o8 3 4),o0 48 (o7 47),o0 49 (oK 310 [.t 44,.t 46,.t 48]),o0 50 (.not (.t 49))]
 (.cond (.t 50) (oN [o0 4 (oA 2)]
 oL)
 .skip))
 (oN [o0 4 (oA 0)]
 oL))))))⟩
def ZH:AFunc:=⟨32,[.cell 4 (some 4)],
 .seq (.reg [o0 4 (.alloc [.int .i64 0,.lit [] true none,.lit [] true none,.lit [] true none])])
 (.seq (.reg [o0 6 (oK 192 [(o5 5),(o5 6)]),o0 7 (.build [.int .i64 0,.int .i64 0,.int .i64 0,.int .i64 0,.int .i64 0] [(0,1,(o5 1)),(1,1,(o5 0)),(2,2,(.t 6))]),o0 8 (oK 192 [(o5 4),(o5 4)]),o0 9 (.build [.int .i64 0,.int .i64 0,.int .i64 0,.int .i64 0,.int .i64 0] [(0,1,(o5 2)),(1,1,(o5 1)),(2,2,(.t 8))]),o0 10 (oK 192 [(o5 12),(o5 12)]),o0 11 (.build [.int .i64 0,.int .i64 0,.int .i64 0,.int .i64 0,.int .i64 0] [(0,1,(o5 2)),(1,1,(o5 0)),(2,2,(.t 10)),(4,1,(o5 2))]),o0 12 (oK 192 [(o5 3),(o5 3)]),o0 13 (.build [.int .i64 0,.int .i64 0,.int .i64 0,.int .i64 0,.int .i64 0] [(0,1,(o5 3)),(1,1,(o5 2)),(2,2,(.t 12))]),o0 14 (.mkref 5 [.t 7,.t 9,.t 11,.t 13]),o0 15 (.mkref 1 [(o5 1),(o5 0)]),⟨some 16,.build [.str ⟨#[]⟩,.int .i64 0,.int .i64 0,.int .i64 0,.lit [] true none] [(0,1,(.c (.str ⟨#[114,101,100]⟩))),(1,1,(o5 2)),(3,1,(o5 12)),(4,1,(.t 15))],none⟩,o0 17 (.mkref 1 [(o5 3),(o5 1),(o5 0)]),⟨some 18,.build [.str ⟨#[]⟩,.int .i64 0,.int .i64 0,.int .i64 0,.lit [] true none] [(0,1,(.c (.str ⟨#[98,108,117,101]⟩))),(1,1,(o5 3)),(3,1,(o5 24)),(4,1,(.t 17))],none⟩,o0 19 (.mkref 5 [.t 16,.t 18]),o4 20 1,o0 21 (.build [.int .i64 0,.lit [] true none,.lit [] true none,.lit [] true none] [(0,1,(o5 4)),(1,1,(.t 14)),(2,1,(.t 19)),(3,1,(.t 20))]),o0 5 (.alloc [.int .i64 0,.lit [] true none,.lit [] true none,.lit [] true none]),o1 (.store 4 (.t 5) (.t 21))])
 (.seq (oN [o4 22 0]
 (.cond (.t 22) (.dreg [o3 23 (o8 5 1) 0 0,o3 24 (o7 23) 0 0,o3 25 (o8 5 1) 0 1,o3 26 (o7 25) 0 1,o3 27 (.iaddr none 5 (.t 24) (o5 0)) 0 0,o3 28 (o8 27 4) 0 0,⟨o1 (.store 1 (.t 28) (o5 2)),0,1⟩,o3 29 (.iaddr none 5 (.t 26) (o5 2)) 1 1,o3 30 (o8 29 4) 1 1,⟨o1 (.store 1 (.t 30) (o5 0)),1,2⟩])
 .skip))
 (oN [o0 31 (oB 4 5),o1 (.store 4 (.t 4) (.t 31))]
 oL)))⟩
def aAA:AFunc:=⟨8,[.cell 4 (some 2)],
 oN [o0 4 (.alloc [.int .i64 0,.int .i64 0])]
 (oN [o4 5 0,o4 6 1,o0 7 (.build [.int .i64 0,.int .i64 0] [(0,1,(.t 5)),(1,1,(.t 6))]),o1 (.store 2 (.t 4) (.t 7))]
 oL)⟩
def aAQ:AFunc:=⟨29,[.tmp 4,.tmp 5],
 oN [o0 2 (.box 4 (.t 0)),o0 4 (.mov (.c (.lit [] true none))),o0 5 (oA 0)]
 (oN [o0 10 (oB 4 2),o0 11 (oK 316 [.t 10]),o4 9 11,o0 12 (oD 9 0),o0 13 (oD 9 1),o0 14 (oD 9 2),o4 6 12,o4 7 13,o4 8 14]
 (.seq (.block 0 (oN [o4 16 8,o0 17 (oG true (.t 16) (o5 0)),o4 15 17]
 (.cond (.t 15) (oN [o4 18 8,o0 4 (.mov (.c (.lit [] true none))),o4 5 18]
 oL)
 (oN [o0 20 (o8 2 0),o0 21 (o7 20),o0 22 (.bin .sub (.t 21) (o5 1)),o4 23 1,o0 24 (.mklit 1 [.t 23]),o0 25 (oK 317 [(o5 0),(.t 22),(.t 24)]),o4 19 25]
 (.cond (.t 19) (oN [o0 4 (.mov (.c (.lit [] true none))),o0 5 (oA 4)]
 oL)
 .skip)))))
 (oN [o0 26 (oB 4 2),o4 27 1,o0 28 (oK 318 [(.t 26),(.t 27),(.c (.int .i64 (-1)))]),o4 4 28,o0 5 (oA 0)]
 oL)))⟩
def LE:ACode:=.block 1 (oN [o0 31 (o7 3),o0 32 (.iaddr (some 3) 1 (.t 11) (.t 31)),o0 33 (o7 32),o4 12 33]
 (.block 2 (oN [o4 44 12,o0 45 (oG false (.t 44) (.c (.int .i64 (-1)))),o4 43 45]
 (.cond (.t 43) (.reg [o1 (.store 1 (.t 9) (.c (.bool true)))])
 (oN [o0 47 (o7 8),o0 48 (.not (.t 47)),o4 46 48]
 (.cond (.t 46) (.reg [o4 49 12,o4 50 12,o0 51 (.build [.int .i64 0,.int .i64 0] [(0,1,(.t 49)),(1,1,(.t 50))]),o1 (.store 2 (.t 4) (.t 51)),o1 (.store 1 (.t 8) (.c (.bool true)))])
 (.reg [o0 34 (o8 4 0),o0 35 (o7 34),o4 36 12,o0 37 (.min [.t 35,.t 36]),o0 38 (o8 4 1),o0 39 (o7 38),o4 40 12,o0 41 (.max [.t 39,.t 40]),o0 42 (.build [.int .i64 0,.int .i64 0] [(0,1,(.t 37)),(1,1,(.t 41))]),o1 (.store 2 (.t 4) (.t 42))])))))))
def aAH:AFunc:=⟨61,[.cell 4 (some 2),.tmp 5,.tmp 6],
 oN [o0 2 (.box 4 (.t 0)),o0 3 (.box 1 (.t 1)),o0 4 (.alloc [.int .i64 0,.int .i64 0]),o0 5 (oA 0),o0 6 (oA 0)]
 (oN [o0 14 (oB 4 2),o0 15 (o7 3),o0 16 (o8 2 2),o0 17 (o7 16),o0 18 (oF 17),o0 19 (.mklit 1 [.t 15,.t 18]),o0 20 (oK 319 [.t 14,.t 19]),o4 13 20,o0 21 (oD 13 0),o0 22 (oD 13 1),o4 7 21,o4 6 22]
 (.seq (oN [o4 23 6,o0 24 (oG true (.t 23) (o5 0))]
 (.cond (.t 24) (oN [o0 25 (oB 2 4),o4 26 6,o1 (.store 2 (.t 4) (.t 25)),o0 5 (oA 0),o4 6 26]
 oL)
 .skip))
 (oN [o0 8 (.alloc [.bool false]),o0 9 (.alloc [.bool false]),o1 (.store 1 (.t 8) (.c (.bool false))),o1 (.store 1 (.t 9) (.c (.bool false)))]
 (.seq (oN [o4 27 7,o0 28 (oK 320 [.t 27])]
 (.block 0 (.rangeFunc (.t 28) [29,30] (.reg [o0 11 (.alloc [.int .i64 0,.int .i64 0,.int .i64 0]),o1 (.store 3 (.t 11) (.t 30))])
 (LE))))
 (.seq (.block 3 (oN [o0 53 (o7 9),o0 54 (.not (.t 53)),o4 52 54]
 (.cond (.t 52) (oN [o0 55 (oB 2 4),o1 (.store 2 (.t 4) (.t 55)),o0 5 (oA 1),o0 6 (oA 0)]
 oL)
 (oN [o0 57 (o7 8),o0 58 (.not (.t 57)),o4 56 58]
 (.cond (.t 56) (oN [o0 59 (oB 2 4),o1 (.store 2 (.t 4) (.t 59)),o0 5 (oA 2),o0 6 (oA 0)]
 oL)
 .skip)))))
 (oN [o0 60 (oB 2 4),o1 (.store 2 (.t 4) (.t 60)),o0 5 (oA 0),o0 6 (oA 0)]
 oL))))))⟩
def WX:AFunc:=⟨31,[.tmp 2,.tmp 3,.tmp 4],
 oN [o0 1 (.box 4 (.t 0)),o0 2 (.mov (.c (.lit [] true none))),o0 3 (.mov (.c (.lit [] true none))),o0 4 (oA 0)]
 (.seq (.reg [o0 9 (oB 4 1),o0 10 (oK 319 [(.t 9),(.c (.lit [] true none))]),o4 8 10,o0 11 (oD 8 0),o0 12 (oD 8 1),o4 5 11,o4 4 12])
 (.seq (oN [o4 13 4,o0 14 (oG true (.t 13) (o5 0))]
 (.cond (.t 14) (oN [o4 15 4,o0 2 (.mov (.c (.lit [] true none))),o0 3 (.mov (.c (.lit [] true none))),o4 4 15]
 oL)
 .skip))
 (oN [o4 17 5,o0 18 (oK 321 [.t 17]),o4 16 18,o0 19 (oD 16 0),o0 20 (oD 16 1),o4 6 19,o4 7 20]
 (.seq (.dreg [o3 21 (o9 6) 0 0,o3 22 (o8 1 2) 0 0,o3 23 (o7 22) 0 0,o3 24 (oF 23) 0 0,o3 25 (oK 322 [.t 21,.t 24]) 0 1,o3 26 (o9 7) 0 1,o3 27 (o8 1 2) 0 1,o3 28 (o7 27) 0 1,o3 29 (oF 28) 0 1,o3 30 (oK 322 [.t 26,.t 29]) 1 2,o3 2 (o9 25) 2 2,o3 3 (o9 30) 2 2,o3 4 (oA 0) 2 2])
 oL))))⟩
def W0:ACode:=oN [o0 31 (oH 30 29)]
 (.seq (.cond (.t 31) .skip
 (oM 0))
 (.seq (.block 1 (oN [o0 32 (oC 1 28 30),o0 33 (o7 32),o4 10 33]
 (.seq (.dreg [o3 34 (o9 8) 0 0,o3 35 (.bin .lss (.t 34) (o5 0)) 0 0,o3 36 (o9 35) 0 0,⟨o2 37 (o8 1 2) 36 false,0,0⟩,⟨o2 38 (o7 37) 36 false,0,0⟩,⟨o2 39 (o9 10) 36 false,0,0⟩,⟨o2 40 (oC 5 38 39) 36 false,0,0⟩,⟨o2 41 (o8 40 3) 36 false,0,0⟩,⟨o2 42 (o7 41) 36 false,0,0⟩,⟨o2 43 (o8 1 2) 36 false,0,0⟩,⟨o2 44 (o7 43) 36 false,0,0⟩,⟨o2 45 (o9 8) 36 false,0,0⟩,⟨o2 46 (oC 5 44 45) 36 false,0,0⟩,⟨o2 47 (o8 46 3) 36 false,0,0⟩,⟨o2 48 (o7 47) 36 false,0,0⟩,⟨o2 49 (oH 42 48) 36 false,0,0⟩,o3 50 (.pick (.t 36) (.c (.bool true)) (.t 49)) 0 0])
 (.cond (.t 50) (.reg [o4 51 10,o4 8 51])
 .skip))))
 (.reg [o0 52 (oI 30 1),o4 30 52])))
def WW:AFunc:=⟨56,[.tmp 2,.tmp 3],
 oN [o0 1 (.box 4 (.t 0)),o0 2 (oA 0),o0 3 (oA 0)]
 (.seq (.reg [o0 12 (oB 4 1),o0 13 (oK 319 [(.t 12),(.c (.lit [] true none))]),o4 11 13,o0 14 (oD 11 0),o0 15 (oD 11 1),o4 4 14,o4 5 15])
 (.seq (oN [o4 16 5,o0 17 (oG true (.t 16) (o5 0))]
 (.cond (.t 17) (oN [o4 18 5,o0 2 (oA 0),o4 3 18]
 oL)
 .skip))
 (oN [o4 20 4,o0 21 (oK 321 [.t 20]),o4 19 21,o0 22 (oD 19 0),o0 23 (oD 19 1),o4 6 22,o4 7 23]
 (oN [o0 8 (.mov (.c (.int .i64 (-1))))]
 (.seq (oN [o4 24 7,o0 25 (o8 1 2),o0 26 (o7 25),o0 27 (oF 26),o0 28 (oK 322 [.t 24,.t 27]),o0 29 (oF 28),o0 30 (oA 0)]
 (.block 0 (.loop W0)))
 (.seq (oN [o4 53 8,o0 54 (.bin .lss (.t 53) (o5 0))]
 (.cond (.t 54) (oN [o0 2 (oA 0),o0 3 (oA 9)]
 oL)
 .skip))
 (oN [o4 55 8,o4 2 55,o0 3 (oA 0)]
 oL)))))))⟩
def aB3:ACode:=oN [o0 30 (oH 29 28)]
 (.seq (.cond (.t 30) .skip
 (oM 0))
 (.seq (.block 1 (.seq (.reg [o4 31 29,o0 32 (oC 5 27 29),o0 33 (oB 5 32),⟨some 8,.alloc [.str ⟨#[]⟩,.int .i64 0,.int .i64 0,.int .i64 0,.lit [] true none],none⟩,o4 7 31,o1 (.store 5 (.t 8) (.t 33))])
 (.dreg [o3 34 (o7 6) 0 1,o3 35 (o9 7) 0 1,o3 36 (oB 4 1) 0 0,o3 37 (o8 8 1) 0 0,o3 38 (o7 37) 0 0,o3 39 (oK 318 [(.t 36),(.t 38),(.c (.int .i64 (-1)))]) 0 1,o3 40 (oC 1 34 35) 1 1,⟨o1 (.store 1 (.t 40) (.t 39)),1,2⟩])))
 (.reg [o0 41 (oI 29 1),o4 29 41])))
def YS:ACode:=oN [o0 60 (oH 59 58)]
 (.seq (.cond (.t 60) .skip
 (oM 4))
 (.seq (.block 5 (oN [o4 61 59,o0 62 (oC 1 57 59),o0 63 (o7 62),o4 12 61,o4 13 63]
 (oN [o4 64 13,o0 65 (o8 1 2),o0 66 (o7 65),o4 67 12,o0 68 (oC 5 66 67),o0 69 (o8 68 4),o0 70 (o7 69),o0 71 (oK 325 [.t 64,.t 70]),o0 72 (.not (.t 71))]
 (.cond (.t 72) (.reg [o4 73 3,o4 74 12,o0 75 (.mklit 1 [.t 74]),o0 76 (.append 1 8 (.t 73) (.t 75)),o4 3 76])
 .skip))))
 (.reg [o0 77 (oI 59 1),o4 59 77])))
def Q8:ACode:=oN [o0 51 (oH 50 49)]
 (.seq (.cond (.t 51) .skip
 (oM 2))
 (.seq (.block 3 (oN [o4 52 50,o4 11 52]
 (.seq (oN [o0 53 (o7 10),o4 54 11,o0 55 (.call (.t 53) [(o5 0),(.t 54)]),o0 56 (.not (.t 55))]
 (.cond (.t 56) (oM 3)
 .skip))
 (.seq (oN [o0 57 (o7 9),o0 58 (oF 57),o0 59 (oA 0)]
 (.block 4 (.loop YS)))
 (oN [o0 78 (o7 9),o4 79 3,o4 2 78,o4 3 79,o0 4 (oA 0)]
 oL)))))
 (.reg [o0 80 (oI 50 1),o4 50 80])))
def X6:AFunc:=⟨81,[.tmp 2,.tmp 3,.tmp 4],
 oN [o0 1 (.box 4 (.t 0)),o0 2 (.mov (.c (.lit [] true none))),o0 3 (.mov (.c (.lit [] true none))),o0 4 (oA 0)]
 (.seq (.reg [o0 15 (oB 4 1),o0 16 (oK 319 [(.t 15),(.c (.lit [] true none))]),o4 14 16,o0 17 (oD 14 0),o0 18 (oD 14 1),o0 5 (.alloc [.nilPtr]),o1 (.store 1 (.t 5) (.t 17)),o4 4 18])
 (.seq (oN [o4 19 4,o0 20 (oG true (.t 19) (o5 0))]
 (.cond (.t 20) (oN [o4 21 4,o0 2 (.mov (.c (.lit [] true none))),o0 3 (.mov (.c (.lit [] true none))),o4 4 21]
 oL)
 .skip))
 (.seq (.reg [o0 22 (o8 1 2),o0 23 (o7 22),o0 24 (oF 23),o0 25 (.mkslice [.lit [] true none] 24 (.t 24) (.t 24)),o0 6 (.alloc [.lit [] true none]),o1 (.store 1 (.t 6) (.t 25))])
 (.seq (oN [o0 26 (o8 1 2),o0 27 (o7 26),o0 28 (oF 27),o0 29 (oA 0)]
 (.block 0 (.loop aB3)))
 (.seq (.reg [o0 42 (o8 1 2),o0 43 (o7 42),o0 44 (oF 43),o0 45 (.mkslice [.lit [] true none] 24 (.t 44) (.t 44)),o0 9 (.alloc [.lit [] true none]),o1 (.store 1 (.t 9) (.t 45))])
 (oN [o0 10 (.alloc [.nilFunc])]
 (oN [o0 46 (.mkfun 323 [] [.t 9,.t 5,.t 6,.t 1,.t 10]),o1 (.store 1 (.t 10) (.t 46))]
 (.seq (oN [o0 47 (o7 9),o0 48 (oF 47),o0 49 (oI 48 1),o0 50 (oA 0)]
 (.block 2 (.loop Q8)))
 (oN [o0 2 (.mov (.c (.lit [] true none))),o0 3 (.mov (.c (.lit [] true none))),o0 4 (oA 9)]
 oL)))))))))⟩
def aAD:ACode:=oN [o0 31 (oH 30 29)]
 (.seq (.cond (.t 31) .skip
 (oM 2))
 (.seq (.block 3 (oN [o4 32 30,o4 9 32]
 (oN [o4 33 9,o0 34 (.iaddr (some 5) 1 (.t 8) (.t 33)),o0 35 (o7 34),o0 36 (oG false (.t 35) (o5 0))]
 (.cond (.t 36) (.dreg [o3 37 (o7 7) 0 0,o3 38 (o9 9) 0 0,o3 39 (.bin .shl (o5 1) (.t 38)) 0 0,o3 40 (.bin .or (.t 37) (.t 39)) 0 0,⟨o1 (.store 1 (.t 7) (.t 40)),0,1⟩])
 (.dreg [o3 41 (o7 6) 0 0,o3 42 (o9 9) 0 0,o3 43 (.bin .shl (o5 1) (.t 42)) 0 0,o3 44 (.bin .andNot (.t 41) (.t 43)) 0 0,⟨o1 (.store 1 (.t 6) (.t 44)),0,1⟩])))))
 (.reg [o0 45 (oI 30 1),o4 30 45])))
def Q3:ACode:=.block 1 (oN [o0 27 (o8 1 1),o0 28 (o7 27),o0 29 (oF 28),o0 30 (oA 0)]
 (.block 2 (.loop aAD)))
def aA3:AFunc:=⟨56,[.tmp 2,.tmp 3,.tmp 4],
 oN [o0 1 (.box 4 (.t 0)),o0 2 (.mov (.c (.lit [] true none))),o0 3 (.mov (.c (.lit [] true none))),o0 4 (oA 0)]
 (.seq (.reg [o0 11 (oB 4 1),o0 12 (oK 319 [(.t 11),(.c (.lit [] true none))]),o4 10 12,o0 13 (oD 10 0),o0 14 (oD 10 1),o4 5 13,o4 4 14])
 (.seq (oN [o4 15 4,o0 16 (oG true (.t 15) (o5 0))]
 (.cond (.t 16) (oN [o4 17 4,o0 2 (.mov (.c (.lit [] true none))),o0 3 (.mov (.c (.lit [] true none))),o4 4 17]
 oL)
 .skip))
 (oN [o0 18 (o8 1 1),o0 19 (o7 18),o0 20 (oF 19),o0 21 (.bin .shl (o5 1) (.t 20)),o0 22 (.bin .sub (.t 21) (o5 1)),o0 6 (.alloc [.int .i64 0]),o0 7 (.alloc [.int .i64 0]),o1 (.store 1 (.t 6) (.t 22)),o1 (.store 1 (.t 7) (o5 0))]
 (.seq (oN [o4 23 5,o0 24 (oK 320 [.t 23])]
 (.block 0 (.rangeFunc (.t 24) [25,26] (.reg [o0 8 (.alloc [.int .i64 0,.int .i64 0,.int .i64 0,.int .i64 0,.int .i64 0]),o1 (.store 5 (.t 8) (.t 25))])
 (Q3))))
 (.seq (.dreg [o3 46 (o7 6) 0 0,o3 47 (o8 1 1) 0 0,o3 48 (o7 47) 0 0,o3 49 (oF 48) 0 0,o3 50 (oK 322 [.t 46,.t 49]) 0 1,o3 51 (o7 7) 0 1,o3 52 (o8 1 1) 0 1,o3 53 (o7 52) 0 1,o3 54 (oF 53) 0 1,o3 55 (oK 322 [.t 51,.t 54]) 1 2,o3 2 (o9 50) 2 2,o3 3 (o9 55) 2 2,o3 4 (oA 0) 2 2])
 oL)))))⟩
def XD:ACode:=oN [o0 34 (oH 33 32)]
 (.seq (.cond (.t 34) .skip
 (oM 2))
 (.seq (.block 3 (.seq (.reg [o0 35 (oC 5 31 33),o0 36 (oB 5 35),⟨some 9,.alloc [.str ⟨#[]⟩,.int .i64 0,.int .i64 0,.int .i64 0,.lit [] true none],none⟩,o1 (.store 5 (.t 9) (.t 36))])
 (oN [o0 37 (oB 4 1),o0 38 (o8 9 1),o0 39 (o7 38),o4 40 5,o0 41 (oK 318 [.t 37,.t 39,.t 40]),o0 42 (oF 41),o0 43 (oG false (.t 42) (o5 0))]
 (.cond (.t 43) (.reg [o4 44 7,o0 45 (oI 44 1),o4 7 45])
 .skip))))
 (.reg [o0 46 (oI 33 1),o4 33 46])))
def XN:ACode:=oN [o0 23 (oH 22 21)]
 (.seq (.cond (.t 23) .skip
 (oM 0))
 (.seq (.block 1 (oN [o4 24 22,o0 25 (oC 5 20 22),o0 26 (oB 5 25),o0 6 (.alloc [.int .i64 0,.int .i64 0,.int .i64 0,.int .i64 0,.int .i64 0]),o4 5 24,o1 (.store 5 (.t 6) (.t 26))]
 (.seq (oN [o0 27 (o8 6 4),o0 28 (o7 27),o0 29 (oG false (.t 28) (o5 1))]
 (.cond (.t 29) (oM 1)
 .skip))
 (oN [o0 7 (oA 0)]
 (.seq (oN [o0 30 (o8 1 2),o0 31 (o7 30),o0 32 (oF 31),o0 33 (oA 0)]
 (.block 2 (.loop XD)))
 (oN [o4 47 2,o0 48 (.bin .lss (.t 47) (o5 0)),o4 49 48,o2 50 (o9 7) 49 false,o2 51 (o9 3) 49 false,o2 52 (.bin .gtr (.t 50) (.t 51)) 49 false,o0 53 (.pick (.t 49) (.c (.bool true)) (.t 52))]
 (.cond (.t 53) (.reg [o4 54 5,o4 55 7,o4 2 54,o4 3 55])
 .skip)))))))
 (.reg [o0 56 (oI 22 1),o4 22 56])))
def aA6:AFunc:=⟨61,[.tmp 2,.tmp 3,.tmp 4],
 oN [o0 1 (.box 4 (.t 0)),o0 2 (oA 0),o0 3 (oA 0),o0 4 (oA 0)]
 (.seq (oN [o0 11 (oB 4 1),o0 12 (oK 316 [.t 11]),o4 10 12,o0 13 (oD 10 0),o0 14 (oD 10 1),o0 15 (oD 10 2),o4 4 15]
 (oN [o4 16 4,o0 17 (oG true (.t 16) (o5 0))]
 (.cond (.t 17) (oN [o4 18 4,o0 2 (oA 0),o0 3 (oA 0),o4 4 18]
 oL)
 .skip)))
 (oN [o0 2 (.mov (.c (.int .i64 (-1))))]
 (.seq (oN [o0 19 (o8 1 1),o0 20 (o7 19),o0 21 (oF 20),o0 22 (oA 0)]
 (.block 0 (.loop XN)))
 (.seq (oN [o4 57 2,o0 58 (.bin .lss (.t 57) (o5 0))]
 (.cond (.t 58) (oN [o0 2 (oA 0),o0 3 (oA 0),o0 4 (oA 9)]
 oL)
 .skip))
 (oN [o4 59 2,o4 60 3,o4 2 59,o4 3 60,o0 4 (oA 0)]
 oL)))))⟩
def aCE:ACode:=oN [o0 21 (oH 20 19)]
 (.seq (.cond (.t 21) .skip
 (oM 0))
 (.seq (.block 1 (oN [o4 22 20,o4 5 22]
 (oN [o4 23 5,o0 24 (o8 1 3),o0 25 (o7 24),o0 26 (oF 25),o0 27 (oK 322 [.t 23,.t 26]),o4 6 27]
 (.seq (oN [o4 28 4,o4 29 28,o2 30 (o9 6) 29 true,o2 31 (oF 30) 29 true,o2 32 (o9 2) 29 true,o2 33 (oF 32) 29 true,o2 34 (.bin .gtr (.t 31) (.t 33)) 29 true,o2 35 (o9 34) 29 true,o2 36 (o9 6) 35 false,o2 37 (oF 36) 35 false,o2 38 (o9 2) 35 false,o2 39 (oF 38) 35 false,o2 40 (oG false (.t 37) (.t 39)) 35 false,o2 41 (o9 40) 35 false,o2 42 (o9 6) 41 true,o2 43 (o9 2) 41 true,o2 44 (oK 118 [.t 42,.t 43]) 41 true,o2 45 (.bin .gtr (.t 44) (o5 0)) 41 true,o2 46 (.pick (.t 41) (.t 45) (.c (.bool false))) 35 false,o2 47 (.pick (.t 35) (.c (.bool true)) (.t 46)) 29 true,o0 48 (.pick (.t 29) (.t 47) (.c (.bool false)))]
 (.cond (.t 48) (oM 1)
 .skip))
 (oN [o0 49 (oB 4 1),o4 50 5,o0 51 (oK 326 [.t 49,.t 50]),o0 52 (oK 327 [.t 51])]
 (.cond (.t 52) (.reg [o4 53 6,o4 2 53,o0 4 (.mov (.c (.bool true)))])
 .skip))))))
 (.reg [o0 54 (oI 20 1),o4 20 54])))
def YQ:AFunc:=⟨56,[.tmp 2,.tmp 3],
 oN [o0 1 (.box 4 (.t 0)),o0 2 (.mov (.c (.lit [] true none))),o0 3 (oA 0)]
 (.seq (oN [o0 8 (oB 4 1),o0 9 (oK 316 [.t 8]),o4 7 9,o0 10 (oD 7 0),o0 11 (oD 7 1),o0 12 (oD 7 2),o4 3 12]
 (oN [o4 13 3,o0 14 (oG true (.t 13) (o5 0))]
 (.cond (.t 14) (oN [o4 15 3,o0 2 (.mov (.c (.lit [] true none))),o4 3 15]
 oL)
 .skip)))
 (oN [o0 4 (.mov (.c (.bool false)))]
 (.seq (oN [o0 16 (o8 1 3),o0 17 (o7 16),o0 18 (oF 17),o0 19 (.bin .shl (o5 1) (.t 18)),o0 20 (oA 0)]
 (.block 0 (.loop aCE)))
 (oN [o4 55 2,o4 2 55,o0 3 (oA 0)]
 oL))))⟩
def aEE:ACode:=.seq (oN [o4 12 5,o4 13 12,o2 14 (o9 6) 13 true,o2 15 (o9 0) 13 true,o2 16 (oF 15) 13 true,o2 17 (oH 14 16) 13 true,o0 18 (.pick (.t 13) (.t 17) (.c (.bool false)))]
 (.cond (.t 18) .skip
 (oM 0)))
 (.seq (.block 1 (.dreg [o3 21 (o9 0) 0 0,o3 22 (o9 6) 0 0,o3 23 (oC 1 21 22) 0 0,o3 24 (o7 23) 0 0,o3 25 (o9 1) 0 0,o3 26 (o9 6) 0 0,o3 27 (oC 1 25 26) 0 0,o3 28 (o7 27) 0 0,o3 29 (oK 44 [.t 24,.t 28]) 0 1,o3 5 (o9 29) 1 1]))
 (.reg [o4 19 6,o0 20 (oI 19 1),o4 6 20]))
def aDJ:AFunc:=⟨31,[.tmp 4],
 oN [o0 4 (.mov (.c (.bool false)))]
 (oN [o4 7 0,o0 8 (oF 7),o4 9 1,o0 10 (oF 9),o0 11 (oG false (.t 8) (.t 10)),o4 5 11]
 (.seq (oN [o0 6 (oA 0)]
 (.block 0 (.loop aEE)))
 (oN [o4 30 5,o4 4 30]
 oL)))⟩
def aCU:AFunc:=⟨8,[.cell 4 (some 2)],
 oN [o0 4 (.alloc [.int .i64 0,.int .i64 0])]
 (oN [o4 5 0,o4 6 1,o0 7 (.build [.int .i64 0,.int .i64 0] [(0,1,(.t 5)),(1,1,(.t 6))]),o1 (.store 2 (.t 4) (.t 7))]
 oL)⟩
def YZ:ACode:=.seq (oN [o4 42 9,o0 43 (.bin .lss (.t 42) (o5 2))]
 (.cond (.t 43) .skip
 (oM 6)))
 (.seq (.block 7 (oN [o4 46 9,o0 47 (oG false (.t 46) (o5 1)),o4 10 47]
 (.seq (oN [o4 48 10,o4 49 48,o2 50 (o8 5 4) 49 true,o2 51 (o7 50) 49 true,o2 52 (oG false (.t 51) (o5 0)) 49 true,o0 53 (.pick (.t 49) (.t 52) (.c (.bool false))),o4 54 53,o2 55 (o9 10) 54 false,o2 56 (.not (.t 55)) 54 false,o2 57 (o9 56) 54 false,o2 58 (o8 5 4) 57 true,o2 59 (o7 58) 57 true,o2 60 (oG false (.t 59) (o5 1)) 57 true,o2 61 (.pick (.t 57) (.t 60) (.c (.bool false))) 54 false,o0 62 (.pick (.t 54) (.c (.bool true)) (.t 61))]
 (.cond (.t 62) (oM 7)
 .skip))
 (.seq (.dreg [o3 63 (.mklit 1 []) 0 0,o3 64 (o9 3) 0 0,o3 65 (o9 7) 0 0,o3 66 (oC 2 64 65) 0 0,o3 67 (o8 66 0) 0 0,o3 68 (o7 67) 0 0,o3 69 (.append 1 1 (.t 63) (.t 68)) 0 1,o3 70 (o9 10) 0 1,o3 71 (.mklit 1 [.t 70]) 0 1,o3 72 (.append 1 1 (.t 69) (.t 71)) 1 2,o3 73 (.mklit 1 []) 0 2,o3 74 (o9 3) 0 2,o3 75 (o9 7) 0 2,o3 76 (oC 2 74 75) 0 2,o3 77 (o8 76 1) 0 2,o3 78 (o7 77) 0 2,o3 79 (.append 1 8 (.t 73) (.t 78)) 2 3,o3 80 (o9 8) 0 3,o3 81 (.mklit 1 [.t 80]) 0 3,o3 82 (.append 1 8 (.t 79) (.t 81)) 3 4,o3 83 (.build [.lit [] true none,.lit [] true none] [(0,1,(.t 72)),(1,1,(.t 82))]) 4 4,o3 11 (.alloc [.lit [] true none,.lit [] true none]) 0 4,⟨o1 (.store 2 (.t 11) (.t 83)),4,5⟩])
 (.reg [o4 84 6,o0 85 (oB 2 11),o0 86 (.mklit 2 [.t 85]),o0 87 (.append 2 48 (.t 84) (.t 86)),o4 6 87])))))
 (.reg [o4 44 9,o0 45 (oI 44 1),o4 9 45]))
def Z7:ACode:=.seq (oN [o4 35 8,o0 36 (o8 5 2),o0 37 (o8 36 1),o0 38 (o7 37),o0 39 (.bin .leq (.t 35) (.t 38))]
 (.cond (.t 39) .skip
 (oM 4)))
 (.seq (.block 5 (oN [o0 9 (oA 0)]
 (.block 6 (.loop YZ))))
 (.reg [o4 40 8,o0 41 (oI 40 1),o4 8 41]))
def ZZ:ACode:=.seq (oN [o4 26 7,o4 27 3,o0 28 (oF 27),o0 29 (oH 26 28)]
 (.cond (.t 29) .skip
 (oM 2)))
 (.seq (.block 3 (oN [o0 32 (o8 5 2),o0 33 (o8 32 0),o0 34 (o7 33),o4 8 34]
 (.block 4 (.loop Z7))))
 (.reg [o4 30 7,o0 31 (oI 30 1),o4 7 31]))
def aA0:ACode:=.seq (oN [o4 14 4,o0 15 (o8 1 1),o0 16 (o7 15),o0 17 (oF 16),o0 18 (oH 14 17)]
 (.cond (.t 18) .skip
 (oM 0)))
 (.seq (.block 1 (oN [o0 21 (o8 1 1),o0 22 (o7 21),o4 23 4,o0 24 (oC 5 22 23),o0 25 (oB 5 24),o0 5 (.alloc [.int .i64 0,.int .i64 0,.int .i64 0,.int .i64 0,.int .i64 0]),o1 (.store 5 (.t 5) (.t 25))]
 (oN [o0 6 (.mov (.c (.lit [] true none)))]
 (.seq (oN [o0 7 (oA 0)]
 (.block 2 (.loop ZZ)))
 (.reg [o4 88 6,o4 3 88])))))
 (.reg [o4 19 4,o0 20 (oI 19 1),o4 4 20]))
def X7:AFunc:=⟨90,[.tmp 2],
 oN [o0 1 (.box 4 (.t 0)),o0 2 (.mov (.c (.lit [] true none)))]
 (.seq (.reg [o0 12 (.build [.lit [] true none,.lit [] true none] []),o0 13 (.mklit 2 [.t 12]),o4 3 13])
 (.seq (oN [o0 4 (oA 0)]
 (.block 0 (.loop aA0)))
 (oN [o4 89 3,o4 2 89]
 oL)))⟩
def aDI:ACode:=.seq (oN [o4 13 10,o4 14 0,o0 15 (oF 14),o0 16 (oH 13 15)]
 (.cond (.t 16) .skip
 (oM 2)))
 (.seq (.block 3 (oN [o4 19 0,o4 20 10,o0 21 (oC 4 19 20),o0 22 (oB 4 21),o0 11 (.alloc [.int .i64 0,.int .i64 0,.int .i64 0,.int .i64 0]),o1 (.store 4 (.t 11) (.t 22))]
 (oN [o0 23 (o8 11 1),o0 24 (o7 23),o4 25 1,o0 26 (oG false (.t 24) (.t 25)),o4 27 26,o2 28 (o8 11 2) 27 true,o2 29 (o7 28) 27 true,o2 30 (o9 2) 27 true,o2 31 (o9 3) 27 true,o2 32 (.bin .add (.t 30) (.t 31)) 27 true,o2 33 (oH 29 32) 27 true,o0 34 (.pick (.t 27) (.t 33) (.c (.bool false))),o4 35 34,o2 36 (o8 11 3) 35 true,o2 37 (o7 36) 35 true,o2 38 (o9 2) 35 true,o2 39 (.bin .gtr (.t 37) (.t 38)) 35 true,o0 40 (.pick (.t 35) (.t 39) (.c (.bool false)))]
 (.cond (.t 40) (.reg [o4 41 9,o0 42 (o8 11 3),o0 43 (o7 42),o0 44 (.max [.t 41,.t 43]),o4 9 44])
 .skip))))
 (.reg [o4 17 10,o0 18 (oI 17 1),o4 10 18]))
def aBQ:ACode:=.block 1 (oN [o4 12 2,o4 9 12]
 (.seq (oN [o0 10 (oA 0)]
 (.block 2 (.loop aDI)))
 (.seq (oN [o4 45 9,o4 46 2,o0 47 (oG false (.t 45) (.t 46))]
 (.cond (.t 47) (oN [o4 48 2,o4 8 48]
 oL)
 .skip))
 (.reg [o4 49 9,o4 2 49]))))
def aBT:AFunc:=⟨50,[.tmp 8],
 oN [o0 8 (oA 0)]
 (.block 0 (.loop aBQ))⟩
def aDD:ACode:=oN [o0 23 (oH 22 21)]
 (.seq (.cond (.t 23) .skip
 (oM 0))
 (.seq (.block 1 (oN [o0 24 (oC 1 20 22),o0 25 (oB 1 24),o0 10 (.alloc [.nilFunc]),o1 (.store 1 (.t 10) (.t 25))]
 (oN [o0 26 (o8 10 0),o0 27 (o7 26),o4 28 0,o0 29 (oB 2 7),o0 30 (.call (.t 27) [.t 28,.t 29])]
 (.block 2 (oN [o0 32 (oG false (.t 30) (o5 2)),o4 31 32]
 (.cond (.t 31) (oN [o0 6 (oA 2)]
 oL)
 (oN [o0 34 (oG false (.t 30) (o5 0)),o4 33 34]
 (.cond (.t 33) (.reg [o0 8 (.mov (.c (.bool false)))])
 .skip))))))))
 (.reg [o0 35 (oI 22 1),o4 22 35])))
def aA1:ACode:=oN [o0 59 (oH 58 57)]
 (.seq (.cond (.t 59) .skip
 (oM 5))
 (.seq (.block 6 (oN [o0 60 (oC 1 56 58),o0 61 (o7 60),o4 14 61]
 (oN [o4 62 0,o0 63 (oB 7 11),o4 64 14,o4 65 2,o0 66 (oK 234 [.t 62,.t 63,.t 64,.t 65]),o4 15 66]
 (.seq (.dreg [o3 67 (o9 15) 0 0,o3 68 (o9 0) 0 0,o3 69 (.nilCheck (.t 68)) 0 0,o3 70 (o8 69 0) 0 0,o3 71 (o8 70 1) 0 0,o3 72 (o7 71) 0 0,o3 73 (.bin .geq (.t 67) (.t 72)) 0 0,o3 74 (o9 73) 0 0,⟨o2 75 (o9 15) 74 true,0,0⟩,⟨o2 76 (o9 0) 74 true,0,0⟩,⟨o2 77 (.nilCheck (.t 76)) 74 true,0,0⟩,⟨o2 78 (o8 77 0) 74 true,0,0⟩,⟨o2 79 (o8 78 3) 74 true,0,0⟩,⟨o2 80 (o8 79 0) 74 true,0,0⟩,⟨o2 81 (o7 80) 74 true,0,0⟩,⟨o2 82 (.bin .add (.t 75) (.t 81)) 74 true,0,0⟩,⟨o2 83 (o9 0) 74 true,0,0⟩,⟨o2 84 (.nilCheck (.t 83)) 74 true,0,0⟩,⟨o2 85 (o8 84 0) 74 true,0,0⟩,⟨o2 86 (o8 85 2) 74 true,0,0⟩,⟨o2 87 (o7 86) 74 true,0,0⟩,⟨o2 88 (.bin .leq (.t 82) (.t 87)) 74 true,0,0⟩,o3 89 (.pick (.t 74) (.t 88) (.c (.bool false))) 0 0])
 (.cond (.t 89) (oN [o0 6 (oA 0)]
 oL)
 .skip)))))
 (.reg [o0 90 (oI 58 1),o4 58 90])))
def aKM:ACode:=oN [o0 42 (.mnext (.t 41)),o0 43 (oD 42 0)]
 (.seq (.cond (.t 43) .skip
 (oM 3))
 (.block 4 (oN [o0 44 (.entry (.t 41)),o0 45 (oD 44 0),o0 46 (oD 44 1),o0 11 (.alloc [.int .i64 0,.int .i64 0,.int .i64 0,.int .i64 0,.int .i64 0,.int .i64 0,.int .i64 0]),o0 12 (.alloc [.int .i64 0,.int .i64 0,.int .i64 0,.int .i64 0]),o1 (.store 7 (.t 11) (.t 45)),o1 (.store 4 (.t 12) (.t 46))]
 (.seq (.dreg [o3 47 (o9 1) 0 0,o3 48 (.iaddr (some 4) 1 (.t 12) (.t 47)) 0 0,o3 49 (o7 48) 0 0,o3 50 (o9 0) 0 0,o3 51 (.nilCheck (.t 50)) 0 0,o3 52 (o8 51 0) 0 0,o3 53 (o8 52 0) 0 0,o3 54 (o7 53) 0 0,o3 55 (oF 54) 0 0,o3 56 (oK 117 [.t 49,.t 55]) 0 1,o3 57 (oF 56) 1 1,o3 58 (oA 0) 0 1])
 (.block 5 (.loop aA1))))))
def aDM:AFunc:=⟨91,[.tmp 6],
 oN [o0 6 (oA 0)]
 (oN [o4 16 0,o4 17 1,o4 18 2,o0 19 (oK 94 [.t 16,.t 17,.t 18]),o0 7 (.alloc [.int .i64 0,.int .i64 0]),o1 (.store 2 (.t 7) (.t 19)),o0 8 (.mov (.c (.bool true)))]
 (.seq (oN [o0 20 (oK 331 []),o0 21 (oF 20),o0 22 (oA 0)]
 (.block 0 (.loop aDD)))
 (.seq (oN [o4 36 8]
 (.cond (.t 36) (oN [o0 6 (oA 1)]
 oL)
 .skip))
 (.seq (oN [o4 37 0,o0 38 (.nilCheck (.t 37)),o0 39 (o8 38 8),o0 40 (o7 39),o0 41 (.mrange (.t 40))]
 (.block 3 (.loop aKM)))
 (oN [o0 6 (oA 2)]
 oL)))))⟩
def ZK:ACode:=.seq (oN [o4 6 5,o4 7 0,o0 8 (oF 7),o0 9 (oH 6 8),o4 10 9,o2 11 (o9 0) 10 true,o2 12 (o9 5) 10 true,o2 13 (oC 1 11 12) 10 true,o2 14 (o7 13) 10 true,o2 15 (o9 1) 10 true,o2 16 (.eql (.one .s) true (.t 14) (.t 15)) 10 true,o0 17 (.pick (.t 10) (.t 16) (.c (.bool false)))]
 (.cond (.t 17) .skip
 (oM 0)))
 (.block 1 (.reg [o4 18 5,o0 19 (oI 18 1),o4 5 19]))
def WY:AFunc:=⟨25,[.tmp 4],
 oN [o0 4 (oA 0)]
 (oN [o0 5 (oA 0)]
 (.seq (.block 0 (.loop ZK))
 (.seq (oN [o4 20 5,o4 21 0,o0 22 (oF 21),o0 23 (oG false (.t 20) (.t 22))]
 (.cond (.t 23) (oN [o0 4 (.mov (.c (.int .i64 (-1))))]
 oL)
 .skip))
 (oN [o4 24 5,o4 4 24]
 oL))))⟩
def aD7:ACode:=.seq (oN [o4 9 4,o4 10 0,o0 11 (.len 0 (.t 10)),o0 12 (oH 9 11)]
 (.cond (.t 12) .skip
 (oM 0)))
 (.seq (.block 1 (oN [o4 15 4,o0 16 (.bin .gtr (.t 15) (o5 0)),o4 17 16,o2 18 (o9 0) 17 true,o2 19 (o9 4) 17 true,o2 20 (.sindex (.t 18) (.t 19)) 17 true,o2 21 (oG false (.t 20) (.c (.int .u8 46))) 17 true,o2 22 (o9 21) 17 true,o2 23 (o9 0) 22 false,o2 24 (o9 4) 22 false,o2 25 (.sindex (.t 23) (.t 24)) 22 false,o2 26 (.conv .i64 (.t 25)) 22 false,o2 27 (oK 20 [(.t 26),(o5 48),(o5 57)]) 22 false,o2 28 (.pick (.t 22) (.c (.bool true)) (.t 27)) 17 true,o0 29 (.pick (.t 17) (.t 28) (.c (.bool false))),o4 5 29]
 (.reg [o4 30 3,o4 31 30,o2 32 (o9 0) 31 true,o2 33 (o9 4) 31 true,o2 34 (.sindex (.t 32) (.t 33)) 31 true,o2 35 (.conv .i64 (.t 34)) 31 true,o2 36 (oK 20 [(.t 35),(o5 97),(o5 122)]) 31 true,o2 37 (o9 36) 31 true,o2 38 (o9 5) 37 false,o2 39 (.pick (.t 37) (.c (.bool true)) (.t 38)) 31 true,o0 40 (.pick (.t 31) (.t 39) (.c (.bool false))),o4 3 40])))
 (.reg [o4 13 4,o0 14 (oI 13 1),o4 4 14]))
def aBP:AFunc:=⟨42,[.tmp 2],
 oN [o0 2 (.mov (.c (.bool false)))]
 (oN [o4 6 0,o0 7 (.len 0 (.t 6)),o0 8 (oK 20 [(.t 7),(o5 1),(o5 16)]),o4 3 8]
 (.seq (oN [o0 4 (oA 0)]
 (.block 0 (.loop aD7)))
 (oN [o4 41 3,o4 2 41]
 oL)))⟩
def YU:AFunc:=⟨1,[.tmp 0],
 oN [o0 0 (oA 0)]
 (oN [o0 0 (oA 0)]
 oL)⟩
def aB6:AFunc:=⟨67,[.tmp 2,.tmp 3,.tmp 4],
 oN [o0 1 (.box 7 (.t 0)),o0 2 (oA 0),o0 3 (oA 0),o0 4 (oA 0)]
 (.seq (oN [o0 5 (o8 1 0),o0 6 (o7 5),o0 7 (oF 6),o0 8 (.mklit 1 [.t 7]),o0 9 (oK 232 [(o5 1),(o5 7),(.t 8)])]
 (.cond (.t 9) (oN [o0 2 (oA 1),o0 3 (oA 0),o0 4 (oA 3)]
 oL)
 .skip))
 (.seq (oN [o0 11 (o8 1 0),o0 12 (o7 11),o0 13 (oK 344 [(.t 12),(o6 345)]),o4 10 13,o0 14 (oD 10 0),o0 15 (oD 10 1),o4 3 14,o4 4 15]
 (oN [o4 16 4,o0 17 (oG true (.t 16) (o5 0))]
 (.cond (.t 17) (oN [o4 18 3,o4 19 4,o0 2 (oA 1),o4 3 18,o4 4 19]
 oL)
 .skip)))
 (.seq (oN [o0 20 (o8 1 3),o0 21 (oB 2 20),o0 22 (oK 346 [(.t 21),(o5 0),(o5 9)]),o4 4 22]
 (.block 0 (oN [o0 24 (o8 1 1),o0 25 (o7 24),o0 26 (o8 1 2),o0 27 (o7 26),o0 28 (.mklit 1 [.t 25,.t 27]),o0 29 (oK 232 [(o5 0),(o5 30),(.t 28)]),o4 23 29]
 (.cond (.t 23) (oN [o0 2 (oA 2),o0 3 (oA 0),o0 4 (oA 7)]
 oL)
 (oN [o4 31 4,o0 32 (oG true (.t 31) (o5 0)),o4 30 32]
 (.cond (.t 30) (oN [o4 33 4,o0 2 (oA 2),o0 3 (oA 0),o4 4 33]
 oL)
 (oN [o0 35 (o8 1 5),o0 36 (o7 35),o0 37 (oF 36),o0 38 (.bin .gtr (.t 37) (o5 4)),o4 34 38]
 (.cond (.t 34) (oN [o0 2 (oA 3),o0 3 (oA 0),o0 4 (oA 3)]
 oL)
 .skip))))))))
 (oN [o0 40 (o8 1 5),o0 41 (o7 40),o0 42 (.mkfun 348 [] [.t 1]),o0 43 (oK 347 [.t 41,.t 42]),o4 39 43,o0 44 (oD 39 0),o0 45 (oD 39 1),o4 3 44,o4 4 45]
 (.seq (.block 1 (oN [o4 47 4,o0 48 (oG true (.t 47) (o5 0)),o4 46 48]
 (.cond (.t 46) (oN [o4 49 3,o4 50 4,o0 2 (oA 3),o4 3 49,o4 4 50]
 oL)
 (oN [o0 52 (o8 1 6),o0 53 (o7 52),o0 54 (oF 53),o0 55 (.bin .gtr (.t 54) (o5 4)),o4 51 55]
 (.cond (.t 51) (oN [o0 2 (oA 4),o0 3 (oA 0),o0 4 (oA 3)]
 oL)
 .skip)))))
 (oN [o0 57 (o8 1 6),o0 58 (o7 57),o0 59 (.mkfun 352 [] [.t 1]),o0 60 (oK 351 [.t 58,.t 59]),o4 56 60,o0 61 (oD 56 0),o0 62 (oD 56 1),o4 3 61,o4 4 62]
 (.seq (oN [o4 63 4,o0 64 (oG true (.t 63) (o5 0))]
 (.cond (.t 64) (oN [o4 65 3,o4 66 4,o0 2 (oA 4),o4 3 65,o4 4 66]
 oL)
 .skip))
 (oN [o0 2 (oA 0),o0 3 (oA 0),o0 4 (oA 0)]
 oL))))))))⟩
def CH:ACode:=.block 1 (oN [o0 18 (o7 5),o0 19 (oB 7 6),o0 20 (oK 354 [.t 18,.t 19]),o4 17 20,o0 21 (oD 17 0),o0 22 (oD 17 1),o0 7 (.alloc [.int .i64 0,.int .i64 0,.int .i64 0,.int .i64 0]),o1 (.store 4 (.t 7) (.t 21)),o4 8 22]
 (oN [o4 23 8]
 (.cond (.t 23) (.dreg [o3 24 (o7 5) 0 0,o3 25 (.nilCheck (.t 24)) 0 0,o3 26 (o8 25 8) 0 0,o3 27 (o7 26) 0 0,o3 28 (oB 7 6) 0 0,o3 29 (oB 4 7) 0 0,⟨o1 (.mapset (.agg [.i,.i,.i,.i,.i,.i,.i]) (.t 27) (.t 28) (.t 29)),0,1⟩])
 .skip)))
def aBJ:AFunc:=⟨31,[.tmp 4],
 oN [o0 2 (.box 7 (.t 0)),o0 4 (.mov (.c (.nilPtr)))]
 (.seq (.reg [o0 9 (oB 7 2),o4 10 1,o0 11 .mkmap,o0 12 (.build [.lit [] true none,.int .i64 0,.int .i64 0,.int .i64 0,.int .i64 0,.lit [] true none,.lit [] true none,.int .i64 0,.nilMap] [(0,7,(.t 9)),(7,1,(.t 10)),(8,1,(.t 11))]),o0 13 (.box 9 (.t 12)),o0 5 (.alloc [.nilPtr]),o1 (.store 1 (.t 5) (.t 13))])
 (.seq (oN [o0 14 (o7 5),o0 15 (oK 353 [.t 14])]
 (.block 0 (.rangeFunc (.t 15) [16] (.reg [o0 6 (.alloc [.int .i64 0,.int .i64 0,.int .i64 0,.int .i64 0,.int .i64 0,.int .i64 0,.int .i64 0]),o1 (.store 7 (.t 6) (.t 16))])
 (CH))))
 (oN [o0 30 (o7 5),o4 4 30]
 oL)))⟩
def aBU:AFunc:=⟨10,[.tmp 6],
 oN [o0 3 (.box 1 (.t 0)),o0 4 (.box 1 (.t 1)),o0 6 (.mov (.c (.bool false)))]
 (oN [o4 7 2,o0 8 (.mkfun 369 [] [.t 3,.t 4]),o0 9 (oK 356 [.t 7,.t 8]),o4 6 9]
 oL)⟩
def aD0:ACode:=.seq (oN [o4 3 2,o0 4 (oI 3 1),o0 5 (o7 0),o0 6 (oF 5),o0 7 (oH 4 6)]
 (.cond (.t 7) .skip
 (oM 0)))
 (.seq (.block 1 (.seq (.dreg [o3 10 (o7 0) 0 0,o3 11 (o9 2) 0 0,o3 12 (oI 11 1) 0 0,o3 13 (oC 1 10 12) 0 0,o3 14 (o7 13) 0 0,o3 15 (o7 0) 0 0,o3 16 (o9 2) 0 0,o3 17 (oC 1 15 16) 0 0,o3 18 (o7 17) 0 0,o3 19 (.mklit 1 [.t 18]) 0 0,o3 20 (oK 232 [(o5 0),(.t 14),(.t 19)]) 0 1])
 (.cond (.t 20) (oN [o0 1 (oA 7)]
 oL)
 .skip)))
 (.reg [o4 8 2,o0 9 (oI 8 2),o4 2 9]))
def aDB:AFunc:=⟨21,[.tmp 1],
 oN [o0 1 (oA 0)]
 (.seq (oN [o0 2 (oA 0)]
 (.block 0 (.loop aD0)))
 (oN [o0 1 (oA 0)]
 oL))⟩
def aAM:ACode:=oN [o0 18 (oH 17 16)]
 (.seq (.cond (.t 18) .skip
 (oM 0))
 (.seq (.block 1 (oN [o0 19 (oC 1 15 17),o0 20 (o7 19),o4 10 20]
 (.reg [o4 21 8,o4 22 10,o0 23 (.bin .add (o5 1) (.t 22)),o0 24 (.bin .add (.t 21) (.t 23)),o4 8 24])))
 (.reg [o0 25 (oI 17 1),o4 17 25])))
def KS:AFunc:=⟨27,[.tmp 8],
 oN [o0 5 (.box 7 (.t 1)),o0 8 (oA 0)]
 (.seq (oN [o4 11 2,o4 12 3,o0 13 (.min [.t 11,.t 12]),o4 14 3,o0 15 (.slicea 7 1 (.t 5) (some (.t 13)) (some (.t 14))),o0 16 (oF 15),o0 17 (oA 0)]
 (.block 0 (.loop aAM)))
 (oN [o4 26 8,o4 8 26]
 oL))⟩
def M8:AFunc:=⟨10,[.tmp 6],
 oN [o0 3 (.box 1 (.t 0)),o0 4 (.box 1 (.t 1)),o0 6 (.mov (.c (.bool false)))]
 (oN [o4 7 2,o0 8 (.mkfun 378 [] [.t 3,.t 4]),o0 9 (oK 356 [.t 7,.t 8]),o4 6 9]
 oL)⟩
def OE:AFunc:=⟨20,[.tmp 4],
 oN [o0 4 (oA 0)]
 (oN [o4 7 0,o0 8 (oK 386 [.t 7]),o4 5 8]
 (oN [o4 9 1,o0 10 (oK 386 [.t 9]),o4 6 10]
 (.seq (oN [o4 11 5]
 (.cond (.t 11) (.seq (oN [o4 12 6]
 (.cond (.t 12) (oN [o0 4 (oA 0)]
 oL)
 .skip))
 (oN [o0 4 (.mov (.c (.int .i64 (-1))))]
 oL))
 .skip))
 (.seq (oN [o4 13 6]
 (.cond (.t 13) (oN [o0 4 (oA 1)]
 oL)
 .skip))
 (.seq (oN [o4 14 0,o4 15 1,o0 16 (oH 14 15)]
 (.cond (.t 16) (oN [o0 4 (.mov (.c (.int .i64 (-1))))]
 oL)
 .skip))
 (.seq (oN [o4 17 0,o4 18 1,o0 19 (.bin .gtr (.t 17) (.t 18))]
 (.cond (.t 19) (oN [o0 4 (oA 1)]
 oL)
 .skip))
 (oN [o0 4 (oA 0)]
 oL)))))))⟩
def SJ:ACode:=oN [o0 9 (oH 8 7)]
 (.seq (.cond (.t 9) .skip
 (oM 0))
 (.seq (.block 1 (oN [o4 10 8,o4 5 10]
 (oN [o4 11 1,o4 12 0,o4 13 5,o0 14 (oC 1 12 13),o0 15 (o7 14),o0 16 (.call (.t 11) [.t 15])]
 (.cond (.t 16) (oN [o4 17 5,o4 4 17]
 oL)
 .skip))))
 (.reg [o0 18 (oI 8 1),o4 8 18])))
def PG:AFunc:=⟨19,[.tmp 4],
 oN [o0 4 (oA 0)]
 (.seq (oN [o4 6 0,o0 7 (oF 6),o0 8 (oA 0)]
 (.block 0 (.loop SJ)))
 (oN [o0 4 (.mov (.c (.int .i64 (-1))))]
 oL))⟩
def aAT:AFunc:=⟨10,[.tmp 4],
 oN [o0 2 (.box 4 (.t 0)),o0 4 (.mov (.c (.bool false)))]
 (oN [o4 5 1,o0 6 (o8 2 0),o0 7 (o7 6),o0 8 (.bin .sub (.t 7) (o5 1)),o0 9 (oK 20 [(.t 5),(o5 0),(.t 8)]),o4 4 9]
 oL)⟩
def aAX:ACode:=.seq (oN [o4 19 8,o4 20 2,o0 21 (oF 20),o0 22 (oH 19 21)]
 (.cond (.t 22) .skip
 (oM 0)))
 (.seq (.block 1 (.seq (.dreg [o3 25 (o8 3 1) 0 0,o3 26 (o7 25) 0 0,o3 27 (o9 2) 0 0,o3 28 (o9 8) 0 0,o3 29 (oC 1 27 28) 0 0,o3 30 (o7 29) 0 0,o3 31 (oC 5 26 30) 0 0,o3 32 (oB 5 31) 0 0,o3 33 (o9 1) 0 0,o3 34 (oK 415 [.t 32,.t 33]) 0 1,o3 1 (o9 34) 1 1])
 (.seq (oN [o4 35 1,o0 36 (.bin .lss (.t 35) (o5 0)),o4 37 36,o2 38 (o9 7) 37 false,o2 39 (o9 1) 37 false,o2 40 (oK 64 [.t 38,.t 39]) 37 false,o0 41 (.pick (.t 37) (.c (.bool true)) (.t 40)),o4 42 41,o2 43 (o9 1) 42 false,o2 44 (oG false (.t 43) (o5 0)) 42 false,o2 45 (o9 44) 42 false,o2 46 (o9 8) 45 true,o2 47 (oI 46 1) 45 true,o2 48 (o9 2) 45 true,o2 49 (oF 48) 45 true,o2 50 (oH 47 49) 45 true,o2 51 (.pick (.t 45) (.t 50) (.c (.bool false))) 42 false,o0 52 (.pick (.t 42) (.c (.bool true)) (.t 51))]
 (.cond (.t 52) (oN [o0 6 (.mov (.c (.bool false)))]
 oL)
 .skip))
 (.reg [o4 53 7,o4 54 1,o0 55 (.mklit 1 [.t 54]),o0 56 (.append 1 8 (.t 53) (.t 55)),o4 7 56]))))
 (.reg [o4 23 8,o0 24 (oI 23 1),o4 8 24]))
def aBZ:AFunc:=⟨59,[.tmp 6],
 oN [o0 3 (.box 4 (.t 0)),o0 6 (.mov (.c (.bool false)))]
 (.seq (oN [o4 9 2,o0 10 (oF 9),o0 11 (oK 20 [(.t 10),(o5 1),(o5 4)]),o0 12 (.not (.t 11)),o4 13 12,o2 14 (o9 1) 13 false,o2 15 (oG false (.t 14) (o5 0)) 13 false,o0 16 (.pick (.t 13) (.c (.bool true)) (.t 15))]
 (.cond (.t 16) (oN [o0 6 (.mov (.c (.bool false)))]
 oL)
 .skip))
 (oN [o4 17 1,o0 18 (.mklit 1 [.t 17]),o4 7 18]
 (.seq (oN [o0 8 (oA 0)]
 (.block 0 (.loop aAX)))
 (oN [o4 57 1,o0 58 (oG false (.t 57) (o5 0)),o4 6 58]
 oL))))⟩
def ZF:AFunc:=⟨64,[.tmp 2,.tmp 3,.tmp 4],
 oN [o0 1 (.box 4 (.t 0)),o0 2 (oA 0),o0 3 (oA 0),o0 4 (oA 0)]
 (oN [o0 6 (o8 1 0),o0 7 (o7 6),o0 8 (.bin .sub (.t 7) (o5 1)),o0 5 (.alloc [.int .i64 0]),o1 (.store 1 (.t 5) (.t 8))]
 (.seq (.block 0 (oN [o0 10 (o8 1 0),o0 11 (o7 10),o0 12 (.mklit 1 [.t 11]),o0 13 (oK 317 [(o5 2),(o5 5),(.t 12)]),o4 9 13]
 (.cond (.t 9) (oN [o0 2 (oA 1),o0 3 (oA 0),o0 4 (oA 7)]
 oL)
 (oN [o0 15 (o8 1 1),o0 16 (o7 15),o0 17 (oF 16),o0 18 (.bin .gtr (.t 17) (o5 5)),o4 14 18]
 (.cond (.t 14) (oN [o0 2 (oA 2),o0 3 (oA 0),o0 4 (oA 3)]
 oL)
 .skip)))))
 (oN [o0 20 (o8 1 1),o0 21 (o7 20),o0 22 (.mkfun 421 [] [.t 5]),o0 23 (oK 420 [.t 21,.t 22]),o4 19 23,o0 24 (oD 19 0),o0 25 (oD 19 1),o4 3 24,o4 4 25]
 (.seq (.block 1 (oN [o4 27 4,o0 28 (oG true (.t 27) (o5 0)),o4 26 28]
 (.cond (.t 26) (oN [o4 29 3,o4 30 4,o0 2 (oA 2),o4 3 29,o4 4 30]
 oL)
 (oN [o0 32 (o8 1 2),o0 33 (o7 32),o0 34 (oF 33),o0 35 (.bin .gtr (.t 34) (o5 3)),o4 31 35]
 (.cond (.t 31) (oN [o0 2 (oA 3),o0 3 (oA 0),o0 4 (oA 3)]
 oL)
 .skip)))))
 (oN [o0 37 (o8 1 2),o0 38 (o7 37),o0 39 (.mkfun 423 [] [.t 1,.t 5]),o0 40 (oK 422 [.t 38,.t 39]),o4 36 40,o0 41 (oD 36 0),o0 42 (oD 36 1),o4 3 41,o4 4 42]
 (.seq (.block 2 (oN [o4 44 4,o0 45 (oG true (.t 44) (o5 0)),o4 43 45]
 (.cond (.t 43) (oN [o4 46 3,o4 47 4,o0 2 (oA 3),o4 3 46,o4 4 47]
 oL)
 (oN [o0 49 (o8 1 3),o0 50 (o7 49),o0 51 (oF 50),o0 52 (.bin .gtr (.t 51) (o5 3)),o4 48 52]
 (.cond (.t 48) (oN [o0 2 (oA 4),o0 3 (oA 0),o0 4 (oA 3)]
 oL)
 .skip)))))
 (oN [o0 54 (o8 1 3),o0 55 (o7 54),o0 56 (.mkfun 428 [] [.t 1]),o0 57 (oK 427 [.t 55,.t 56]),o4 53 57,o0 58 (oD 53 0),o0 59 (oD 53 1),o4 3 58,o4 4 59]
 (.seq (oN [o4 60 4,o0 61 (oG true (.t 60) (o5 0))]
 (.cond (.t 61) (oN [o4 62 3,o4 63 4,o0 2 (oA 4),o4 3 62,o4 4 63]
 oL)
 .skip))
 (oN [o0 2 (oA 0),o0 3 (oA 0),o0 4 (oA 0)]
 oL)))))))))⟩
def aEQ:AFunc:=⟨10,[.tmp 6],
 oN [o0 3 (.box 1 (.t 0)),o0 4 (.box 1 (.t 1)),o0 6 (.mov (.c (.bool false)))]
 (oN [o4 7 2,o0 8 (.mkfun 429 [] [.t 3,.t 4]),o0 9 (oK 356 [.t 7,.t 8]),o4 6 9]
 oL)⟩
def aDE:ACode:=oN [o0 32 (oH 31 30)]
 (.seq (.cond (.t 32) .skip
 (oM 4))
 (.seq (.block 5 (oN [o4 33 31,o0 34 (oC 5 29 31),o0 35 (oB 5 34),o0 12 (.alloc [.int .i64 0,.int .i64 0,.int .i64 0,.int .i64 0,.int .i64 0]),o4 11 33,o1 (.store 5 (.t 12) (.t 35))]
 (.seq (oN [o4 36 11,o4 37 2,o0 38 (oG false (.t 36) (.t 37)),o4 39 38,o2 40 (o8 12 4) 39 false,o2 41 (o7 40) 39 false,o2 42 (oG false (.t 41) (o5 1)) 39 false,o0 43 (.pick (.t 39) (.c (.bool true)) (.t 42)),o4 44 43,o2 45 (o9 10) 44 false,o2 46 (oF 45) 44 false,o2 47 (oG false (.t 46) (o5 4)) 44 false,o0 48 (.pick (.t 44) (.c (.bool true)) (.t 47))]
 (.cond (.t 48) (oM 5)
 .skip))
 (oN [o4 49 10,o0 50 (oF 49),o0 51 (oI 50 1),o0 52 (.mkslice [.int .i64 0] 8 (.t 51) (.t 51)),o4 13 52]
 (oN [o4 53 13,o4 54 10,o0 55 (.copy 1 (.t 53) (.t 54))]
 (oN [o4 56 13,o4 57 10,o0 58 (oF 57),o4 59 11,o0 60 (oC 1 56 58),o1 (.store 1 (.t 60) (.t 59))]
 (oN [o0 62 (oB 4 3),o4 63 1,o4 64 13,o0 65 (oK 426 [.t 62,.t 63,.t 64]),o4 61 65,o0 66 (oD 61 0),o0 67 (oD 61 1),o4 14 66,o4 15 67]
 (.block 6 (oN [o4 69 14,o4 68 69]
 (.cond (.t 68) (.reg [o4 70 6,o4 71 13,o0 72 (.mklit 1 [.t 71]),o0 73 (.append 1 24 (.t 70) (.t 72)),o4 6 73])
 (oN [o4 75 15,o4 74 75]
 (.cond (.t 74) (.reg [o4 76 8,o4 77 13,o0 78 (.mklit 1 [.t 77]),o0 79 (.append 1 24 (.t 76) (.t 78)),o4 8 79])
 .skip))))))))))))
 (.reg [o0 80 (oI 31 1),o4 31 80])))
def aEV:ACode:=oN [o0 25 (oH 24 23)]
 (.seq (.cond (.t 25) .skip
 (oM 2))
 (.seq (.block 3 (oN [o0 26 (oC 1 22 24),o0 27 (o7 26),o4 10 27]
 (oN [o0 28 (o8 3 1),o0 29 (o7 28),o0 30 (oF 29),o0 31 (oA 0)]
 (.block 4 (.loop aDE)))))
 (.reg [o0 81 (oI 24 1),o4 24 81])))
def aCC:ACode:=.seq (oN [o4 19 7,o0 20 (oF 19),o0 21 (.bin .gtr (.t 20) (o5 0))]
 (.cond (.t 21) .skip
 (oM 0)))
 (.block 1 (oN [o0 8 (.mov (.c (.lit [] true none)))]
 (.seq (oN [o4 22 7,o0 23 (oF 22),o0 24 (oA 0)]
 (.block 2 (.loop aEV)))
 (.reg [o4 82 8,o4 7 82]))))
def aDN:AFunc:=⟨84,[.tmp 6],
 oN [o0 3 (.box 4 (.t 0)),o0 6 (.mov (.c (.lit [] true none)))]
 (.seq (oN [o4 16 1,o0 17 (oG false (.t 16) (o5 0))]
 (.cond (.t 17) (oN [o0 6 (.mov (.c (.lit [] true none)))]
 oL)
 .skip))
 (.seq (.seq (.reg [o0 18 (.mklit 1 [(.c (.lit [] true none))]),o4 7 18])
 (.block 0 (.loop aCC)))
 (oN [o4 83 6,o4 6 83]
 oL)))⟩
def LK:ACode:=.seq (oN [o4 20 9,o0 21 (oI 20 1),o4 22 1,o0 23 (oF 22),o0 24 (oH 21 23)]
 (.cond (.t 24) .skip
 (oM 0)))
 (.seq (.block 1 (.seq (.dreg [o3 27 (o9 1) 0 0,o3 28 (o9 9) 0 0,o3 29 (oI 28 1) 0 0,o3 30 (oC 1 27 29) 0 0,o3 31 (o7 30) 0 0,o3 32 (.bin .sub (.t 31) (o5 1)) 0 0,o3 33 (o9 1) 0 0,o3 34 (o9 9) 0 0,o3 35 (oC 1 33 34) 0 0,o3 36 (o7 35) 0 0,o3 37 (.mklit 1 [.t 36]) 0 0,o3 38 (oK 317 [(o5 0),(.t 32),(.t 37)]) 0 1])
 (.cond (.t 38) (oN [o0 4 (.mov (.c (.nilPtr))),o0 5 (oA 4)]
 oL)
 .skip)))
 (.reg [o4 25 9,o0 26 (oI 25 2),o4 9 26]))
def R9:AFunc:=⟨45,[.tmp 4,.tmp 5],
 oN [o0 2 (.box 4 (.t 0)),o0 4 (.mov (.c (.nilPtr))),o0 5 (oA 0)]
 (.seq (oN [o0 12 (oB 4 2),o0 13 (oK 316 [.t 12]),o4 11 13,o0 14 (oD 11 0),o0 15 (oD 11 1),o0 16 (oD 11 2),o4 6 14,o4 7 15,o4 8 16]
 (oN [o4 17 8,o0 18 (oG true (.t 17) (o5 0))]
 (.cond (.t 18) (oN [o4 19 8,o0 4 (.mov (.c (.nilPtr))),o4 5 19]
 oL)
 .skip)))
 (.seq (oN [o0 9 (oA 0)]
 (.block 0 (.loop LK)))
 (oN [o0 39 (oB 4 2),o0 40 (oK 326 [(.t 39),(o5 0)]),o4 10 40]
 (.seq (oN [o4 41 10,o0 42 (oK 327 [.t 41]),o0 43 (.not (.t 42))]
 (.cond (.t 43) (oN [o0 4 (.mov (.c (.nilPtr))),o0 5 (oA 8)]
 oL)
 .skip))
 (oN [o4 44 10,o4 4 44,o0 5 (oA 0)]
 oL)))))⟩
def EJ:AFunc:=⟨4,[.tmp 2],
 oN [o0 1 (.box 1 (.t 0)),o0 2 (.mov (.c (.nilFunc)))]
 (oN [o0 3 (.mkfun 430 [] [.t 1]),o4 2 3]
 oL)⟩
def aBK:ACode:=oN [o0 29 (oH 28 27)]
 (.seq (.cond (.t 29) .skip
 (oM 2))
 (.seq (.block 3 (oN [o4 30 28,o4 7 30]
 (.seq (.dreg [o3 31 (o7 4) 0 0,o3 32 (o9 7) 0 0,o3 33 (o9 7) 0 0,o3 34 (.iaddr (some 3) 1 (.t 6) (.t 33)) 0 0,o3 35 (o7 34) 0 0,o3 36 (.call (.t 31) [.t 32,.t 35]) 0 1])
 (.cond (.t 36) (.dreg [o3 37 (o7 2) 0 0,o3 38 (o9 7) 0 0,o3 39 (.bin .shl (o5 1) (.t 38)) 0 0,o3 40 (.bin .andNot (.t 37) (.t 39)) 0 0,⟨o1 (.store 1 (.t 2) (.t 40)),0,1⟩])
 (.dreg [o3 41 (o7 3) 0 0,o3 42 (o9 7) 0 0,o3 43 (.bin .shl (o5 1) (.t 42)) 0 0,o3 44 (.bin .or (.t 41) (.t 43)) 0 0,⟨o1 (.store 1 (.t 3) (.t 44)),0,1⟩])))))
 (.reg [o0 45 (oI 28 1),o4 28 45])))
def SM:ACode:=.block 1 (oN [o0 22 (o7 1),o0 23 (.nilCheck (.t 22)),o0 24 (o8 23 0),o0 25 (o8 24 2),o0 26 (o7 25),o0 27 (oF 26),o0 28 (oA 0)]
 (.block 2 (.loop aBK)))
def aBB:AFunc:=⟨48,[.cell 2 none,.cell 3 none],
 oN [o0 1 (.box 1 (.t 0)),o0 2 (.alloc [.int .i64 0]),o0 3 (.alloc [.int .i64 0])]
 (oN [o0 8 (o7 1),o0 9 (.mkfun 435 [.t 8] []),o0 4 (.alloc [.nilFunc]),o1 (.store 1 (.t 4) (.t 9))]
 (oN [o0 10 (o7 1),o0 11 (.nilCheck (.t 10)),o0 12 (o8 11 0),o0 13 (o8 12 2),o0 14 (o7 13),o0 15 (oF 14),o0 16 (.bin .shl (o5 1) (.t 15)),o0 17 (.bin .sub (.t 16) (o5 1)),o1 (.store 1 (.t 2) (.t 17))]
 (.seq (oN [o0 18 (o7 1),o0 19 (oK 320 [.t 18])]
 (.block 0 (.rangeFunc (.t 19) [20,21] (.reg [o0 6 (.alloc [.int .i64 0,.int .i64 0,.int .i64 0]),o1 (.store 3 (.t 6) (.t 21))])
 (SM))))
 (.seq (.dreg [o3 46 (o7 2) 0 0,o3 47 (o7 3) 0 1,⟨o1 (.store 1 (.t 2) (.t 46)),0,1⟩,⟨o1 (.store 1 (.t 3) (.t 47)),1,2⟩])
 oL))))⟩
def aDW:ACode:=oN [o0 8 (oH 7 6)]
 (.seq (.cond (.t 8) .skip
 (oM 0))
 (.seq (.block 1 (oN [o4 9 7,o4 5 9]
 (oN [o4 10 0,o4 11 5,o0 12 (.bin .shr (.t 10) (.t 11)),o0 13 (.bin .and (.t 12) (o5 1)),o0 14 (oG false (.t 13) (o5 1))]
 (.cond (.t 14) (.reg [o4 15 4,o4 16 5,o0 17 (.mklit 1 [.t 16]),o0 18 (.append 1 8 (.t 15) (.t 17)),o4 4 18])
 .skip))))
 (.reg [o0 19 (oI 7 1),o4 7 19])))
def YL:AFunc:=⟨21,[.tmp 4],
 oN [o0 4 (.mov (.c (.lit [] true none)))]
 (.seq (oN [o4 6 1,o0 7 (oA 0)]
 (.block 0 (.loop aDW)))
 (oN [o4 20 4,o4 4 20]
 oL))⟩
def aCZ:ACode:=oN [o0 30 (oH 29 28)]
 (.seq (.cond (.t 30) .skip
 (oM 0))
 (.seq (.block 1 (oN [o0 31 (oC 1 27 29),o0 32 (o7 31),o4 11 32]
 (oN [o0 12 (oA 0)]
 (.seq (oN [o4 33 11,o0 34 (o8 5 2),o0 35 (o7 34),o4 36 0,o0 37 (oC 5 35 36),o0 38 (o8 37 4),o0 39 (o7 38),o0 40 (oK 325 [.t 33,.t 39]),o0 41 (.not (.t 40))]
 (.cond (.t 41) (.reg [o0 12 (oA 1)])
 .skip))
 (oN [o0 42 (o7 2),o4 43 0,o4 44 11,o0 45 (oC 1 42 43),o1 (.store 1 (.t 45) (.t 44))]
 (oN [o4 46 12,o4 47 1,o0 48 (.bin .leq (.t 46) (.t 47)),o4 49 48,o2 50 (o7 6) 49 true,o2 51 (o9 0) 49 true,o2 52 (oI 51 1) 49 true,o2 53 (o9 1) 49 true,o2 54 (o9 12) 49 true,o2 55 (.bin .sub (.t 53) (.t 54)) 49 true,o2 56 (.call (.t 50) [.t 52,.t 55]) 49 true,o0 57 (.pick (.t 49) (.t 56) (.c (.bool false)))]
 (.cond (.t 57) (oN [o0 9 (.mov (.c (.bool true)))]
 oL)
 .skip)))))))
 (.reg [o0 58 (oI 29 1),o4 29 58])))
def LU:AFunc:=⟨59,[.tmp 9],
 oN [o0 9 (.mov (.c (.bool false)))]
 (.seq (oN [o4 13 0,o0 14 (o7 2),o0 15 (oF 14),o0 16 (oG false (.t 13) (.t 15))]
 (.cond (.t 16) (oN [o4 17 1,o0 18 (oG false (.t 17) (o5 0)),o4 19 18,o2 20 (o7 3) 19 true,o2 21 (o7 2) 19 true,o2 22 (oK 324 [.t 20,.t 21]) 19 true,o0 23 (.pick (.t 19) (.t 22) (.c (.bool false))),o4 9 23]
 oL)
 .skip))
 (.seq (oN [o0 24 (o7 4),o4 25 0,o0 26 (oC 1 24 25),o0 27 (o7 26),o0 28 (oF 27),o0 29 (oA 0)]
 (.block 0 (.loop aCZ)))
 (oN [o0 9 (.mov (.c (.bool false)))]
 oL)))⟩
def aD9:ACode:=oN [o0 23 (oH 22 21)]
 (.seq (.cond (.t 23) .skip
 (oM 2))
 (.seq (.block 3 (oN [o4 24 22,o4 7 24]
 (.seq (.dreg [o3 25 (o7 2) 0 0,o3 26 (o9 7) 0 0,o3 27 (o9 7) 0 0,o3 28 (.iaddr (some 3) 1 (.t 6) (.t 27)) 0 0,o3 29 (o7 28) 0 0,o3 30 (oK 435 [.t 25,.t 26,.t 29]) 0 1,o3 31 (.not (.t 30)) 1 1])
 (.cond (.t 31) (oN [o1 (.store 1 (.t 4) (.c (.bool false)))]
 oL)
 .skip))))
 (.reg [o0 32 (oI 22 1),o4 22 32])))
def P9:ACode:=.block 1 (oN [o0 12 (o7 2),o0 13 (oB 5 5),o0 14 (.mkfun 436 [] [.t 3]),o0 15 (oK 433 [.t 12,.t 13,.t 14]),o0 6 (.alloc [.int .i64 0,.int .i64 0,.int .i64 0]),o1 (.store 3 (.t 6) (.t 15))]
 (oN [o0 16 (o7 2),o0 17 (.nilCheck (.t 16)),o0 18 (o8 17 0),o0 19 (o8 18 2),o0 20 (o7 19),o0 21 (oF 20),o0 22 (oA 0)]
 (.block 2 (.loop aD9))))
def YI:AFunc:=⟨33,[.cell 4 none],
 oN [o0 2 (.box 1 (.t 0)),o0 3 (.box 1 (.t 1)),o0 4 (.alloc [.bool false])]
 (.seq (oN [o0 8 (o7 2),o0 9 (oK 320 [.t 8])]
 (.block 0 (.rangeFunc (.t 9) [10,11] (.reg [o0 5 (.alloc [.int .i64 0,.int .i64 0,.int .i64 0,.int .i64 0,.int .i64 0]),o1 (.store 5 (.t 5) (.t 10))])
 (P9))))
 (oN [o1 (.store 1 (.t 4) (.c (.bool true)))]
 oL))⟩
def aAZ:ACode:=oN [o0 14 (oH 13 12)]
 (.seq (.cond (.t 14) .skip
 (oM 0))
 (.seq (.block 1 (oN [o4 15 13,o4 5 15]
 (.seq (.dreg [o3 16 (o9 0) 0 0,o3 17 (o9 5) 0 0,o3 18 (oC 1 16 17) 0 0,o3 19 (o7 18) 0 0,o3 20 (o9 1) 0 0,o3 21 (o9 5) 0 0,o3 22 (oC 1 20 21) 0 0,o3 23 (o7 22) 0 0,o3 24 (oG true (.t 19) (.t 23)) 0 0])
 (.cond (.t 24) (oN [o0 4 (.mov (.c (.bool false)))]
 oL)
 .skip))))
 (.reg [o0 25 (oI 13 1),o4 13 25])))
def WV:AFunc:=⟨26,[.tmp 4],
 oN [o0 4 (.mov (.c (.bool false)))]
 (.seq (oN [o4 6 0,o0 7 (oF 6),o4 8 1,o0 9 (oF 8),o0 10 (oG true (.t 7) (.t 9))]
 (.cond (.t 10) (oN [o0 4 (.mov (.c (.bool false)))]
 oL)
 .skip))
 (.seq (oN [o4 11 0,o0 12 (oF 11),o0 13 (oA 0)]
 (.block 0 (.loop aAZ)))
 (oN [o0 4 (.mov (.c (.bool true)))]
 oL)))⟩
def Y4:AFunc:=⟨10,[.tmp 4],
 oN [o0 2 (.box 4 (.t 0)),o0 4 (.mov (.c (.nilPtr)))]
 (.seq (.reg [o0 5 (oB 4 2),o4 6 1,o0 7 .mkmap,o0 8 (.build [.int .i64 0,.lit [] true none,.lit [] true none,.lit [] true none,.int .i64 0,.nilMap] [(0,4,(.t 5)),(4,1,(.t 6)),(5,1,(.t 7))]),o0 9 (.box 6 (.t 8)),o4 4 9])
 oL)⟩
def aAU:ACode:=.block 1 (oN [o1 (.store 1 (.t 2) (.c (.bool true)))]
 oL)
def XC:AFunc:=⟨7,[.cell 2 none],
 oN [o0 2 (.alloc [.bool false])]
 (.seq (oN [o4 3 0,o0 4 (oK 320 [.t 3])]
 (.block 0 (.rangeFunc (.t 4) [5,6] .skip
 (aAU))))
 (oN [o1 (.store 1 (.t 2) (.c (.bool false)))]
 oL))⟩
def ZT:AFunc:=⟨4,[.tmp 0],
 oN [o0 0 (.mov (.c (.lit [] true none)))]
 (oN [o0 1 (.build [.nilFunc] [(0,1,(o6 443))]),o0 2 (.build [.nilFunc] [(0,1,(o6 445))]),o0 3 (.mklit 1 [.t 1,.t 2]),o4 0 3]
 oL)⟩
def aDQ:ACode:=oN [o0 12 (oH 11 10)]
 (.seq (.cond (.t 12) .skip
 (oM 0))
 (.seq (.block 1 (oN [o4 13 11,o0 14 (oC 2 9 11),o0 15 (oB 2 14),o0 7 (.alloc [.int .i64 0,.int .i64 0]),o4 6 13,o1 (.store 2 (.t 7) (.t 15))]
 (oN [o4 16 1,o4 17 6,o0 18 (oB 2 7),o0 19 (.call (.t 16) [.t 17,.t 18]),o4 8 19]
 (oN [o4 20 8,o0 21 (oG true (.t 20) (o5 0))]
 (.cond (.t 21) (oN [o4 22 6,o4 23 8,o4 4 22,o4 5 23]
 oL)
 .skip)))))
 (.reg [o0 24 (oI 11 1),o4 11 24])))
def Y6:AFunc:=⟨25,[.tmp 4,.tmp 5],
 oN [o0 4 (oA 0),o0 5 (oA 0)]
 (.seq (oN [o4 9 0,o0 10 (oF 9),o0 11 (oA 0)]
 (.block 0 (.loop aDQ)))
 (oN [o0 4 (oA 0),o0 5 (oA 0)]
 oL))⟩
def YM:AFunc:=⟨7,[.tmp 4],
 oN [o0 3 (.box 2 (.t 1)),o0 4 (oA 0)]
 (oN [o0 5 (oB 2 3),o0 6 (oK 346 [(.t 5),(o5 0),(o5 2)]),o4 4 6]
 oL)⟩
def aCP:AFunc:=⟨22,[.tmp 6],
 oN [o0 3 (.box 2 (.t 0)),o0 6 (oA 0)]
 (.seq (.block 0 (oN [o4 8 1,o4 9 2,o0 10 (o8 3 0),o0 11 (o7 10),o0 12 (o8 3 1),o0 13 (o7 12),o0 14 (.mklit 1 [.t 11,.t 13]),o0 15 (oK 232 [.t 8,.t 9,.t 14]),o4 7 15]
 (.cond (.t 7) (oN [o0 6 (oA 7)]
 oL)
 (oN [o0 17 (o8 3 0),o0 18 (o7 17),o0 19 (o8 3 1),o0 20 (o7 19),o0 21 (.bin .gtr (.t 18) (.t 20)),o4 16 21]
 (.cond (.t 16) (oN [o0 6 (oA 2)]
 oL)
 .skip)))))
 (oN [o0 6 (oA 0)]
 oL))⟩
def aCW:ACode:=oN [o0 12 (oH 11 10)]
 (.seq (.cond (.t 12) .skip
 (oM 0))
 (.seq (.block 1 (.seq (.reg [o4 13 11,o0 14 (oC 4 9 11),o0 15 (oB 4 14),⟨some 7,.alloc [.str ⟨#[]⟩,.int .i64 0,.int .i64 0,.int .i64 0],none⟩,o4 6 13,o1 (.store 4 (.t 7) (.t 15))])
 (oN [o4 16 1,o4 17 6,o0 18 (oB 4 7),o0 19 (.call (.t 16) [.t 17,.t 18]),o4 8 19]
 (oN [o4 20 8,o0 21 (oG true (.t 20) (o5 0))]
 (.cond (.t 21) (oN [o4 22 6,o4 23 8,o4 4 22,o4 5 23]
 oL)
 .skip)))))
 (.reg [o0 24 (oI 11 1),o4 11 24])))
def aDP:AFunc:=⟨25,[.tmp 4,.tmp 5],
 oN [o0 4 (oA 0),o0 5 (oA 0)]
 (.seq (oN [o4 9 0,o0 10 (oF 9),o0 11 (oA 0)]
 (.block 0 (.loop aCW)))
 (oN [o0 4 (oA 0),o0 5 (oA 0)]
 oL))⟩
def W5:AFunc:=⟨32,[.tmp 5],
 oN [o0 4 (.box 4 (.t 1)),o0 5 (oA 0)]
 (oN [o0 7 (o8 4 1),o0 8 (oB 2 7),o0 9 (o8 2 0),o0 10 (o7 9),o0 11 (oF 10),o0 12 (.bin .sub (.t 11) (o5 1)),o0 13 (oK 346 [(.t 8),(o5 0),(.t 12)]),o4 6 13]
 (.seq (.block 0 (oN [o0 15 (o8 4 0),o0 16 (o7 15),o0 17 (oK 111 [.t 16]),o0 18 (.not (.t 17)),o4 14 18]
 (.cond (.t 14) (oN [o0 5 (oA 6)]
 oL)
 (oN [o0 20 (o8 2 5),o0 21 (o7 20),o4 22 0,o0 23 (.slicev 4 (.t 21) none (some (.t 22)) none),o0 24 (.mkfun 350 [] [.t 4]),o0 25 (oK 349 [.t 23,.t 24]),o4 19 25]
 (.cond (.t 19) (oN [o0 5 (oA 5)]
 oL)
 (oN [o0 27 (o8 4 3),o0 28 (o7 27),o0 29 (.mklit 1 [.t 28]),o0 30 (oK 232 [(o5 1),(o5 99),(.t 29)]),o4 26 30]
 (.cond (.t 26) (oN [o0 5 (oA 7)]
 oL)
 .skip)))))))
 (oN [o4 31 6,o4 5 31]
 oL)))⟩
def XW:AFunc:=⟨9,[.tmp 4],
 oN [o0 4 (.mov (.c (.bool false)))]
 (oN [o4 5 0,o4 6 1,o0 7 (oK 466 [.t 5,.t 6]),o0 8 (.bin .geq (.t 7) (o5 0)),o4 4 8]
 oL)⟩
def aCX:AFunc:=⟨9,[.tmp 3],
 oN [o0 2 (.box 4 (.t 0)),o0 3 (.mov (.c (.bool false)))]
 (oN [o0 4 (o8 2 0),o0 5 (o7 4),o0 6 (o8 1 0),o0 7 (o7 6),o0 8 (.eql (.one .s) false (.t 5) (.t 7)),o4 3 8]
 oL)⟩
def XP:ACode:=oN [o0 12 (oH 11 10)]
 (.seq (.cond (.t 12) .skip
 (oM 0))
 (.seq (.block 1 (oN [o4 13 11,o0 14 (oC 3 9 11),o0 15 (oB 3 14),o0 7 (.alloc [.int .i64 0,.int .i64 0,.int .i64 0]),o4 6 13,o1 (.store 3 (.t 7) (.t 15))]
 (oN [o4 16 1,o4 17 6,o0 18 (oB 3 7),o0 19 (.call (.t 16) [.t 17,.t 18]),o4 8 19]
 (oN [o4 20 8,o0 21 (oG true (.t 20) (o5 0))]
 (.cond (.t 21) (oN [o4 22 6,o4 23 8,o4 4 22,o4 5 23]
 oL)
 .skip)))))
 (.reg [o0 24 (oI 11 1),o4 11 24])))
def ZY:AFunc:=⟨25,[.tmp 4,.tmp 5],
 oN [o0 4 (oA 0),o0 5 (oA 0)]
 (.seq (oN [o4 9 0,o0 10 (oF 9),o0 11 (oA 0)]
 (.block 0 (.loop XP)))
 (oN [o0 4 (oA 0),o0 5 (oA 0)]
 oL))⟩
def aBY:AFunc:=⟨29,[.tmp 5],
 oN [o0 4 (.box 3 (.t 1)),o0 5 (oA 0)]
 (.seq (.block 0 (oN [o0 7 (o8 2 5),o0 8 (o7 7),o0 9 (oF 8),o0 10 (.bin .sub (.t 9) (o5 1)),o0 11 (o8 4 0),o0 12 (o7 11),o0 13 (.mklit 1 [.t 12]),o0 14 (oK 232 [(o5 0),(.t 10),(.t 13)]),o4 6 14]
 (.cond (.t 6) (oN [o0 5 (oA 4)]
 oL)
 (oN [o0 16 (o8 2 0),o0 17 (o7 16),o0 18 (oF 17),o0 19 (o8 4 1),o0 20 (o7 19),o0 21 (.mklit 1 [.t 20]),o0 22 (oK 232 [(o5 0),(.t 18),(.t 21)]),o4 23 22,o2 24 (o8 4 2) 23 false,o2 25 (o7 24) 23 false,o2 26 (.mklit 1 [.t 25]) 23 false,o2 27 (oK 232 [(o5 0),(o5 30),(.t 26)]) 23 false,o0 28 (.pick (.t 23) (.c (.bool true)) (.t 27)),o4 15 28]
 (.cond (.t 15) (oN [o0 5 (oA 7)]
 oL)
 .skip)))))
 (oN [o0 5 (oA 0)]
 oL))⟩
def X5:AFunc:=⟨4,[.tmp 2],
 oN [o0 1 (.box 1 (.t 0)),o0 2 (.mov (.c (.nilFunc)))]
 (oN [o0 3 (.mkfun 467 [] [.t 1]),o4 2 3]
 oL)⟩
def aAE:ACode:=oN [o0 43 (oH 42 41)]
 (.seq (.cond (.t 43) .skip
 (oM 4))
 (.seq (.block 5 (oN [o4 44 42,o0 45 (oC 3 40 42),o0 46 (oB 3 45),o0 11 (.alloc [.int .i64 0,.int .i64 0,.int .i64 0]),o4 10 44,o1 (.store 3 (.t 11) (.t 46))]
 (.seq (.dreg [o3 47 (o9 7) 0 1,o3 48 (o8 11 1) 0 1,o3 49 (o7 48) 0 1,o3 50 (o9 6) 0 0,o3 51 (oB 7 3) 0 0,o3 52 (o9 9) 0 0,o3 53 (o8 11 1) 0 0,o3 54 (o7 53) 0 0,o3 55 (.call (.t 50) [.t 51,.t 52,.t 54]) 0 1,o3 56 (.build [.int .i64 0,.int .i64 0,.int .i64 0] [(0,1,(.t 47)),(1,1,(.t 49)),(2,1,(.t 55))]) 1 1,o3 12 (.alloc [.int .i64 0,.int .i64 0,.int .i64 0]) 0 1,⟨o1 (.store 3 (.t 12) (.t 56)),1,2⟩])
 (oN [o0 57 (o8 11 0),o0 58 (o7 57),o4 59 7,o0 60 (oG false (.t 58) (.t 59)),o4 61 60,o2 62 (o9 0) 61 true,o2 63 (.nilCheck (.t 62)) 61 true,o2 64 (o8 63 7) 61 true,o2 65 (o7 64) 61 true,o2 66 (o9 10) 61 true,o2 67 (.bin .shr (.t 65) (.t 66)) 61 true,o2 68 (.bin .and (.t 67) (o5 1)) 61 true,o2 69 (oG false (.t 68) (o5 0)) 61 true,o0 70 (.pick (.t 61) (.t 69) (.c (.bool false))),o4 71 70,o2 72 (oB 3 11) 71 true,o2 73 (oB 3 12) 71 true,o2 74 (.eql (.agg [.i,.i,.i]) true (.t 72) (.t 73)) 71 true,o0 75 (.pick (.t 71) (.t 74) (.c (.bool false)))]
 (.cond (.t 75) (oM 3)
 .skip)))))
 (.reg [o0 76 (oI 42 1),o4 42 76])))
def aAG:ACode:=.seq (oN [o4 29 9,o0 30 (o8 8 1),o0 31 (o8 30 1),o0 32 (o7 31),o0 33 (.bin .leq (.t 29) (.t 32))]
 (.cond (.t 33) .skip
 (oM 2)))
 (.seq (.block 3 (.seq (oN [o4 36 0,o0 37 (.nilCheck (.t 36)),o0 38 (o8 37 0),o0 39 (o8 38 6),o0 40 (o7 39),o0 41 (oF 40),o0 42 (oA 0)]
 (.block 4 (.loop aAE)))
 (.dreg [o3 77 (o9 7) 0 0,o3 78 (.iaddr (some 4) 1 (.t 4) (.t 77)) 0 0,o3 79 (o7 78) 0 0,o3 80 (o9 9) 0 0,o3 81 (.bin .shl (o5 1) (.t 80)) 0 0,o3 82 (.bin .or (.t 79) (.t 81)) 0 0,o3 83 (.iaddr (some 4) 1 (.t 4) (.t 77)) 0 0,⟨o1 (.store 1 (.t 83) (.t 82)),0,1⟩])))
 (.reg [o4 34 9,o0 35 (oI 34 1),o4 9 35]))
def Z2:ACode:=oN [o0 22 (oH 21 20)]
 (.seq (.cond (.t 22) .skip
 (oM 0))
 (.seq (.block 1 (.seq (.reg [o4 23 21,o0 24 (oC 4 19 21),o0 25 (oB 4 24),⟨some 8,.alloc [.str ⟨#[]⟩,.int .i64 0,.int .i64 0,.int .i64 0],none⟩,o4 7 23,o1 (.store 4 (.t 8) (.t 25))])
 (.scope (.seq .skip
 (.seq (oN [o0 26 (o8 8 1),o0 27 (o8 26 0),o0 28 (o7 27),o4 9 28]
 (.block 2 (.loop aAG)))
 (oN [o4 84 7,o0 85 (.iaddr (some 4) 1 (.t 4) (.t 84)),o0 86 (o7 85),o0 87 (oG false (.t 86) (o5 0))]
 (.cond (.t 87) (oN [o0 88 (oB 4 4),o1 (.store 4 (.t 4) (.t 88)),o0 5 (.mov (.c (.bool false)))]
 oL)
 .skip)))))))
 (.reg [o0 89 (oI 21 1),o4 21 89])))
def ZV:AFunc:=⟨91,[.cell 4 (some 4),.tmp 5],
 oN [o0 3 (.box 7 (.t 1)),o0 4 (.alloc [.int .i64 0,.int .i64 0,.int .i64 0,.int .i64 0]),o0 5 (.mov (.c (.bool false)))]
 (oN [o4 13 0,o0 14 (.mkfun 234 [.t 13] []),o4 6 14]
 (.seq (oN [o4 15 0,o0 16 (.nilCheck (.t 15)),o0 17 (o8 16 0),o0 18 (o8 17 5),o0 19 (o7 18),o0 20 (oF 19),o0 21 (oA 0)]
 (.block 0 (.loop Z2)))
 (oN [o0 90 (oB 4 4),o1 (.store 4 (.t 4) (.t 90)),o0 5 (.mov (.c (.bool true)))]
 oL)))⟩
def MP:AFunc:=⟨9,[.tmp 4],
 oN [o0 4 (.mov (.c (.bool false)))]
 (oN [o4 5 0,o4 6 1,o0 7 (oK 257 [.t 5,.t 6]),o0 8 (.bin .geq (.t 7) (o5 0)),o4 4 8]
 oL)⟩
def aCJ:AFunc:=⟨13,[.tmp 4],
 oN [o0 4 (.mov (.c (.bool false)))]
 (oN [o4 5 0,o0 6 (o7 1),o0 7 (oH 5 6),o4 8 7,o2 9 (o9 0) 8 false,o2 10 (o7 2) 8 false,o2 11 (.bin .gtr (.t 9) (.t 10)) 8 false,o0 12 (.pick (.t 8) (.c (.bool true)) (.t 11)),o4 4 12]
 oL)⟩
def ML:AFunc:=⟨13,[.tmp 4],
 oN [o0 4 (.mov (.c (.bool false)))]
 (oN [o4 5 0,o0 6 (o7 1),o0 7 (oH 5 6),o4 8 7,o2 9 (o9 0) 8 false,o2 10 (o7 2) 8 false,o2 11 (.bin .gtr (.t 9) (.t 10)) 8 false,o0 12 (.pick (.t 8) (.c (.bool true)) (.t 11)),o4 4 12]
 oL)⟩
def P0:AFunc:=⟨6,[.tmp 2],
 oN [o0 2 (.mov (.c (.bool false)))]
 (oN [o4 3 0,o4 4 0,o0 5 (oG true (.t 3) (.t 4)),o4 2 5]
 oL)⟩
def aD3:AFunc:=⟨18,[.tmp 4],
 oN [o0 2 (.box 5 (.t 0)),o0 4 (oA 0)]
 (.seq (oN [o4 5 1]
 (.block 0 (oN [o0 7 (o8 2 0),o0 8 (o7 7),o0 9 (oG false (.t 5) (.t 8)),o4 6 9]
 (.cond (.t 6) (oN [o0 10 (o8 2 1),o0 11 (o7 10),o4 4 11]
 oL)
 (oN [o0 13 (o8 2 1),o0 14 (o7 13),o0 15 (oG false (.t 5) (.t 14)),o4 12 15]
 (.cond (.t 12) (oN [o0 16 (o8 2 0),o0 17 (o7 16),o4 4 17]
 oL)
 .skip))))))
 (oN [o0 4 (.mov (.c (.int .i64 (-1))))]
 oL))⟩
def W8:ACode:=oN [o0 12 (oH 11 10)]
 (.seq (.cond (.t 12) .skip
 (oM 0))
 (.seq (.block 1 (oN [o4 13 11,o0 14 (oC 5 9 11),o0 15 (oB 5 14),o0 7 (.alloc [.int .i64 0,.int .i64 0,.int .i64 0,.int .i64 0,.int .i64 0]),o4 6 13,o1 (.store 5 (.t 7) (.t 15))]
 (oN [o4 16 1,o4 17 6,o0 18 (oB 5 7),o0 19 (.call (.t 16) [.t 17,.t 18]),o4 8 19]
 (oN [o4 20 8,o0 21 (oG true (.t 20) (o5 0))]
 (.cond (.t 21) (oN [o4 22 6,o4 23 8,o4 4 22,o4 5 23]
 oL)
 .skip)))))
 (.reg [o0 24 (oI 11 1),o4 11 24])))
def X8:AFunc:=⟨25,[.tmp 4,.tmp 5],
 oN [o0 4 (oA 0),o0 5 (oA 0)]
 (.seq (oN [o4 9 0,o0 10 (oF 9),o0 11 (oA 0)]
 (.block 0 (.loop W8)))
 (oN [o0 4 (oA 0),o0 5 (oA 0)]
 oL))⟩
def aDL:AFunc:=⟨45,[.tmp 5],
 oN [o0 4 (.box 5 (.t 1)),o0 5 (oA 0)]
 (.seq (.block 0 (oN [o0 7 (o7 2),o0 8 (o8 4 0),o0 9 (o7 8),o0 10 (o8 4 1),o0 11 (o7 10),o0 12 (.mklit 1 [.t 9,.t 11]),o0 13 (oK 317 [(o5 0),(.t 7),(.t 12)]),o4 6 13]
 (.cond (.t 6) (oN [o0 5 (oA 4)]
 oL)
 (oN [o0 15 (o8 4 0),o0 16 (o7 15),o0 17 (o8 4 1),o0 18 (o7 17),o0 19 (oG false (.t 16) (.t 18)),o4 14 19]
 (.cond (.t 14) (oN [o0 5 (oA 2)]
 oL)
 (oN [o0 21 (o8 4 2),o0 22 (o8 21 0),o0 23 (o7 22),o0 24 (o8 4 2),o0 25 (o8 24 1),o0 26 (o7 25),o0 27 (.mklit 1 [.t 23,.t 26]),o0 28 (oK 317 [(o5 1),(o5 20),(.t 27)]),o4 29 28,o2 30 (o8 4 4) 29 false,o2 31 (o7 30) 29 false,o2 32 (.mklit 1 [.t 31]) 29 false,o2 33 (oK 317 [(o5 0),(o5 2),(.t 32)]) 29 false,o0 34 (.pick (.t 29) (.c (.bool true)) (.t 33)),o4 20 34]
 (.cond (.t 20) (oN [o0 5 (oA 7)]
 oL)
 (oN [o0 36 (o8 4 2),o0 37 (o8 36 1),o0 38 (o7 37),o0 39 (o8 4 2),o0 40 (o8 39 0),o0 41 (o7 40),o0 42 (.bin .sub (.t 38) (.t 41)),o0 43 (.mklit 1 [.t 42]),o0 44 (oK 317 [(o5 0),(o5 1),(.t 43)]),o4 35 44]
 (.cond (.t 35) (oN [o0 5 (oA 2)]
 oL)
 .skip)))))))))
 (oN [o0 5 (oA 0)]
 oL))⟩
def aEJ:ACode:=oN [o0 12 (oH 11 10)]
 (.seq (.cond (.t 12) .skip
 (oM 0))
 (.seq (.block 1 (.seq (.reg [o4 13 11,o0 14 (oC 5 9 11),o0 15 (oB 5 14),⟨some 7,.alloc [.str ⟨#[]⟩,.int .i64 0,.int .i64 0,.int .i64 0,.lit [] true none],none⟩,o4 6 13,o1 (.store 5 (.t 7) (.t 15))])
 (oN [o4 16 1,o4 17 6,o0 18 (oB 5 7),o0 19 (.call (.t 16) [.t 17,.t 18]),o4 8 19]
 (oN [o4 20 8,o0 21 (oG true (.t 20) (o5 0))]
 (.cond (.t 21) (oN [o4 22 6,o4 23 8,o4 4 22,o4 5 23]
 oL)
 .skip)))))
 (.reg [o0 24 (oI 11 1),o4 11 24])))
def ZN:AFunc:=⟨25,[.tmp 4,.tmp 5],
 oN [o0 4 (oA 0),o0 5 (oA 0)]
 (.seq (oN [o4 9 0,o0 10 (oF 9),o0 11 (oA 0)]
 (.block 0 (.loop aEJ)))
 (oN [o0 4 (oA 0),o0 5 (oA 0)]
 oL))⟩
def Z8:AFunc:=⟨63,[.tmp 6],
 oN [o0 5 (.box 5 (.t 1)),o0 6 (oA 0)]
 (.seq (.block 0 (oN [o0 10 (o8 5 0),o0 11 (o7 10),o0 12 (oK 111 [.t 11]),o0 13 (.not (.t 12)),o4 9 13]
 (.cond (.t 9) (oN [o0 6 (oA 6)]
 oL)
 (oN [o0 15 (o8 2 2),o0 16 (o7 15),o4 17 0,o0 18 (.slicev 5 (.t 16) none (some (.t 17)) none),o0 19 (.mkfun 425 [] [.t 5]),o0 20 (oK 424 [.t 18,.t 19]),o4 14 20]
 (.cond (.t 14) (oN [o0 6 (oA 5)]
 oL)
 (oN [o0 22 (o7 3),o0 23 (o8 5 1),o0 24 (o7 23),o0 25 (.mklit 1 [.t 24]),o0 26 (oK 317 [(o5 0),(.t 22),(.t 25)]),o4 21 26]
 (.cond (.t 21) (oN [o0 6 (oA 4)]
 oL)
 (oN [o0 28 (o8 5 2),o0 29 (o7 28),o0 30 (.mklit 1 [.t 29]),o0 31 (oK 317 [(o5 0),(o5 60),(.t 30)]),o4 32 31,o2 33 (o8 5 3) 32 false,o2 34 (o7 33) 32 false,o2 35 (.mklit 1 [.t 34]) 32 false,o2 36 (oK 317 [(o5 0),(o5 400),(.t 35)]) 32 false,o0 37 (.pick (.t 32) (.c (.bool true)) (.t 36)),o4 27 37]
 (.cond (.t 27) (oN [o0 6 (oA 7)]
 oL)
 (oN [o0 39 (o8 5 4),o0 40 (o7 39),o0 41 (oF 40),o0 42 (.mklit 1 [.t 41]),o0 43 (oK 317 [(o5 1),(o5 4),(.t 42)]),o4 38 43]
 (.cond (.t 38) (oN [o0 6 (oA 3)]
 oL)
 (oN [o0 45 (o8 2 1),o0 46 (o7 45),o0 47 (oF 46),o0 48 (.bin .sub (.t 47) (o5 1)),o0 49 (o8 5 4),o0 50 (o7 49),o0 51 (oK 317 [(o5 0),(.t 48),(.t 50)]),o4 44 51]
 (.cond (.t 44) (oN [o0 6 (oA 4)]
 oL)
 .skip)))))))))))))
 (.seq (oN [o0 53 (oB 4 2),o0 54 (o8 5 1),o0 55 (o7 54),o0 56 (o8 5 4),o0 57 (o7 56),o0 58 (oK 426 [.t 53,.t 55,.t 57]),o4 52 58,o0 59 (oD 52 0),o0 60 (oD 52 1),o4 7 59,o4 8 60]
 (oN [o4 61 7,o0 62 (.not (.t 61))]
 (.cond (.t 62) (oN [o0 6 (oA 2)]
 oL)
 .skip)))
 (oN [o0 6 (oA 0)]
 oL)))⟩
def aB7:AFunc:=⟨9,[.tmp 4],
 oN [o0 4 (.mov (.c (.bool false)))]
 (oN [o4 5 0,o4 6 1,o0 7 (oK 482 [.t 5,.t 6]),o0 8 (.bin .geq (.t 7) (o5 0)),o4 4 8]
 oL)⟩
def Y8:AFunc:=⟨9,[.tmp 3],
 oN [o0 2 (.box 5 (.t 0)),o0 3 (.mov (.c (.bool false)))]
 (oN [o0 4 (o8 2 0),o0 5 (o7 4),o0 6 (o8 1 0),o0 7 (o7 6),o0 8 (.eql (.one .s) false (.t 5) (.t 7)),o4 3 8]
 oL)⟩
def W2:ACode:=oN [o0 16 (oH 15 14)]
 (.seq (.cond (.t 16) .skip
 (oM 0))
 (.seq (.block 1 (oN [o0 17 (oC 1 13 15),o0 18 (o7 17),o4 10 18]
 (.seq (oN [o4 19 1,o0 20 (oG true (.t 19) (o5 0))]
 (.cond (.t 20) (oN [o0 21 (o8 3 1),o0 22 (o7 21),o4 23 10,o0 24 (oC 5 22 23),o0 25 (oB 5 24),o4 26 1,o0 27 (oK 483 [.t 25,.t 26]),o4 1 27]
 (oN [o4 28 1,o0 29 (.bin .geq (.t 28) (o5 0)),o4 30 29,o2 31 (o9 8) 30 true,o2 32 (o9 1) 30 true,o2 33 (.bin .shr (.t 31) (.t 32)) 30 true,o2 34 (.bin .and (.t 33) (o5 1)) 30 true,o2 35 (oG false (.t 34) (o5 0)) 30 true,o0 36 (.pick (.t 30) (.t 35) (.c (.bool false)))]
 (.cond (.t 36) (oN [o4 37 8,o4 38 1,o0 39 (.bin .shl (o5 1) (.t 38)),o0 40 (.bin .or (.t 37) (.t 39)),o4 8 40]
 (oM 1))
 .skip)))
 .skip))
 (oN [o0 6 (.mov (.c (.bool false))),o0 7 (.mov (.c (.bool false)))]
 oL))))
 (.reg [o0 41 (oI 15 1),o4 15 41])))
def ZO:AFunc:=⟨51,[.tmp 6,.tmp 7],
 oN [o0 3 (.box 4 (.t 0)),o0 6 (.mov (.c (.bool false))),o0 7 (.mov (.c (.bool false)))]
 (.scope (oN [o4 11 1,o0 12 (.bin .shl (o5 1) (.t 11)),o4 8 12]
 (.seq .skip
 (.seq (oN [o4 13 2,o0 14 (oF 13),o0 15 (oA 0)]
 (.block 0 (.loop W2)))
 (oN [o4 42 1,o0 43 (oG false (.t 42) (o5 0)),o4 44 43,o2 45 (o9 2) 44 true,o2 46 (oF 45) 44 true,o2 47 (.bin .gtr (.t 46) (o5 0)) 44 true,o0 48 (.pick (.t 44) (.t 47) (.c (.bool false))),o4 49 1,o0 50 (oG true (.t 49) (o5 0)),o4 6 48,o4 7 50]
 oL)))))⟩
def YB:ACode:=oN [o0 12 (oH 11 10)]
 (.seq (.cond (.t 12) .skip
 (oM 0))
 (.seq (.block 1 (oN [o4 13 11,o0 14 (oC 2 9 11),o0 15 (oB 2 14),o0 7 (.alloc [.int .i64 0,.int .i64 0]),o4 6 13,o1 (.store 2 (.t 7) (.t 15))]
 (oN [o4 16 1,o4 17 6,o0 18 (oB 2 7),o0 19 (.call (.t 16) [.t 17,.t 18]),o4 8 19]
 (oN [o4 20 8,o0 21 (oG true (.t 20) (o5 0))]
 (.cond (.t 21) (oN [o4 22 6,o4 23 8,o4 4 22,o4 5 23]
 oL)
 .skip)))))
 (.reg [o0 24 (oI 11 1),o4 11 24])))
def aCT:AFunc:=⟨25,[.tmp 4,.tmp 5],
 oN [o0 4 (oA 0),o0 5 (oA 0)]
 (.seq (oN [o4 9 0,o0 10 (oF 9),o0 11 (oA 0)]
 (.block 0 (.loop YB)))
 (oN [o0 4 (oA 0),o0 5 (oA 0)]
 oL))⟩
def XX:AFunc:=⟨20,[.tmp 5],
 oN [o0 4 (.box 2 (.t 1)),o0 5 (oA 0)]
 (.seq (.block 0 (oN [o0 7 (o8 2 2),o0 8 (o7 7),o0 9 (oF 8),o0 10 (.bin .sub (.t 9) (o5 1)),o0 11 (o8 4 0),o0 12 (o7 11),o0 13 (.mklit 1 [.t 12]),o0 14 (oK 317 [(o5 0),(.t 10),(.t 13)]),o4 6 14]
 (.cond (.t 6) (oN [o0 5 (oA 4)]
 oL)
 (oN [o0 16 (o8 4 1),o0 17 (o7 16),o0 18 (.mklit 1 [.t 17]),o0 19 (oK 317 [(.c (.int .i64 (-1))),(o5 400),(.t 18)]),o4 15 19]
 (.cond (.t 15) (oN [o0 5 (oA 7)]
 oL)
 .skip)))))
 (oN [o0 5 (oA 0)]
 oL))⟩
def ZW:AFunc:=⟨13,[.tmp 4],
 oN [o0 4 (.mov (.c (.bool false)))]
 (oN [o4 5 0,o0 6 (o7 1),o0 7 (oH 5 6),o4 8 7,o2 9 (o9 0) 8 false,o2 10 (o7 2) 8 false,o2 11 (.bin .gtr (.t 9) (.t 10)) 8 false,o0 12 (.pick (.t 8) (.c (.bool true)) (.t 11)),o4 4 12]
 oL)⟩
def XI:AFunc:=⟨12,[],
 oN [o0 2 (.box 1 (.t 0))]
 (oN [o0 3 (.alloc [.int .i64 0,.int .i64 0,.int .i64 0,.int .i64 0,.int .i64 0]),o0 4 (.alloc [.int .i64 0,.int .i64 0,.int .i64 0,.int .i64 0,.int .i64 0])]
 (oN [o0 5 (.alloc [.bool false]),o1 (.store 1 (.t 5) (.c (.bool true)))]
 (oN [o0 8 (oK 431 []),o0 6 (.alloc [.nilFunc,.nilFunc,.nilFunc]),o1 (.store 3 (.t 6) (.t 8))]
 (oN [o0 7 (.alloc [.nilFunc])]
 (oN [o0 9 (.mkfun 432 [] [.t 1,.t 3,.t 4,.t 5,.t 2,.t 6,.t 7]),o1 (.store 1 (.t 7) (.t 9))]
 (.reg [o0 10 (o7 7),o0 11 (.call (.t 10) [(o5 0)])]))))))⟩
def aB5:AFunc:=⟨8,[.cell 0 (some 3)],
 oN [o0 0 (.alloc [.nilFunc,.nilFunc,.nilFunc])]
 (oN [o0 1 (.build [.nilFunc] [(0,1,(o6 484))]),o0 2 (.iaddr (some 3) 1 (.t 0) (o5 0)),o1 (.store 1 (.t 2) (.t 1))]
 (oN [o0 3 (.build [.nilFunc] [(0,1,(o6 485))]),o0 4 (.iaddr (some 3) 1 (.t 0) (o5 1)),o1 (.store 1 (.t 4) (.t 3))]
 (oN [o0 5 (.build [.nilFunc] [(0,1,(o6 486))]),o0 6 (.iaddr (some 3) 1 (.t 0) (o5 2)),o1 (.store 1 (.t 6) (.t 5))]
 (oN [o0 7 (oB 3 0),o1 (.store 3 (.t 0) (.t 7))]
 oL))))⟩
def KY:ACode:=oN [o0 61 (oH 60 59)]
 (.seq (.cond (.t 61) .skip
 (oM 0))
 (.seq (.block 1 (oN [o4 62 60,o0 63 (oC 2 58 60),o0 64 (oB 2 63),o0 13 (.alloc [.int .i64 0,.int .i64 0]),o4 12 62,o1 (.store 2 (.t 13) (.t 64))]
 (.seq (.dreg [o3 65 (o7 1) 0 0,o3 66 (.nilCheck (.t 65)) 0 0,o3 67 (o8 66 4) 0 0,o3 68 (o7 67) 0 0,o3 69 (o9 12) 0 0,o3 70 (.bin .shr (.t 68) (.t 69)) 0 0,o3 71 (.bin .and (.t 70) (o5 1)) 0 0,o3 72 (oG false (.t 71) (o5 0)) 0 0,o3 73 (o9 72) 0 0,⟨o2 74 (o8 13 0) 73 true,0,0⟩,⟨o2 75 (o7 74) 73 true,0,0⟩,⟨o2 76 (.iaddr (some 3) 1 (.t 10) (.t 75)) 73 true,0,0⟩,⟨o2 77 (o7 76) 73 true,0,0⟩,⟨o2 78 (o8 13 1) 73 true,0,0⟩,⟨o2 79 (o7 78) 73 true,0,0⟩,⟨o2 80 (oG true (.t 77) (.t 79)) 73 true,0,0⟩,o3 81 (.pick (.t 73) (.t 80) (.c (.bool false))) 0 0])
 (.cond (.t 81) (oN [o0 9 (.mov (.c (.bool true)))]
 oL)
 .skip))))
 (.reg [o0 82 (oI 60 1),o4 60 82])))
def GT:ACode:=.seq (oN [o4 111 15,o0 112 (o8 14 2),o0 113 (o8 112 1),o0 114 (o7 113),o0 115 (.bin .leq (.t 111) (.t 114)),o4 116 115,o2 117 (o8 14 4) 116 true,o2 118 (o7 117) 116 true,o2 119 (.iaddr (some 3) 1 (.t 6) (.t 118)) 116 true,o2 120 (o8 119 0) 116 true,o2 121 (o7 120) 116 true,o2 122 (.call (.t 121) [(.c (.bool false))]) 116 true,o0 123 (.pick (.t 116) (.t 122) (.c (.bool false)))]
 (.cond (.t 123) .skip
 (oM 2)))
 (.seq (.block 3 (oN [o4 126 0,o4 127 15,o0 128 (.iaddr (some 5) 1 (.t 2) (.t 126)),o1 (.store 1 (.t 128) (.t 127))]
 (oN [o0 129 (o7 7),o4 130 0,o0 131 (oI 130 1),o0 132 (.call (.t 129) [.t 131]),o0 133 (.not (.t 132))]
 (.cond (.t 133) (oN [o0 9 (.mov (.c (.bool false)))]
 oL)
 .skip))))
 (.reg [o4 124 15,o0 125 (oI 124 1),o4 15 125]))
def CY:AFunc:=⟨136,[.tmp 9],
 oN [o0 9 (.mov (.c (.bool false)))]
 (.seq (oN [o4 16 0,o0 17 (o7 1),o0 18 (.nilCheck (.t 17)),o0 19 (o8 18 0),o0 20 (o8 19 1),o0 21 (o7 20),o0 22 (oF 21),o0 23 (oG false (.t 16) (.t 22))]
 (.cond (.t 23) (.seq (oN [o0 24 (oB 5 2),o0 25 (oB 5 3),o0 26 (.eql (.agg [.i,.i,.i,.i,.i]) false (.t 24) (.t 25)),o4 27 26,o2 28 (o7 4) 27 true,o2 29 (.not (.t 28)) 27 true,o0 30 (.pick (.t 27) (.t 29) (.c (.bool false)))]
 (.cond (.t 30) (oN [o0 9 (.mov (.c (.bool true)))]
 oL)
 .skip))
 (.seq (.dreg [o3 31 (oB 5 2) 0 1,⟨o1 (.store 1 (.t 4) (.c (.bool false))),0,1⟩,⟨o1 (.store 5 (.t 3) (.t 31)),1,2⟩])
 (.seq (.dreg [o3 33 (o7 1) 0 0,o3 34 (.nilCheck (.t 33)) 0 0,o3 35 (o8 34 5) 0 0,o3 36 (o7 35) 0 0,o3 37 (oB 5 2) 0 0,o3 38 (.lookup (.agg [.i,.i,.i,.i,.i]) true (.agg [.int .i64 0,.int .i64 0,.int .i64 0]) (.t 36) (.t 37)) 0 0,o3 32 (o9 38) 0 0,o3 39 (oD 32 0) 0 0,o3 40 (oD 32 1) 0 1,o3 10 (.alloc [.int .i64 0,.int .i64 0,.int .i64 0]) 0 0,⟨o1 (.store 3 (.t 10) (.t 39)),0,1⟩,o3 11 (o9 40) 1 1])
 (.seq (oN [o4 41 11,o0 42 (.not (.t 41))]
 (.cond (.t 42) (oN [o0 43 (o7 1),o0 44 (oB 5 2),o0 45 (o7 1),o0 46 (.mkfun 434 [.t 45] []),o0 47 (oK 433 [.t 43,.t 44,.t 46]),o1 (.store 3 (.t 10) (.t 47))]
 (.dreg [o3 48 (o7 1) 0 0,o3 49 (.nilCheck (.t 48)) 0 0,o3 50 (o8 49 5) 0 0,o3 51 (o7 50) 0 0,o3 52 (oB 5 2) 0 0,o3 53 (oB 3 10) 0 0,⟨o1 (.mapset (.agg [.i,.i,.i,.i,.i]) (.t 51) (.t 52) (.t 53)),0,1⟩]))
 .skip))
 (.seq (oN [o0 54 (o7 1),o0 55 (.nilCheck (.t 54)),o0 56 (o8 55 0),o0 57 (o8 56 3),o0 58 (o7 57),o0 59 (oF 58),o0 60 (oA 0)]
 (.block 0 (.loop KY)))
 (oN [o0 83 (o7 5),o0 84 (oB 5 2),o0 85 (oB 3 10),o0 86 (.call (.t 83) [.t 84,.t 85]),o4 9 86]
 oL))))))
 .skip))
 (oN [o0 87 (o7 1),o0 88 (.nilCheck (.t 87)),o0 89 (o8 88 0),o0 90 (o8 89 1),o0 91 (o7 90),o4 92 0,o0 93 (oC 5 91 92),o0 94 (oB 5 93),o0 14 (.alloc [.int .i64 0,.int .i64 0,.int .i64 0,.int .i64 0,.int .i64 0]),o1 (.store 5 (.t 14) (.t 94))]
 (.seq (oN [o0 95 (o8 14 4),o0 96 (o7 95),o0 97 (.iaddr (some 3) 1 (.t 6) (.t 96)),o0 98 (o8 97 0),o0 99 (o7 98),o0 100 (.call (.t 99) [(.c (.bool true))])]
 (.cond (.t 100) (oN [o4 101 0,o0 102 (.iaddr (some 5) 1 (.t 2) (.t 101)),o1 (.store 1 (.t 102) (o5 0))]
 (oN [o0 103 (o7 7),o4 104 0,o0 105 (oI 104 1),o0 106 (.call (.t 103) [.t 105]),o0 107 (.not (.t 106))]
 (.cond (.t 107) (oN [o0 9 (.mov (.c (.bool false)))]
 oL)
 .skip)))
 .skip))
 (.seq (oN [o0 108 (o8 14 2),o0 109 (o8 108 0),o0 110 (o7 109),o4 15 110]
 (.block 2 (.loop GT)))
 (oN [o4 134 0,o0 135 (.iaddr (some 5) 1 (.t 2) (.t 134)),o1 (.store 1 (.t 135) (o5 0))]
 (oN [o0 9 (.mov (.c (.bool true)))]
 oL))))))⟩
def QO:ACode:=oN [o0 40 (oH 39 38)]
 (.seq (.cond (.t 40) .skip
 (oM 2))
 (.seq (.block 3 (oN [o0 41 (oC 1 37 39),o0 42 (o7 41),o4 12 42]
 (.seq (.dreg [o3 43 (o9 7) 0 0,o3 44 (o9 12) 0 0,o3 45 (o9 8) 0 0,o3 46 (.iaddr (some 3) 1 (.t 6) (.t 45)) 0 0,o3 47 (o7 46) 0 0,o3 48 (o9 8) 0 0,o3 49 (.iaddr (some 3) 1 (.t 6) (.t 48)) 0 0,o3 50 (o7 49) 0 0,o3 51 (o9 12) 0 0,o3 52 (.iaddr (some 5) 1 (.t 4) (.t 51)) 0 0,o3 53 (o7 52) 0 0,o3 54 (.bin .add (.t 50) (.t 53)) 0 0,o3 55 (.build [.int .i64 0,.int .i64 0,.int .i64 0] [(0,1,(.t 44)),(1,1,(.t 47)),(2,1,(.t 54))]) 0 0,o3 56 (oK 488 [.t 43,.t 55]) 0 1,o3 13 (o9 56) 1 1])
 (oN [o4 57 8,o4 58 13,o4 59 12,o0 60 (.iaddr (some 5) 1 (.t 4) (.t 59)),o0 61 (o7 60),o0 62 (.bin .add (.t 58) (.t 61)),o0 63 (.iaddr (some 3) 1 (.t 6) (.t 57)),o1 (.store 1 (.t 63) (.t 62))]
 (.reg [o4 64 7,o4 65 12,o4 66 13,o4 67 8,o0 68 (.iaddr (some 3) 1 (.t 6) (.t 67)),o0 69 (o7 68),o0 70 (.build [.int .i64 0,.int .i64 0,.int .i64 0] [(0,1,(.t 65)),(1,1,(.t 66)),(2,1,(.t 69))]),o0 71 (.mklit 3 [.t 70]),o0 72 (.append 3 24 (.t 64) (.t 71)),o4 7 72])))))
 (.reg [o0 73 (oI 39 1),o4 39 73])))
def aAB:ACode:=oN [o0 21 (oH 20 19)]
 (.seq (.cond (.t 21) .skip
 (oM 0))
 (.seq (.block 1 (.seq (.reg [o4 22 20,o0 23 (oC 5 18 20),o0 24 (oB 5 23),⟨some 9,.alloc [.str ⟨#[]⟩,.int .i64 0,.int .i64 0,.int .i64 0,.lit [] true none],none⟩,o4 8 22,o1 (.store 5 (.t 9) (.t 24))])
 (oN [o4 25 8,o0 26 (o8 9 2),o0 27 (o7 26),o0 28 (.iaddr (some 3) 1 (.t 6) (.t 25)),o1 (.store 1 (.t 28) (.t 27))]
 (oN [o4 29 2,o4 30 8,o0 31 (.call (.t 29) [.t 30]),o4 10 31]
 (.seq (oN [o4 32 10,o0 33 (.mkfun 487 [] [.t 4]),o0 34 (oK 356 [.t 32,.t 33])]
 (.cond (.t 34) (oN [o4 35 8,o0 36 (.iaddr (some 3) 1 (.t 6) (.t 35)),o1 (.store 1 (.t 36) (.c (.int .i64 (-1))))]
 (oM 1))
 .skip))
 (oN [o4 37 10,o0 38 (oF 37),o0 39 (oA 0)]
 (.block 2 (.loop QO))))))))
 (.reg [o0 74 (oI 20 1),o4 20 74])))
def aDH:AFunc:=⟨76,[.cell 6 (some 3)],
 oN [o0 4 (.box 5 (.t 1)),o0 6 (.alloc [.int .i64 0,.int .i64 0,.int .i64 0])]
 (oN [o0 7 (.mov (.c (.lit [] true none)))]
 (.seq (oN [o4 14 0,o0 15 (.nilCheck (.t 14)),o0 16 (o8 15 0),o0 17 (o8 16 2),o0 18 (o7 17),o0 19 (oF 18),o0 20 (oA 0)]
 (.block 0 (.loop aAB)))
 (oN [o0 75 (oB 3 6),o1 (.store 3 (.t 6) (.t 75))]
 oL)))⟩
def aCS:AFunc:=⟨14,[.tmp 4],
 oN [o0 4 (.mov (.c (.lit [] true none)))]
 (oN [o4 5 0,o0 6 (.nilCheck (.t 5)),o0 7 (o8 6 0),o0 8 (o8 7 2),o0 9 (o7 8),o4 10 1,o0 11 (oC 5 9 10),o0 12 (o8 11 4),o0 13 (o7 12),o4 4 13]
 oL)⟩
def H7:AFunc:=⟨22,[.tmp 6],
 oN [o0 6 (.mov (.c (.bool false)))]
 (oN [o4 7 2,o0 8 (oG true (.t 7) (.c (.int .i64 (-1)))),o4 9 8,o2 10 (o9 2) 9 true,o2 11 (o9 0) 9 true,o2 12 (.nilCheck (.t 11)) 9 true,o2 13 (o8 12 0) 9 true,o2 14 (o8 13 2) 9 true,o2 15 (o7 14) 9 true,o2 16 (o9 1) 9 true,o2 17 (oC 5 15 16) 9 true,o2 18 (o8 17 3) 9 true,o2 19 (o7 18) 9 true,o2 20 (.bin .leq (.t 10) (.t 19)) 9 true,o0 21 (.pick (.t 9) (.t 20) (.c (.bool false))),o4 6 21]
 oL)⟩
def ZR:AFunc:=⟨8,[.tmp 3],
 oN [o0 3 (.mov (.c (.lit [] true none)))]
 (oN [o0 4 (o7 1),o4 5 0,o0 6 (oC 1 4 5),o0 7 (o7 6),o4 3 7]
 oL)⟩
def aAO:AFunc:=⟨22,[.tmp 4],
 oN [o0 3 (.box 2 (.t 1)),o0 4 (oA 0)]
 (.seq (.dreg [o3 5 (o8 3 0) 0 0,o3 6 (o7 5) 0 0,o3 7 (o9 0) 0 0,o3 8 (.nilCheck (.t 7)) 0 0,o3 9 (o8 8 0) 0 0,o3 10 (o8 9 1) 0 0,o3 11 (o7 10) 0 0,o3 12 (.bin .geq (.t 6) (.t 11)) 0 0,o3 13 (o8 3 1) 0 0,o3 14 (o7 13) 0 0,o3 15 (o9 0) 0 0,o3 16 (.nilCheck (.t 15)) 0 0,o3 17 (o8 16 0) 0 0,o3 18 (o8 17 1) 0 0,o3 19 (o7 18) 0 0,o3 20 (oH 14 19) 0 0,o3 21 (oK 444 [.t 12,.t 20]) 0 1,o3 4 (o9 21) 1 1])
 oL)⟩
def WN:AFunc:=⟨9,[.tmp 4],
 oN [o0 4 (oA 0)]
 (.seq (.block 0 (oN [o4 6 0,o4 5 6]
 (.cond (.t 5) (oN [o0 4 (oA 1)]
 oL)
 (oN [o4 8 1,o4 7 8]
 (.cond (.t 7) (oN [o0 4 (oA 2)]
 oL)
 .skip)))))
 (oN [o0 4 (oA 0)]
 oL))⟩
def YC:AFunc:=⟨36,[.tmp 4],
 oN [o0 3 (.box 2 (.t 1)),o0 4 (oA 0)]
 (.seq (.dreg [o3 5 (o8 3 1) 0 0,o3 6 (o7 5) 0 0,o3 7 (o9 0) 0 0,o3 8 (.nilCheck (.t 7)) 0 0,o3 9 (o8 8 0) 0 0,o3 10 (o8 9 3) 0 0,o3 11 (o8 10 1) 0 0,o3 12 (o7 11) 0 0,o3 13 (.bin .add (.t 6) (.t 12)) 0 0,o3 14 (o9 0) 0 0,o3 15 (.nilCheck (.t 14)) 0 0,o3 16 (o8 15 0) 0 0,o3 17 (o8 16 2) 0 0,o3 18 (o7 17) 0 0,o3 19 (.bin .leq (.t 13) (.t 18)) 0 0,o3 20 (o8 3 0) 0 0,o3 21 (o7 20) 0 0,o3 22 (o9 0) 0 0,o3 23 (.nilCheck (.t 22)) 0 0,o3 24 (o8 23 0) 0 0,o3 25 (o8 24 3) 0 0,o3 26 (o8 25 0) 0 0,o3 27 (o7 26) 0 0,o3 28 (.bin .add (.t 21) (.t 27)) 0 0,o3 29 (o9 0) 0 0,o3 30 (.nilCheck (.t 29)) 0 0,o3 31 (o8 30 0) 0 0,o3 32 (o8 31 2) 0 0,o3 33 (o7 32) 0 0,o3 34 (.bin .gtr (.t 28) (.t 33)) 0 0,o3 35 (oK 444 [.t 19,.t 34]) 0 1,o3 4 (o9 35) 1 1])
 oL)⟩
def Z0:ACode:=oN [o0 9 (oH 8 7)]
 (.seq (.cond (.t 9) .skip
 (oM 0))
 (.seq (.block 1 (oN [o4 10 8,o4 5 10]
 (oN [o4 11 1,o4 12 0,o4 13 5,o0 14 (oC 4 12 13),o0 15 (oB 4 14),o0 16 (.call (.t 11) [.t 15])]
 (.cond (.t 16) (oN [o4 17 5,o4 4 17]
 oL)
 .skip))))
 (.reg [o0 18 (oI 8 1),o4 8 18])))
def aC8:AFunc:=⟨19,[.tmp 4],
 oN [o0 4 (oA 0)]
 (.seq (oN [o4 6 0,o0 7 (oF 6),o0 8 (oA 0)]
 (.block 0 (.loop Z0)))
 (oN [o0 4 (.mov (.c (.int .i64 (-1))))]
 oL))⟩
def YD:AFunc:=⟨10,[],
 oN [o0 2 (.box 1 (.t 0))]
 (oN [o0 3 (.alloc [.int .i64 0,.int .i64 0,.int .i64 0,.int .i64 0,.int .i64 0,.int .i64 0,.int .i64 0]),o0 4 (.alloc [.int .i64 0,.int .i64 0,.int .i64 0,.int .i64 0,.int .i64 0,.int .i64 0,.int .i64 0])]
 (oN [o0 5 (.alloc [.bool false]),o1 (.store 1 (.t 5) (.c (.bool true)))]
 (oN [o0 6 (.alloc [.nilFunc])]
 (oN [o0 7 (.mkfun 468 [] [.t 1,.t 5,.t 3,.t 4,.t 2,.t 6]),o1 (.store 1 (.t 6) (.t 7))]
 (.reg [o0 8 (o7 6),o0 9 (.call (.t 8) [(o5 0)])])))))⟩
def ZX:ACode:=.seq (oN [o4 38 9,o0 39 (o7 1),o0 40 (.nilCheck (.t 39)),o0 41 (o8 40 0),o0 42 (o8 41 0),o0 43 (o7 42),o4 44 0,o0 45 (oC 2 43 44),o0 46 (o8 45 1),o0 47 (o7 46),o0 48 (.bin .leq (.t 38) (.t 47))]
 (.cond (.t 48) .skip
 (oM 0)))
 (.seq (.block 1 (oN [o4 51 0,o4 52 9,o0 53 (.iaddr (some 7) 1 (.t 3) (.t 51)),o1 (.store 1 (.t 53) (.t 52))]
 (oN [o0 54 (o7 6),o4 55 0,o0 56 (oI 55 1),o0 57 (.call (.t 54) [.t 56]),o0 58 (.not (.t 57))]
 (.cond (.t 58) (oN [o0 8 (.mov (.c (.bool false)))]
 oL)
 .skip))))
 (.reg [o4 49 9,o0 50 (oI 49 1),o4 9 50]))
def IF:AFunc:=⟨61,[.tmp 8],
 oN [o0 8 (.mov (.c (.bool false)))]
 (.seq (oN [o4 10 0,o0 11 (o7 1),o0 12 (.nilCheck (.t 11)),o0 13 (o8 12 0),o0 14 (o8 13 0),o0 15 (o7 14),o0 16 (oF 15),o0 17 (oG false (.t 10) (.t 16))]
 (.cond (.t 17) (.seq (oN [o0 18 (o7 2),o0 19 (.not (.t 18)),o4 20 19,o2 21 (oB 7 3) 20 true,o2 22 (oB 7 4) 20 true,o2 23 (.eql (.agg [.i,.i,.i,.i,.i,.i,.i]) false (.t 21) (.t 22)) 20 true,o0 24 (.pick (.t 20) (.t 23) (.c (.bool false)))]
 (.cond (.t 24) (oN [o0 8 (.mov (.c (.bool true)))]
 oL)
 .skip))
 (.seq (.dreg [o3 25 (oB 7 3) 0 1,⟨o1 (.store 1 (.t 2) (.c (.bool false))),0,1⟩,⟨o1 (.store 7 (.t 4) (.t 25)),1,2⟩])
 (oN [o0 26 (o7 5),o0 27 (oB 7 3),o0 28 (.call (.t 26) [.t 27]),o4 8 28]
 oL)))
 .skip))
 (.seq (oN [o0 29 (o7 1),o0 30 (.nilCheck (.t 29)),o0 31 (o8 30 0),o0 32 (o8 31 0),o0 33 (o7 32),o4 34 0,o0 35 (oC 2 33 34),o0 36 (o8 35 0),o0 37 (o7 36),o4 9 37]
 (.block 0 (.loop ZX)))
 (oN [o4 59 0,o0 60 (.iaddr (some 7) 1 (.t 3) (.t 59)),o1 (.store 1 (.t 60) (o5 0))]
 (oN [o0 8 (.mov (.c (.bool true)))]
 oL))))⟩
def XL:ACode:=oN [o0 9 (oH 8 7)]
 (.seq (.cond (.t 9) .skip
 (oM 0))
 (.seq (.block 1 (oN [o4 10 8,o4 5 10]
 (oN [o4 11 1,o4 12 0,o4 13 5,o0 14 (oC 5 12 13),o0 15 (oB 5 14),o0 16 (.call (.t 11) [.t 15])]
 (.cond (.t 16) (oN [o4 17 5,o4 4 17]
 oL)
 .skip))))
 (.reg [o0 18 (oI 8 1),o4 8 18])))
def aDT:AFunc:=⟨19,[.tmp 4],
 oN [o0 4 (oA 0)]
 (.seq (oN [o4 6 0,o0 7 (oF 6),o0 8 (oA 0)]
 (.block 0 (.loop XL)))
 (oN [o0 4 (.mov (.c (.int .i64 (-1))))]
 oL))⟩
def X4:AFunc:=⟨18,[.tmp 4],
 oN [o0 2 (.box 5 (.t 0)),o0 4 (oA 0)]
 (.seq (oN [o4 5 1]
 (.block 0 (oN [o0 7 (o8 2 0),o0 8 (o7 7),o0 9 (oG false (.t 5) (.t 8)),o4 6 9]
 (.cond (.t 6) (oN [o0 10 (o8 2 1),o0 11 (o7 10),o4 4 11]
 oL)
 (oN [o0 13 (o8 2 1),o0 14 (o7 13),o0 15 (oG false (.t 5) (.t 14)),o4 12 15]
 (.cond (.t 12) (oN [o0 16 (o8 2 0),o0 17 (o7 16),o4 4 17]
 oL)
 .skip))))))
 (oN [o0 4 (.mov (.c (.int .i64 (-1))))]
 oL))⟩
def aC9:AFunc:=⟨5,[.tmp 2],
 oN [o0 2 (.mov (.c (.bool false)))]
 (oN [o4 3 0,o0 4 (.not (.t 3)),o4 2 4]
 oL)⟩
def aAW:AFunc:=⟨4,[.tmp 2],
 oN [o0 2 (.mov (.c (.bool false)))]
 (oN [o4 3 0,o4 2 3]
 oL)⟩
def ZU:AFunc:=⟨3,[.tmp 2],
 oN [o0 2 (.mov (.c (.bool false)))]
 (oN [o0 2 (.mov (.c (.bool true)))]
 oL)⟩
def aDO:AFunc:=⟨8,[.tmp 3],
 oN [o0 3 (.mov (.c (.bool false)))]
 (oN [o4 4 0,o0 5 (.iaddr (some 5) 1 (.t 1) (.t 4)),o0 6 (o7 5),o0 7 (oG false (.t 6) (o5 0)),o4 3 7]
 oL)⟩
def X0:ACode:=oN [o0 13 (oH 12 11)]
 (.seq (.cond (.t 13) .skip
 (oM 2))
 (.seq (.block 3 (oN [o0 14 (oC 3 10 12),o0 15 (oB 3 14),o0 7 (.alloc [.int .i64 0,.int .i64 0,.int .i64 0]),o1 (.store 3 (.t 7) (.t 15))]
 (oN [o0 16 (o8 7 0),o0 17 (o7 16),o0 18 (o8 3 0),o0 19 (o7 18),o0 20 (oG false (.t 17) (.t 19)),o4 21 20,o2 22 (o8 7 1) 21 true,o2 23 (o7 22) 21 true,o2 24 (o8 3 2) 21 true,o2 25 (o7 24) 21 true,o2 26 (oH 23 25) 21 true,o0 27 (.pick (.t 21) (.t 26) (.c (.bool false))),o4 28 27,o2 29 (o8 7 2) 28 true,o2 30 (o7 29) 28 true,o2 31 (o8 3 1) 28 true,o2 32 (o7 31) 28 true,o2 33 (.bin .gtr (.t 30) (.t 32)) 28 true,o0 34 (.pick (.t 28) (.t 33) (.c (.bool false)))]
 (.cond (.t 34) (oN [o0 35 (o8 3 2),o0 36 (o7 35),o0 37 (o8 3 1),o0 38 (o7 37),o0 39 (.bin .sub (.t 36) (.t 38)),o4 8 39]
 (.dreg [o3 40 (o8 7 2) 0 0,o3 41 (o7 40) 0 0,o3 42 (o8 7 2) 0 1,o3 43 (o7 42) 0 1,o3 44 (o9 8) 0 1,o3 45 (.bin .add (.t 43) (.t 44)) 0 1,o3 46 (o8 3 1) 0 0,⟨o1 (.store 1 (.t 46) (.t 41)),0,1⟩,o3 47 (o8 3 2) 1 1,⟨o1 (.store 1 (.t 47) (.t 45)),1,2⟩]))
 .skip))))
 (.reg [o0 48 (oI 12 1),o4 12 48])))
def ZQ:ACode:=.block 1 (oN [o0 9 (oB 3 3),o0 5 (.alloc [.int .i64 0,.int .i64 0,.int .i64 0]),o1 (.store 3 (.t 5) (.t 9))]
 (.seq (oN [o4 10 0,o0 11 (oF 10),o0 12 (oA 0)]
 (.block 2 (.loop X0)))
 (oN [o0 49 (oB 3 3),o0 50 (oB 3 5),o0 51 (.eql (.agg [.i,.i,.i]) false (.t 49) (.t 50))]
 (.cond (.t 51) (oN [o0 52 (o8 3 1),o0 53 (o7 52),o4 4 53]
 oL)
 .skip))))
def aB8:AFunc:=⟨54,[.tmp 4],
 oN [o0 3 (.box 3 (.t 1)),o0 4 (oA 0)]
 (.block 0 (.loop ZQ))⟩
def T(f:FuncId):Option AFunc:=cond (Nat.ble f 224) (cond (Nat.ble f 76) (cond (Nat.ble f 44) (cond (Nat.ble f 10) (cond (Nat.ble f 5) (cond (Nat.ble f 3) (cond (Nat.ble f 2) (cond (Nat.beq f 2) (some a2) none) (cond (Nat.beq f 3) (some a3) none)) (cond (Nat.ble f 4) (cond (Nat.beq f 4) (some a4) none) (cond (Nat.beq f 5) (some a5) none))) (cond (Nat.ble f 7) (cond (Nat.ble f 6) (cond (Nat.beq f 6) (some a6) none) (cond (Nat.beq f 7) (some a7) none)) (cond (Nat.ble f 8) (cond (Nat.beq f 8) (some a8) none) (cond (Nat.beq f 10) (some a10) none)))) (cond (Nat.ble f 18) (cond (Nat.ble f 14) (cond (Nat.ble f 12) (cond (Nat.beq f 12) (some a12) none) (cond (Nat.beq f 14) (some a14) none)) (cond (Nat.ble f 15) (cond (Nat.beq f 15) (some a15) none) (cond (Nat.beq f 18) (some a18) none))) (cond (Nat.ble f 26) (cond (Nat.ble f 20) (cond (Nat.beq f 20) (some a20) none) (cond (Nat.beq f 26) (some a26) none)) (cond (Nat.ble f 29) (cond (Nat.beq f 29) (some a29) none) (cond (Nat.beq f 44) (some a44) none))))) (cond (Nat.ble f 58) (cond (Nat.ble f 50) (cond (Nat.ble f 48) (cond (Nat.ble f 45) (cond (Nat.beq f 45) (some a45) none) (cond (Nat.beq f 48) (some a48) none)) (cond (Nat.ble f 49) (cond (Nat.beq f 49) (some a49) none) (cond (Nat.beq f 50) (some a50) none))) (cond (Nat.ble f 52) (cond (Nat.ble f 51) (cond (Nat.beq f 51) (some a51) none) (cond (Nat.beq f 52) (some a52) none)) (cond (Nat.ble f 54) (cond (Nat.beq f 54) (some a54) none) (cond (Nat.beq f 58) (some a58) none)))) (cond (Nat.ble f 68) (cond (Nat.ble f 64) (cond (Nat.ble f 59) (cond (Nat.beq f 59) (some a59) none) (cond (Nat.beq f 64) (some a64) none)) (cond (Nat.ble f 67) (cond (Nat.beq f 67) (some a67) none) (cond (Nat.beq f 68) (some a68) none))) (cond (Nat.ble f 73) (cond (Nat.ble f 72) (cond (Nat.beq f 72) (some a72) none) (cond (Nat.beq f 73) (some a73) none)) (cond (Nat.ble f 74) (cond (Nat.beq f 74) (some a74) none) (cond (Nat.ble f 75) (cond (Nat.beq f 75) (some a75) none) (cond (Nat.beq f 76) (some a76) none))))))) (cond (Nat.ble f 183) (cond (Nat.ble f 94) (cond (Nat.ble f 90) (cond (Nat.ble f 78) (cond (Nat.ble f 77) (cond (Nat.beq f 77) (some a77) none) (cond (Nat.beq f 78) (some a78) none)) (cond (Nat.ble f 79) (cond (Nat.beq f 79) (some a79) none) (cond (Nat.beq f 90) (some a90) none))) (cond (Nat.ble f 92) (cond (Nat.ble f 91) (cond (Nat.beq f 91) (some a91) none) (cond (Nat.beq f 92) (some a92) none)) (cond (Nat.ble f 93) (cond (Nat.beq f 93) (some a93) none) (cond (Nat.beq f 94) (some a94) none)))) (cond (Nat.ble f 170) (cond (Nat.ble f 117) (cond (Nat.ble f 111) (cond (Nat.beq f 111) (some OA) none) (cond (Nat.beq f 117) (some XS) none)) (cond (Nat.ble f 118) (cond (Nat.beq f 118) (some M0) none) (cond (Nat.beq f 170) (some aBX) none))) (cond (Nat.ble f 172) (cond (Nat.ble f 171) (cond (Nat.beq f 171) (some aBA) none) (cond (Nat.beq f 172) (some aAP) none)) (cond (Nat.ble f 181) (cond (Nat.beq f 181) (some ZH) none) (cond (Nat.ble f 182) (cond (Nat.beq f 182) (some aAA) none) (cond (Nat.beq f 183) (some aAQ) none)))))) (cond (Nat.ble f 191) (cond (Nat.ble f 187) (cond (Nat.ble f 185) (cond (Nat.ble f 184) (cond (Nat.beq f 184) (some aAH) none) (cond (Nat.beq f 185) (some WX) none)) (cond (Nat.ble f 186) (cond (Nat.beq f 186) (some WW) none) (cond (Nat.beq f 187) (some X6) none))) (cond (Nat.ble f 189) (cond (Nat.ble f 188) (cond (Nat.beq f 188) (some aA3) none) (cond (Nat.beq f 189) (some aA6) none)) (cond (Nat.ble f 190) (cond (Nat.beq f 190) (some YQ) none) (cond (Nat.beq f 191) (some aDJ) none)))) (cond (Nat.ble f 204) (cond (Nat.ble f 193) (cond (Nat.ble f 192) (cond (Nat.beq f 192) (some aCU) none) (cond (Nat.beq f 193) (some X7) none)) (cond (Nat.ble f 194) (cond (Nat.beq f 194) (some aBT) none) (cond (Nat.beq f 204) (some aDM) none))) (cond (Nat.ble f 221) (cond (Nat.ble f 220) (cond (Nat.beq f 220) (some WY) none) (cond (Nat.beq f 221) (some aBP) none)) (cond (Nat.ble f 222) (cond (Nat.beq f 222) (some YU) none) (cond (Nat.ble f 223) (cond (Nat.beq f 223) (some aB6) none) (cond (Nat.beq f 224) (some aBJ) none)))))))) (cond (Nat.ble f 356) (cond (Nat.ble f 323) (cond (Nat.ble f 310) (cond (Nat.ble f 244) (cond (Nat.ble f 233) (cond (Nat.ble f 232) (cond (Nat.beq f 232) (some aBU) none) (cond (Nat.beq f 233) (some aDB) none)) (cond (Nat.ble f 234) (cond (Nat.beq f 234) (some KS) none) (cond (Nat.beq f 244) (some M8) none))) (cond (Nat.ble f 257) (cond (Nat.ble f 254) (cond (Nat.beq f 254) (some OE) none) (cond (Nat.beq f 257) (some PG) none)) (cond (Nat.ble f 309) (cond (Nat.beq f 309) (some aAT) none) (cond (Nat.beq f 310) (some aBZ) none)))) (cond (Nat.ble f 319) (cond (Nat.ble f 317) (cond (Nat.ble f 316) (cond (Nat.beq f 316) (some ZF) none) (cond (Nat.beq f 317) (some aEQ) none)) (cond (Nat.ble f 318) (cond (Nat.beq f 318) (some aDN) none) (cond (Nat.beq f 319) (some R9) none))) (cond (Nat.ble f 321) (cond (Nat.ble f 320) (cond (Nat.beq f 320) (some EJ) none) (cond (Nat.beq f 321) (some aBB) none)) (cond (Nat.ble f 322) (cond (Nat.beq f 322) (some YL) none) (cond (Nat.beq f 323) (some LU) none))))) (cond (Nat.ble f 346) (cond (Nat.ble f 327) (cond (Nat.ble f 325) (cond (Nat.ble f 324) (cond (Nat.beq f 324) (some YI) none) (cond (Nat.beq f 325) (some WV) none)) (cond (Nat.ble f 326) (cond (Nat.beq f 326) (some Y4) none) (cond (Nat.beq f 327) (some XC) none))) (cond (Nat.ble f 344) (cond (Nat.ble f 331) (cond (Nat.beq f 331) (some ZT) none) (cond (Nat.beq f 344) (some Y6) none)) (cond (Nat.ble f 345) (cond (Nat.beq f 345) (some YM) none) (cond (Nat.beq f 346) (some aCP) none)))) (cond (Nat.ble f 350) (cond (Nat.ble f 348) (cond (Nat.ble f 347) (cond (Nat.beq f 347) (some aDP) none) (cond (Nat.beq f 348) (some W5) none)) (cond (Nat.ble f 349) (cond (Nat.beq f 349) (some XW) none) (cond (Nat.beq f 350) (some aCX) none))) (cond (Nat.ble f 352) (cond (Nat.ble f 351) (cond (Nat.beq f 351) (some ZY) none) (cond (Nat.beq f 352) (some aBY) none)) (cond (Nat.ble f 353) (cond (Nat.beq f 353) (some X5) none) (cond (Nat.ble f 354) (cond (Nat.beq f 354) (some ZV) none) (cond (Nat.beq f 356) (some MP) none))))))) (cond (Nat.ble f 432) (cond (Nat.ble f 423) (cond (Nat.ble f 415) (cond (Nat.ble f 378) (cond (Nat.ble f 369) (cond (Nat.beq f 369) (some aCJ) none) (cond (Nat.beq f 378) (some ML) none)) (cond (Nat.ble f 386) (cond (Nat.beq f 386) (some P0) none) (cond (Nat.beq f 415) (some aD3) none))) (cond (Nat.ble f 421) (cond (Nat.ble f 420) (cond (Nat.beq f 420) (some X8) none) (cond (Nat.beq f 421) (some aDL) none)) (cond (Nat.ble f 422) (cond (Nat.beq f 422) (some ZN) none) (cond (Nat.beq f 423) (some Z8) none)))) (cond (Nat.ble f 427) (cond (Nat.ble f 425) (cond (Nat.ble f 424) (cond (Nat.beq f 424) (some aB7) none) (cond (Nat.beq f 425) (some Y8) none)) (cond (Nat.ble f 426) (cond (Nat.beq f 426) (some ZO) none) (cond (Nat.beq f 427) (some aCT) none))) (cond (Nat.ble f 429) (cond (Nat.ble f 428) (cond (Nat.beq f 428) (some XX) none) (cond (Nat.beq f 429) (some ZW) none)) (cond (Nat.ble f 430) (cond (Nat.beq f 430) (some XI) none) (cond (Nat.ble f 431) (cond (Nat.beq f 431) (some aB5) none) (cond (Nat.beq f 432) (some CY) none)))))) (cond (Nat.ble f 466) (cond (Nat.ble f 436) (cond (Nat.ble f 434) (cond (Nat.ble f 433) (cond (Nat.beq f 433) (some aDH) none) (cond (Nat.beq f 434) (some aCS) none)) (cond (Nat.ble f 435) (cond (Nat.beq f 435) (some H7) none) (cond (Nat.beq f 436) (some ZR) none))) (cond (Nat.ble f 444) (cond (Nat.ble f 443) (cond (Nat.beq f 443) (some aAO) none) (cond (Nat.beq f 444) (some WN) none)) (cond (Nat.ble f 445) (cond (Nat.beq f 445) (some YC) none) (cond (Nat.beq f 466) (some aC8) none)))) (cond (Nat.ble f 483) (cond (Nat.ble f 468) (cond (Nat.ble f 467) (cond (Nat.beq f 467) (some YD) none) (cond (Nat.beq f 468) (some IF) none)) (cond (Nat.ble f 482) (cond (Nat.beq f 482) (some aDT) none) (cond (Nat.beq f 483) (some X4) none))) (cond (Nat.ble f 485) (cond (Nat.ble f 484) (cond (Nat.beq f 484) (some aC9) none) (cond (Nat.beq f 485) (some aAW) none)) (cond (Nat.ble f 486) (cond (Nat.beq f 486) (some ZU) none) (cond (Nat.ble f 487) (cond (Nat.beq f 487) (some aDO) none) (cond (Nat.beq f 488) (some aB8) none))))))))
end Go.Am.Room
namespace Go.Am
def AD:Value->Option AV
 |.bool b=>some (.bool b)
 |.int k n=>some (.int k n)
 |.string s=>some (.str s)
 |.pointer none=>some .nilPtr
 |.slice none 0 0=>some (.lit [] true none)
 |.map none=>some .nilMap
 |.nilFunc=>some .nilFunc
 |_=>none
def sZ:List Value->Option (List AV)
 |[]=>some []
 |v::vs=>match AD v,sZ vs with|some a,some b=>some (a::b)|_,_=>none
def ofValue:Value->Option AV
 |.agg cs=>match sZ cs.toList with|some l=>some (.agg l)|none=>none
 |.tuple vs=>if vs.size=0 then some (.tuple []) else none
 |v=>AD v
def opd:Operand->Option AOpd
 |.tmp t=>some (.t t)
 |.const v=>match ofValue v with|some a=>some (.c a)|none=>none
 |.func f=>some (.c (.func f [] []))
 |.global _=>none
def HR:List Operand->Option (List AOpd)
 |[]=>some []
 |x::xs=>match opd x,HR xs with|some a,some b=>some (a::b)|_,_=>none
def kN:Option Operand->Option (Option AOpd)
 |none=>some none
 |some x=>match opd x with|some a=>some (some a)|none=>none
section
variable (P:Program) (h:String->Bool)
def gR(t:TypeId):Option Bool :=
 match P.underlying t with
 |some (.struct _)|some (.array _ _)=>some true
 |some _=>some false
 |none=>none
def gT(t:TypeId):Option Nat :=
 match P.info? t with
 |some i=>if i.size=0 then none else some i.size
 |none=>none
def qM(t:TypeId):Option (Option Nat) :=
 match gR P t,gT P t with
 |some true,some n=>some (some n)
 |some false,some 1=>some none
 |_,_=>none
def NW(t:TypeId):Option AV :=
 match P.info? t with
 |some i=>match i.zero with|some v=>ofValue v|none=>none
 |none=>none
def hJ(t:TypeId):Option (List AV) :=
 match NW P t,gT P t with
 |some z,some n=>if z.cells.length=n/\z.cells.all (·.cell)=true then some z.cells else none
 |_,_=>none
mutual
def plainT:Nat->TypeId->Option (List SK)
 |0,_=>none
 |d+1,t =>
  match P.underlying t with
  |some .bool=>some [.b]
  |some (.int _)=>some [.i]
  |some .string=>some [.s]
  |some (.struct fs)=>if P.stoodInHeld t then none else plainFields d fs.toList 0
  |some (.array n e) =>
   match plainT d e,P.info? e with
   |some ks,some i=>if i.size=ks.length then some (List.replicate n ks).flatten else none
   |_,_=>none
  |_=>none
def plainFields:Nat->List Field->Nat->Option (List SK)
 |0,_,_=>none
 |_+1,[],_=>some []
 |d+1,f::fs,n =>
  if f.name = "_"\/f.offset≠n then none else
  match plainT d f.type,P.info? f.type with
  |some ks,some i=>if i.size=ks.length then (match plainFields d fs (n+ks.length) with|some r=>some (ks++r)|none=>none) else none
  |_,_=>none
end
def wT:Nat:=60
def eqT(t:TypeId):Option EqTy :=
 match plainT P wT t,gR P t with
 |some [k],some false=>some (.one k)
 |some ks,some true=>if P.eqGuardType P.depth t then none else some (.agg ks)
 |_,_=>none
def zV(s:TypeId)(f:Nat):Option Field :=
 match P.underlying s with
 |some (.struct fs) =>
  match fs[f]? with
  |some f=>match gT P f.type with|some _=>some f|none=>none
  |none=>none
 |_=>none
def GB(t:TypeId):Bool :=
 match P.underlying t with
 |some (.struct fs)=>fs.toList.all fun f=>(P.info? f.type).isSome
 |some (.array _ e)=>(P.info? e).isSome
 |_=>false
def nO(t:TypeId):List (Nat×Operand)->Option (List (Nat×Nat×AOpd))
 |[]=>some []
 |(i,x)::rest =>
  let place:Option (Nat×Nat):=match P.underlying t with
   |some (.struct fs)=>match fs[i]? with|some f=>(match gT P f.type with|some n=>some (f.offset,n)|none=>none)|none=>none
   |some (.array n e)=>if i<n then (match gT P e with|some m=>some (i*m,m)|none=>none) else none
   |_=>none
  match place,opd x,nO t rest with
  |some (off,n),some a,some r=>some ((off,n,a)::r)
  |_,_,_=>none
def nI:Nat->List (Nat×Operand)->Option (List AOpd)
 |_,[]=>some []
 |k,(i,x)::rest=>if i=k then (match opd x,nI (k+1) rest with|some a,some b=>some (a::b)|_,_=>none) else none
def lY(t:TypeId):Option (TypeId×Nat) :=
 match P.underlying t with
 |some (.slice e)=>match gT P e with|some n=>some (e,n)|none=>none
 |_=>none
def tX(pos:String)(c:Call):Option AOp :=
 match c.callee,HR c.args.toList with
 |.value f,some args=>match opd f with|some g=>some (.call g args)|none=>none
 |.builtin .len,some [x] =>
  match c.argTypes[0]? with
  |some t =>
   match P.underlying t with
   |some .string=>some (.len 0 x)
   |some (.slice _)=>some (.len 1 x)
   |some (.map _ _)=>some (.len 2 x)
   |some (.array n _)=>some (.mov (.c (.int .i64 n)))
   |_=>none
  |none=>none
 |.builtin .append,some [x,y] =>
  match c.argTypes[0]?,c.argTypes[1]? with
  |some t,some u =>
   match lY P t,lY P u,P.info? (match P.underlying t with|some (.slice e)=>e|_=>0) with
   |some (e,sz),some (e',_),some i=>if t=u/\e=e'/\0<i.bytes then (match hJ P e with|some _=>some (if h pos then .apref sz i.bytes x y else .append sz i.bytes x y)|none=>none) else none
   |_,_,_=>none
  |_,_=>none
 |.builtin .copy,some [x,y] =>
  match c.argTypes[0]?,c.argTypes[1]? with
  |some t,some u =>
   match lY P t,lY P u with
   |some (e,sz),some (e',_)=>if e=e' then some (.copy sz x y) else none
   |_,_=>none
  |_,_=>none
 |.builtin .min,some xs=>some (.min xs)
 |.builtin .max,some xs=>some (.max xs)
 |_,_=>none
def bX(pos:String):Op->Option AOp
 |.move x|.assign x=>match opd x with|some a=>some (.mov a)|none=>none
 |.pick c a b=>match opd c,opd a,opd b with|some c,some a,some b=>some (.pick c a b)|_,_,_=>none
 |.alloc t=>match hJ P t with|some z=>some (.alloc z)|none=>none
 |.box t x=>match opd x,qM P t,gT P t with|some a,some _,some n=>some (.box n a)|_,_,_=>none
 |.build t parts =>
  match hJ P t,GB P t,nO P t parts.toList with
  |some z,true,some ps=>some (.build z ps)
  |_,_,_=>none
 |.buildSlice t n parts =>
  match lY P t,nI 0 parts.toList with
  |some (e,sz),some xs=>if xs.length=n/\n*sz<=2^24 then (match hJ P e with|some _=>some (if (h pos&&n != 0)=true then .mkref sz xs else .mklit sz xs)|none=>none) else none
  |_,_=>none
 |.load t a=>match qM P t,opd a with|some sh,some x=>some (.load sh x)|_,_=>none
 |.store t a x=>match gT P t,opd a,opd x with|some n,some a,some x=>some (.store n a x)|_,_,_=>none
 |.nilCheck x=>match opd x with|some a=>some (.nilCheck a)|none=>none
 |.binOp op t x y _ =>
  match opd x,opd y with
  |some a,some b =>
   match op with
   |.eql=>match eqT P t with|some sh=>some (.eql sh false a b)|none=>none
   |.neq=>match eqT P t with|some sh=>some (.eql sh true a b)|none=>none
   |op =>
    match P.underlying t with
    |some (.int _)=>some (.bin op a b)
    |_=>none
  |_,_=>none
 |.unOp op _ x =>
  match op,opd x with
  |.not,some a=>some (.not a)
  |.neg,some a=>some (.neg a)
  |_,_=>none
 |.convert s d x =>
  match P.underlying s,P.underlying d,opd x with
  |some (.int _),some (.int k),some a=>some (.conv k a)
  |_,_,_=>none
 |.makeFunc fn first cap =>
  match fn,HR first.toList,HR cap.toList with
  |.func f,some a,some b=>some (.mkfun f a b)
  |_,_,_=>none
 |.makeMap t none=>match P.underlying t with|some (.map _ _)=>some .mkmap|_=>none
 |.makeSlice t l c =>
  match lY P t,opd l,opd c with
  |some (e,_),some l,some c =>
   match hJ P e,P.info? e with
   |some z,some i=>if 0<i.bytes then some (.mkslice z i.bytes l c) else none
   |_,_=>none
  |_,_,_=>none
 |.slice t x lo hi mx =>
  match opd x,kN lo,kN hi,kN mx with
  |some x,some lo,some hi,some mx =>
   match P.underlying t with
   |some (.slice e)=>match gT P e with|some sz=>some (.slicev sz x lo hi mx)|none=>none
   |some (.array n e)=>match gT P e,mx with|some sz,none=>some (.slicea n sz x lo hi)|_,_=>none
   |_=>none
  |_,_,_,_=>none
 |.fieldAddr t x f=>match zV P t f,opd x with|some f,some a=>some (.faddr a f.offset)|_,_=>none
 |.field t x f =>
  match zV P t f,opd x with
  |some f,some a=>match qM P f.type with|some sh=>some (.field a f.offset sh)|none=>none
  |_,_=>none
 |.indexAddr t x i =>
  match opd x,opd i with
  |some x,some i =>
   match P.underlying t with
   |some (.array n e)=>match gT P e with|some sz=>some (.iaddr (some n) sz x i)|none=>none
   |some (.slice e)=>match gT P e with|some sz=>some (.iaddr none sz x i)|none=>none
   |_=>none
  |_,_=>none
 |.index t x i =>
  match opd x,opd i with
  |some x,some i =>
   match P.underlying t with
   |some .string=>some (.sindex x i)
   |some (.array n e)=>match gT P e,qM P e with|some sz,some sh=>some (.index n sz sh x i)|_,_=>none
   |_=>none
  |_,_=>none
 |.lookup t m k ok =>
  match opd m,opd k with
  |some m,some k =>
   match P.underlying t with
   |some (.map key elem)=>(match eqT P key,NW P elem with|some sh,some z=>some (.lookup sh ok z m k)|_,_=>none)
   |_=>none
  |_,_=>none
 |.mapUpdate t m k v =>
  match opd m,opd k,opd v with
  |some m,some k,some v =>
   match P.underlying t with
   |some (.map key _)=>(match eqT P key with|some sh=>some (.mapset sh m k v)|none=>none)
   |_=>none
  |_,_,_=>none
 |.range t x =>
  match opd x with
  |some x =>
   match P.underlying t with
   |some .string=>some (.srange x)
   |some (.map _ _)=>some (.mrange x)
   |_=>none
  |none=>none
 |.next x s=>match opd x with|some a=>if s then some (.snext a) else some (.mnext a)|none=>none
 |.entry x=>match opd x with|some a=>some (.entry a)|none=>none
 |.extract x i=>match opd x with|some a=>some (.ext a i)|none=>none
 |.call c=>tX P h pos c
 |_=>none
def oO(n:Nat)(ops:Array Oper)(o:Oper):Option AOper :=
 let d:Bool:=match o.dst with|some d=>decide (d<n)|none=>true
 let g:Option (Option (Nat×Bool)):=match o.guard with
  |none=>some none
  |some (j,want)=>match (ops[j]?).bind (·.dst) with|some t=>some (some (t,want))|none=>none
 match bX P h o.pos o.op,g with
 |some op,some g=>if d then some { dst:=o.dst,op,guard:=g } else none
 |_,_=>none
def iJ(n:Nat)(ops:Array Oper):List Oper->Option (List AOper)
 |[]=>some []
 |o::os=>match oO P h n ops o,iJ n ops os with|some a,some b=>some (a::b)|_,_=>none
def AOpd.tmps:AOpd->List Nat
 |.t n=>[n]
 |.c _=>[]
def AOp.tmps:AOp->List Nat
 |.mov x|.box _ x|.load _ x|.nilCheck x|.not x|.neg x|.conv _ x|.faddr x _|.field x _ _|.srange x|.snext x|.mrange x|.mnext x|.entry x|.ext x _|.len _ x=>x.tmps
 |.pick c a b|.mapset _ c a b=>c.tmps++a.tmps++b.tmps
 |.alloc _|.mkmap=>[]
 |.build _ ps=>ps.flatMap fun p=>p.2.2.tmps
 |.mklit _ xs|.mkref _ xs|.min xs|.max xs=>xs.flatMap AOpd.tmps
 |.store _ a b|.bin _ a b|.eql _ _ a b|.append _ _ a b|.apref _ _ a b|.copy _ a b|.mkslice _ _ a b|.iaddr _ _ a b|.index _ _ _ a b|.sindex a b|.lookup _ _ _ a b=>a.tmps++b.tmps
 |.mkfun _ a b=>a.flatMap AOpd.tmps++b.flatMap AOpd.tmps
 |.slicev _ x l h m=>x.tmps++(l.toList++h.toList++m.toList).flatMap AOpd.tmps
 |.slicea _ _ x l h=>x.tmps++(l.toList++h.toList).flatMap AOpd.tmps
 |.call f xs=>f.tmps++xs.flatMap AOpd.tmps
def AOper.tmps(o:AOper):List Nat:=o.op.tmps++(match o.guard with|some (t,_)=>[t]|none=>[])
def dR(os:List AOper):List Nat:=(os.zipIdx.filter fun p=>p.1.op.acts).map (·.2)
def R7(md:Region.Mode)(ops:Array Oper)(i:Nat):Nat :=
 match ops[i]? with
 |none=>0
 |some o =>
  let j:=o.after.toList.foldl (fun m e=>if Region.binds md e&&decide (m<e.on) then e.on else m) i
  if j=i then i*(ops.size+1) else j*(ops.size+1)+1+i
def t7(md:Region.Mode)(ops:Array Oper):Bool :=
 (List.range ops.size).all fun i=>((ops[i]?).map fun o=>o.after.toList.all fun e=>!Region.binds md e||(decide (e.on<ops.size)&&decide (R7 md ops e.on<R7 md ops i))).getD false
def E1(ops:Array Oper):Bool:=t7 .any ops&&t7 .text ops&&t7 .gc ops
def rV:Code->Bool
 |.seq a b|.cond _ a b=>rV a&&rV b
 |.block _ b|.loop b|.scope b=>rV b
 |.rangeFunc ..=>false
 |_=>true
def F7(before:Array Nat)(os:List AOper):Bool :=
 let ps:=os.zipIdx
 let acts:=dR os
 (ps.all fun (o,i)=>ps.all fun (o',j)=>i==j||!(o.dst.isSome&&o.dst==o'.dst)) &&
 (ps.all fun (o,i)=>o.tmps.all fun t=>ps.all fun (o',j)=>o'.dst != some t||(decide (j<i)&&(before.getD i 0).testBit j)||(decide (i<j)&&(before.getD j 0).testBit i)) &&
 (acts.all fun i=>acts.all fun j=>!(decide (i<j))||(before.getD j 0).testBit i)
def jU(before:Array Nat)(os:List AOper):List ADOper :=
 let acts:=dR os
 os.zipIdx.map fun (o,i) =>
  { o,lo:=(acts.filter fun a=>(before.getD i 0).testBit a).length,hi:=(acts.takeWhile fun a=>!(before.getD a 0).testBit i).length }
def comp(n:Nat):Code->Option ACode
 |.skip|.label _=>some .skip
 |.region _ ops draw =>
  match iJ P h n ops ops.toList with
  |some os=>if draw then (if E1 ops&&F7 (Region.before ops) os then some (.dreg (jU (Region.before ops) os)) else none) else some (.reg os)
  |none=>none
 |.seq a b=>match comp n a,comp n b with|some x,some y=>some (.seq x y)|_,_=>none
 |.cond c a b=>match opd c,comp n a,comp n b with|some c,some x,some y=>some (.cond c x y)|_,_,_=>none
 |.block id b=>match comp n b with|some x=>some (.block id x)|none=>none
 |.loop b=>match comp n b with|some x=>some (.loop x)|none=>none
 |.rangeFunc f ps a b=>match opd f,comp n a,comp n b with|some f,some x,some y=>if ps.toList.all (fun p=>decide (p<n))&&rV a&&rV b then some (.rangeFunc f ps.toList x y) else none|_,_,_=>none
 |.exit id=>some (.jump (.exit id))
 |.ret=>some (.jump .ret)
 |.scope b=>match comp n b with|some x=>some (.scope x)|none=>none
 |.goto _|.refuse _=>none
def qA:List ResultVar->Option (List ARes)
 |[]=>some []
 |.tmp t::rs=>match qA rs with|some l=>some (.tmp t::l)|none=>none
 |.cell a t::rs=>match qM P t,qA rs with|some sh,some l=>some (.cell a sh::l)|_,_=>none
def mV(fn:Func):Option AFunc :=
 match fn.body with
 |none=>none
 |some c =>
  match comp P h fn.ntmps c,qA P fn.results.toList with
  |some b,some rs=>if fn.name== "runtime.NumGoroutine" then none else some { ntmps:=fn.ntmps,results:=rs,body:=b }
  |_,_=>none
end
end Go.Am
namespace Go.Am
structure Gh where
 loc:Nat->Option Nat
 lim:Nat->Option Nat
 tok:Nat->Option (Option Addr×Nat×Nat)
 own:Nat->Option Nat
 defs:Nat->Prop
 B0:Nat
 h0:Array Obj
 /-- blocks that have no place,and get none;and what they hold -/
 res:Nat->Option (Option (List AV))
structure LitAt (G:Gh) (w:World) (xs:List AV) (tk:Option Nat) (b off sz:Nat):Prop where
 lim:∃ L,G.lim b=some L/\off+xs.length*sz<=L
 own:∀ t,G.own b=some t->tk=some t
 size:∀ (i:Nat) (x:AV),xs[i]? = some x->x.cells.length=sz
 cells:∀ k,k<xs.length*sz->(w.cell? ⟨b,off+k,none⟩).isSome=true
def pF(G:Gh)(full:Bool)(tk:Option Nat)(n:Nat)(base:Option Addr)(cap:Nat):Prop :=
 n<=cap/\(full=true->cap=n) /\
 ∀ t,tk=some t->∃ b m c,G.tok t=some (b,m,c)/\n<=m/\(full=false->m=n->b=base/\c=cap)
inductive RelV (G:Gh) (w:World):AV->Value->Prop where
 |undef (v:Value):RelV G w .undef v
 |int (k:IntKind) (n:Int):RelV G w (.int k n) (.int k n)
 |bool (b:Bool):RelV G w (.bool b) (.bool b)
 |str (s:ByteArray):RelV G w (.str s) (.string s)
 |func {f first cap first' cap'} (h1:first'.size=first.length) (h2:cap'.size=cap.length)
   (h3:∀ (i:Nat) (a:AV) (v:Value),first[i]? = some a->first'[i]? = some v->RelV G w a v) (h4:∀ (i:Nat) (a:AV) (v:Value),cap[i]? = some a->cap'[i]? = some v->RelV G w a v) :
   RelV G w (.func f first cap) (.func (.func f) first' cap')
 |nilFunc:RelV G w .nilFunc .nilFunc
 |yield {id b} (h:G.loc id=some b):RelV G w (.yield id) (.func (.yield b) #[] #[])
 |ptr {id off b} (h:G.loc id=some b):RelV G w (.ptr id off) (.pointer (some ⟨b,off,none⟩))
 |nilPtr:RelV G w .nilPtr (.pointer none)
 |lptr {xs i off tk b o sz} (ht:∀ t,tk=some t->∃ p,G.tok t=some p) (hi:i<xs.length) (hl:LitAt G w xs tk b o sz)
   (hc:∀ (i:Nat) (x:AV) (j:Nat) (c:AV) (u:Value),xs[i]? = some x->x.cells[j]? = some c->w.cell? ⟨b,o+(i*sz+j),none⟩=some u->RelV G w c u) :
   RelV G w (.lptr xs i off tk) (.pointer (some ⟨b,o+i*sz+off,none⟩))
 |nil {full tk base cap} (ht:pF G full tk 0 base cap) (hb:base=none->cap=0):RelV G w (.lit [] full tk) (.slice base 0 cap)
 |lit {xs full tk b o sz cap} (ht:pF G full tk xs.length (some ⟨b,o,none⟩) cap) (hl:LitAt G w xs tk b o sz)
   (hc:∀ (i:Nat) (x:AV) (j:Nat) (c:AV) (u:Value),xs[i]? = some x->x.cells[j]? = some c->w.cell? ⟨b,o+(i*sz+j),none⟩=some u->RelV G w c u) :
   RelV G w (.lit xs full tk) (.slice (some ⟨b,o,none⟩) xs.length cap)
 |ref {id off len sz b base cap} (h:G.loc id=some b) (hb:len≠0->base=some ⟨b,off,none⟩) (hc:len<=cap) (hn:base=none->cap=0) :
   RelV G w (.ref id off len sz) (.slice base len cap)
 |map {id b} (h:G.loc id=some b):RelV G w (.map id) (.map (some b))
 |nilMap:RelV G w .nilMap (.map none)
 |agg {cs vs} (h:vs.size=cs.length) (hc:∀ (i:Nat) (a:AV) (v:Value),cs[i]? = some a->vs[i]? = some v->RelV G w a v):RelV G w (.agg cs) (.agg vs)
 |tuple {cs vs} (h:vs.size=cs.length) (hc:∀ (i:Nat) (a:AV) (v:Value),cs[i]? = some a->vs[i]? = some v->RelV G w a v):RelV G w (.tuple cs) (.tuple vs)
def aL3:LS->LoopState
 |.ready=>.ready
 |.busy=>.busy
 |.done=>.done
def RR:AJump->Code
 |.ret=>.ret
 |.exit id=>.exit id
def gC(G:Gh)(w:World)(n:Nat)(env:Env)(tmps:Array Value):Prop :=
 tmps.size=n/\∀ t,RelV G w (Env.get env t) (tmps.getD t Go.undef)
def jD(P:Program)(h:String->Bool)(G:Gh)(w:World):ABlk->Nat->Prop
 |.cells cs,b=>∃ vs T,w.heap[b]? = some (.cells vs T (0,0))/\cs.length<=vs.size/\∀ (i:Nat) (a:AV) (v:Value),cs[i]? = some a->vs[i]? = some v->RelV G w a v
 |.map es,b=>∃ ents,w.heap[b]? = some (.map ents es.length)/\ents.size=es.length /\
   (∀ (i:Nat) (e:MapEntry),ents[i]? = some e->e.born=i)/\∀ (i:Nat) (p:AV×AV) (e:MapEntry),es[i]? = some p->ents[i]? = some e->RelV G w p.1 e.key/\RelV G w p.2 e.val
 |.tok _ _ _,_=>False
 |.siter s pos,b=>w.heap[b]? = some (.stringIter s pos)
 |.miter m n left last,b=>∃ bm seen stepped,G.loc m=some bm/\w.heap[b]? = some (.mapIter (some bm) n seen stepped) /\
   left=(List.range n).filter (fun i=>!seen.contains i)/\seen.back? = last/\(seen.isEmpty=false->stepped=n)
 |.loop st pend env ps a c,b=>∃ l n,w.heap[b]? = some (.loop l)/\l.state=aL3 st/\l.pending=pend.map RR/\l.params.toList=ps /\
   comp P h n l.assign=some a/\comp P h n l.body=some c/\(∀ p∈ps,p<n)/\gC G w n env l.tmps/\rV l.assign=true/\rV l.body=true
 |.dead,_=>True
def ME:Obj:=.deferred none
structure RelS (P:Program) (h:String->Bool) (G:Gh) (w:World) (σ:St):Prop where
 lt:∀ id b,G.loc id=some b->id<σ.length
 blk:∀ id b x,G.loc id=some b->σ[id]? = some x->jD P h G w x b
 inj:∀ i j b,G.loc i=some b->G.loc j=some b->i=j
 fresh:∀ id b,G.loc id=some b->G.B0<=b/\b<w.heap.size/\G.lim b=none/\¬G.defs b
 lim:∀ b L,G.lim b=some L->∃ vs T fr,w.heap[b]? = some (.cells vs T fr)/\L<=vs.size/\(b<G.B0->G.h0[G.B0+b]? = some ME)
 tok:∀ t b n c,G.tok t=some (b,n,c)->∃ sz ex,σ[t]? = some (.tok sz n ex)/\n<=c/\(ex=false->c=n) /\
  (ex=true->∃ bb vs T,b=some ⟨bb,0,none⟩/\G.own bb=some t/\G.lim bb=some (n*sz)/\G.B0<=bb /\
   w.heap[bb]? = some (.cells vs T (0,0))/\c*sz<=vs.size)
 own:∀ b t,G.own b=some t->b<w.heap.size/\∃ p,G.tok t=some p
 defs:∀ r,G.defs r->w.heap[r]? = some (.deferred (some []))/\G.B0<=r/\G.lim r=none
 base:∀ b,b<G.B0->w.heap[b]? = G.h0[b]?
 size:G.B0<=w.heap.size
 res:∀ id r,G.res id=some r->G.loc id=none/\id<σ.length/\∀ cs,r=some cs->σ[id]? = some (.cells cs)
structure Evo (G:Gh) (w:World) (G':Gh) (w':World):Prop where
 loc:∀ id b,G.loc id=some b->G'.loc id=some b
 lim:∀ b L,G.lim b=some L->∃ L',G'.lim b=some L'/\L<=L'/\∀ k,k<L->w'.cell? ⟨b,k,none⟩=w.cell? ⟨b,k,none⟩
 tok:∀ t b n c,G.tok t=some (b,n,c)->∃ b' n' c',G'.tok t=some (b',n',c')/\n<=n'/\(n'=n->b'=b/\c'=c)
 own:∀ b L t,G.lim b=some L->G'.own b=some t->G.own b=some t
 defs:∀ r,G.defs r->G'.defs r
 B0:G'.B0=G.B0
 h0:G'.h0=G.h0
 os:w'.os=w.os
 tape:w'.tape=w.tape
 output:w'.output=w.output
 size:w.heap.size<=w'.heap.size
 res:∀ id r,G.res id=some r->G'.res id=some r
theorem Evo.refl(G:Gh)(w:World):Evo G w G w :=
 ⟨fun _ _ h=>h,fun b L h=>⟨L,h,Nat.le_refl _,fun _ _=>rfl⟩,fun t b n c h=>⟨b,n,c,h,Nat.le_refl _,fun _=>⟨rfl,rfl⟩⟩,
  fun _ _ _ _ h=>h,fun _ h=>h,rfl,rfl,rfl,rfl,rfl,Nat.le_refl _,fun _ _ h=>h⟩
theorem Evo.trans{G1 w1 G2 w2 G3 w3}(h:Evo G1 w1 G2 w2)(k:Evo G2 w2 G3 w3):Evo G1 w1 G3 w3 where
 loc id b e:=k.loc _ _ (h.loc _ _ e)
 lim b L e:=by
  obtain⟨L2,e2,l2,c2⟩:=h.lim _ _ e;obtain⟨L3,e3,l3,c3⟩:=k.lim _ _ e2;exact⟨L3,e3,Nat.le_trans l2 l3,fun i hi=>(c3 i (Nat.lt_of_lt_of_le hi l2)).trans (c2 i hi)⟩
 tok t b n c e:=by
  obtain⟨b2,n2,c2,e2,l2,q2⟩:=h.tok _ _ _ _ e;obtain⟨b3,n3,c3,e3,l3,q3⟩:=k.tok _ _ _ _ e2;refine⟨b3,n3,c3,e3,Nat.le_trans l2 l3,fun hn=>?_⟩;have:n2=n:=by omega
  obtain⟨a1,a2⟩:=q2 this;obtain⟨a3,a4⟩:=q3 (by omega);exact⟨a3.trans a1,a4.trans a2⟩
 own b L t e e3:=by
  obtain⟨L2,e2,_,_⟩:=h.lim _ _ e;exact h.own _ _ _ e (k.own _ _ _ e2 e3)
 defs r e:=k.defs _ (h.defs _ e)
 B0:=k.B0.trans h.B0
 h0:=k.h0.trans h.h0
 os:=k.os.trans h.os
 tape:=k.tape.trans h.tape
 output:=k.output.trans h.output
 size:=Nat.le_trans h.size k.size
 res id r e:=k.res _ _ (h.res _ _ e)
theorem pF.mono{G w G' w' full tk n base cap}(he:Evo G w G' w')(h:pF G full tk n base cap):pF G' full tk n base cap:=by
 obtain⟨h1,h2,h3⟩:=h;refine⟨h1,h2,fun t ht=>?_⟩;obtain⟨b,m,c,e1,e2,e3⟩:=h3 t ht;obtain⟨b',m',c',e1',l,q⟩:=he.tok _ _ _ _ e1;refine⟨b',m',c',e1',Nat.le_trans e2 l,fun hf hm=>?_⟩;have:m=n:=by omega
 obtain⟨q1,q2⟩:=q (by omega);obtain⟨r1,r2⟩:=e3 hf this;exact⟨q1.trans r1,q2.trans r2⟩
theorem LitAt.cellOf{G w xs tk b o sz}(h:LitAt G w xs tk b o sz){i:Nat}{x:AV}{j:Nat}{c:AV}(hx:xs[i]? = some x)(hc:x.cells[j]? = some c):
  i*sz+j<xs.length*sz:=by
 have hi:i<xs.length:=(List.getElem?_eq_some_iff.1 hx).1;have hj:j<sz:=by rw[<-h.size i x hx];exact (List.getElem?_eq_some_iff.1 hc).1
 calc i*sz+j<i*sz+sz:=by omega
  _=(i+1)*sz:=by rw[Nat.add_mul];omega
  _<=xs.length*sz:=Nat.mul_le_mul_right _ hi
theorem LitAt.mono{G w G' w' xs tk b o sz}(he:Evo G w G' w')(h:LitAt G w xs tk b o sz):LitAt G' w' xs tk b o sz:=by
 obtain⟨L,hL,hle⟩:=h.lim;obtain⟨L',hL',hle',hcell⟩:=he.lim _ _ hL;refine⟨⟨L',hL',by omega⟩,fun t ht=>h.own t (he.own _ _ _ hL ht),h.size,fun k hk=>?_⟩;rw[hcell _ (by omega)];exact h.cells k hk
theorem LitAt.same{G w G' w' xs tk b o sz}(he:Evo G w G' w')(h:LitAt G w xs tk b o sz){i:Nat}{x:AV}{j:Nat}{c:AV}{u:Value}(hx:xs[i]? = some x)(hc:x.cells[j]? = some c)(hu:w'.cell? ⟨b,o+(i*sz+j),none⟩=some u):w.cell? ⟨b,o+(i*sz+j),none⟩=some u:=by
 obtain⟨L,hL,hle⟩:=h.lim;obtain⟨L',hL',hle',hcell⟩:=he.lim _ _ hL;have:=h.cellOf hx hc;rw[<-hcell _ (by omega)];exact hu
theorem RelV.mono{G w G' w' a v}(he:Evo G w G' w')(h:RelV G w a v):RelV G' w' a v:=by
 induction h with
 |undef v=>exact .undef v
 |int k n=>exact .int k n
 |bool b=>exact .bool b
 |str s=>exact .str s
 |func h1 h2 _ _ h3 h4=>exact .func h1 h2 h3 h4
 |nilFunc=>exact .nilFunc
 |yield h=>exact .yield (he.loc _ _ h)
 |ptr h=>exact .ptr (he.loc _ _ h)
 |nilPtr=>exact .nilPtr
 |lptr ht hi hl _ ih =>
  refine .lptr (fun t e=>?_) hi (hl.mono he) fun i x j c u hx hc hu=>ih i x j c u hx hc (hl.same he hx hc hu)
  obtain⟨⟨b,n,c⟩,hp⟩:=ht t e;obtain⟨b',n',c',e',_⟩:=he.tok _ _ _ _ hp;exact⟨_,e'⟩
 |nil ht hb=>exact .nil (ht.mono he) hb
 |lit ht hl _ ih=>exact .lit (ht.mono he) (hl.mono he) fun i x j c u hx hc hu=>ih i x j c u hx hc (hl.same he hx hc hu)
 |ref h hb hc hn=>exact .ref (he.loc _ _ h) hb hc hn
 |map h=>exact .map (he.loc _ _ h)
 |nilMap=>exact .nilMap
 |agg h _ ih=>exact .agg h ih
 |tuple h _ ih=>exact .tuple h ih
theorem gC.mono{G w G' w' n env tmps}(he:Evo G w G' w')(h:gC G w n env tmps):gC G' w' n env tmps :=
 ⟨h.1,fun t=>(h.2 t).mono he⟩
theorem jD.mono{P h G w G' w' x b}(he:Evo G w G' w')(hb:w'.heap[b]? = w.heap[b]?)(hx:jD P h G w x b):jD P h G' w' x b:=by
 cases x with
 |cells cs =>
  obtain⟨vs,T,e,l,r⟩:=hx;exact⟨vs,T,hb.trans e,l,fun i a v h1 h2=>(r i a v h1 h2).mono he⟩
 |map es =>
  obtain⟨ents,e,l,q,r⟩:=hx;exact⟨ents,hb.trans e,l,q,fun i p e h1 h2=>⟨(r i p e h1 h2).1.mono he,(r i p e h1 h2).2.mono he⟩⟩
 |tok _ _ _=>exact hx
 |siter s pos=>exact hb.trans hx
 |miter m n left last =>
  obtain⟨bm,seen,stepped,h1,h2,h3⟩:=hx;exact⟨bm,seen,stepped,he.loc _ _ h1,hb.trans h2,h3⟩
 |loop st pend env ps a c =>
  obtain⟨l,n,h1,h2,h3,h4,h5,h6,h7,h8,h9⟩:=hx;exact⟨l,n,hb.trans h1,h2,h3,h4,h5,h6,h7,h8.mono he,h9⟩
 |dead=>trivial
variable {P:Program} {hh:String->Bool} {G:Gh} {w:World} {σ:St}
theorem RelV.cell{a:AV}{v:Value}(h:RelV G w a v)(hc:a.cell=true):v.oneCell'=true/\v.cells = #[v]:=by
 cases h<;>first|(simp[AV.cell] at hc;done)|exact⟨rfl,rfl⟩
theorem RelV.cells{a:AV}{v:Value}(h:RelV G w a v)(hc:a.cells.all (·.cell)=true):
  v.cells.size=a.cells.length/\(∀ (i:Nat) (x:AV) (u:Value),a.cells[i]? = some x->v.cells[i]? = some u->RelV G w x u)/\∀ u∈v.cells.toList,u.oneCell'=true:=by
 have one:∀ {a:AV} {v:Value},RelV G w a v->a.cells=[a]->a.cell=true ->
   v.cells.size=a.cells.length/\(∀ (i:Nat) (x:AV) (u:Value),a.cells[i]? = some x->v.cells[i]? = some u->RelV G w x u)/\∀ u∈v.cells.toList,u.oneCell'=true:=by
  intro a v h hs hc;obtain⟨h1,h2⟩:=h.cell hc;refine⟨by rw[h2,hs];rfl,fun i x u hx hu=>?_,fun u hu=>?_⟩
  ·rw[hs] at hx;rw[h2] at hu;cases i with
   |zero=>simp at hx hu;subst hx;subst hu;exact h
   |succ i=>simp at hx
  ·rw[h2] at hu;simp at hu;subst hu;exact h1
 cases h with
 |agg hs hr =>
  refine⟨hs,hr,fun u hu=>?_⟩;obtain⟨i,hi,rfl⟩:=List.getElem_of_mem hu;simp only[AV.cells,List.all_eq_true] at hc;simp only[Value.cells,Array.length_toList] at hi;have hi':i<(_:List AV).length:=hs▸hi;have hx:=hr i _ _ (List.getElem?_eq_getElem hi') (Array.getElem?_eq_getElem hi);simpa[Value.cells] using (hx.cell (hc _ (List.getElem_mem hi'))).1
 |tuple hs hr=>simp[AV.cells,AV.cell] at hc
 |undef v=>simp[AV.cells,AV.cell] at hc
 |int=>exact one (.int _ _) rfl rfl
 |bool=>exact one (.bool _) rfl rfl
 |str=>exact one (.str _) rfl rfl
 |func h1 h2 h3 h4=>exact one (.func h1 h2 h3 h4) rfl rfl
 |nilFunc=>exact one .nilFunc rfl rfl
 |yield h=>exact one (.yield h) rfl rfl
 |ptr h=>exact one (.ptr h) rfl rfl
 |nilPtr=>exact one .nilPtr rfl rfl
 |lptr h1 h2 h3 h4=>exact one (.lptr h1 h2 h3 h4) rfl rfl
 |nil h hb=>exact one (.nil h hb) rfl rfl
 |lit h1 h2 h3=>exact one (.lit h1 h2 h3) rfl rfl
 |ref h1 h2 h3 h4=>exact one (.ref h1 h2 h3 h4) rfl rfl
 |map h=>exact one (.map h) rfl rfl
 |nilMap=>exact one .nilMap rfl rfl
theorem fK(w:World)(o:Obj)(k:Nat):(w.alloc o).heap[k]? = if k=w.heap.size then some o else w.heap[k]?:=by
 show (w.heap.push o)[k]? = _
 rw[Array.getElem?_push]
theorem GQ(w:World)(o:Obj)(a:Addr)(h:a.block<w.heap.size):(w.alloc o).cell? a=w.cell? a:=World.cell?_alloc_lt w o a h
theorem uZ(h:RelS P hh G w σ){b L:Nat}(e:G.lim b=some L):b<w.heap.size:=by
 obtain⟨vs,T,fr,hb,_⟩:=h.lim _ _ e;exact (Array.getElem?_eq_some_iff.1 hb).1
theorem qY:Evo G w G w.drew :=
 ⟨fun _ _ h=>h,fun b L h=>⟨L,h,Nat.le_refl _,fun _ _=>rfl⟩,fun t b n c h=>⟨b,n,c,h,Nat.le_refl _,fun _=>⟨rfl,rfl⟩⟩,
  fun _ _ _ _ h=>h,fun _ h=>h,rfl,rfl,rfl,rfl,rfl,Nat.le_refl _,fun _ _ h=>h⟩
theorem RelS.drew(h:RelS P hh G w σ):RelS P hh G w.drew σ where
 lt:=h.lt
 blk id b x e1 e2:=(h.blk id b x e1 e2).mono qY rfl
 inj:=h.inj
 fresh:=h.fresh
 lim:=h.lim
 tok:=h.tok
 own:=h.own
 defs:=h.defs
 base:=h.base
 size:=h.size
 res:=h.res
theorem mF(h:RelS P hh G w σ)(o:Obj):Evo G w G (w.alloc o) where
 loc _ _ h:=h
 lim b L e:=⟨L,e,Nat.le_refl _,fun k _=>GQ w o _ (uZ h e)⟩
 tok t b n c h:=⟨b,n,c,h,Nat.le_refl _,fun _=>⟨rfl,rfl⟩⟩
 own _ _ _ _ h:=h
 defs _ h:=h
 B0:=rfl
 h0:=rfl
 os:=rfl
 tape:=rfl
 output:=rfl
 size:=by simp
 res _ _ h:=h
theorem RelS.alloc(h:RelS P hh G w σ)(o:Obj):RelS P hh G (w.alloc o) σ where
 lt:=h.lt
 blk id b x e1 e2:=(h.blk id b x e1 e2).mono (mF h o) (by rw[fK,if_neg];have:=(h.fresh _ _ e1).2.1;omega)
 inj:=h.inj
 fresh id b e:=by
  obtain⟨a,b,c⟩:=h.fresh id b e;exact⟨a,by simp;omega,c⟩
 lim b L e:=by
  obtain⟨vs,T,fr,hb,l⟩:=h.lim _ _ e;exact⟨vs,T,fr,by rw[fK,if_neg (by have:=uZ h e;omega)];exact hb,l⟩
 tok t b n c e:=by
  obtain⟨sz,ex,h1,h2,h3,h4⟩:=h.tok _ _ _ _ e;refine⟨sz,ex,h1,h2,h3,fun hx=>?_⟩;obtain⟨bb,vs,T,q1,q2,q3,q4,q5,q6⟩:=h4 hx;exact⟨bb,vs,T,q1,q2,q3,q4,by rw[fK,if_neg (by have:=uZ h q3;omega)];exact q5,q6⟩
 own b t e:=by
  obtain⟨h1,h2⟩:=h.own b t e;exact⟨by simp;omega,h2⟩
 defs r e:=by
  obtain⟨h1,h2,h3⟩:=h.defs r e;refine⟨?_,h2,h3⟩;rw[fK,if_neg]
  ·exact h1
  ·have:=(Array.getElem?_eq_some_iff.1 h1).1;omega
 base b hb:=by rw[fK,if_neg (by have:=h.size;omega)];exact h.base b hb
 size:=by have:=h.size;simp;omega
 res:=h.res
def Gh.withLoc(G:Gh)(id b:Nat):Gh:={ G with loc:=fun i=>if i=id then some b else G.loc i }
theorem oV{id b:Nat}(hid:G.loc id=none):Evo G w (G.withLoc id b) w where
 loc i c e:=by
  have:i≠id:=fun h=>by rw[h,hid] at e;cases e
  simp[Gh.withLoc,this,e]
 lim b L e:=⟨L,e,Nat.le_refl _,fun _ _=>rfl⟩
 tok t b n c h:=⟨b,n,c,h,Nat.le_refl _,fun _=>⟨rfl,rfl⟩⟩
 own _ _ _ _ h:=h
 defs _ h:=h
 B0:=rfl
 h0:=rfl
 os:=rfl
 tape:=rfl
 output:=rfl
 size:=Nat.le_refl _
 res _ _ h:=h
theorem RelS.withLoc{id b:Nat}{x:ABlk}(h:RelS P hh G w σ)(hres:G.res id=none)(hid:G.loc id=none)(hx:σ[id]? = some x)(hr:jD P hh (G.withLoc id b) w x b)(h1:G.B0<=b)(h2:b<w.heap.size)(h3:G.lim b=none)(h4:¬G.defs b)(h5:∀ i,G.loc i≠some b):RelS P hh (G.withLoc id b) w σ where
 lt i c e:=by
  by_cases hi:i=id
  ·subst hi;exact (List.getElem?_eq_some_iff.1 hx).1
  ·simp[Gh.withLoc,hi] at e;exact h.lt i c e
 blk i c y e1 e2:=by
  by_cases hi:i=id
  ·subst hi;simp[Gh.withLoc] at e1;subst e1;rw[hx] at e2;cases e2;exact hr
  ·simp[Gh.withLoc,hi] at e1;exact (h.blk i c y e1 e2).mono (oV hid) rfl
 inj i j c e1 e2:=by
  by_cases hi:i=id<;>by_cases hj:j=id
  ·rw[hi,hj]
  ·simp[Gh.withLoc,hi] at e1;simp[Gh.withLoc,hj] at e2;subst e1;exact absurd e2 (h5 j)
  ·simp[Gh.withLoc,hi] at e1;simp[Gh.withLoc,hj] at e2;subst e2;exact absurd e1 (h5 i)
  ·simp[Gh.withLoc,hi] at e1;simp[Gh.withLoc,hj] at e2;exact h.inj i j c e1 e2
 fresh i c e:=by
  by_cases hi:i=id
  ·simp[Gh.withLoc,hi] at e;subst e;exact⟨h1,h2,h3,h4⟩
  ·simp[Gh.withLoc,hi] at e;exact h.fresh i c e
 lim:=h.lim
 tok:=h.tok
 own:=h.own
 defs:=h.defs
 base:=h.base
 size:=h.size
 res i r e:=by
  have hi:i≠id:=fun hi=>by subst hi;rw[show (G.withLoc i b).res i=G.res i from rfl,hres] at e;cases e
  have:=h.res i r e;simpa[Gh.withLoc,hi] using this
theorem RelS.more(h:RelS P hh G w σ)(τ:St):RelS P hh G w (σ++τ) where
 lt i c e:=by have:=h.lt i c e;simp;omega
 blk i c y e1 e2:=h.blk i c y e1 (by rw[List.getElem?_append_left (h.lt i c e1)] at e2;exact e2)
 inj:=h.inj
 fresh:=h.fresh
 lim:=h.lim
 tok t b n c e:=by
  obtain⟨sz,ex,h1,rest⟩:=h.tok t b n c e;exact⟨sz,ex,by rw[List.getElem?_append_left (List.getElem?_eq_some_iff.1 h1).1];exact h1,rest⟩
 own:=h.own
 defs:=h.defs
 base:=h.base
 size:=h.size
 res i r e:=by
  obtain⟨q1,q2,q3⟩:=h.res i r e;exact⟨q1,by simp;omega,fun cs hc=>by rw[List.getElem?_append_left q2];exact q3 cs hc⟩
theorem wN(h:RelS P hh G w σ){id:Nat}(hid:σ.length<=id):G.loc id=none:=by
 cases e:G.loc id with
 |none=>rfl
 |some b=>have:=h.lt _ _ e;omega
theorem PL(h:RelS P hh G w σ){id:Nat}(hid:σ.length<=id):G.res id=none:=by
 cases e:G.res id with
 |none=>rfl
 |some b=>have:=(h.res _ _ e).2.1;omega
theorem ZE(h:RelS P hh G w σ){b:Nat}(hb:w.heap.size<=b)(i:Nat):G.loc i≠some b:=fun e=>by
 have:=(h.fresh _ _ e).2.1;omega
theorem RelS.new{x:ABlk}{o:Obj}(h:RelS P hh G w σ)(hr:jD P hh (G.withLoc σ.length w.heap.size) (w.alloc o) x w.heap.size):
  RelS P hh (G.withLoc σ.length w.heap.size) (w.alloc o) (σ++[x])/\Evo G w (G.withLoc σ.length w.heap.size) (w.alloc o):=by
 have h1:=(h.alloc o).more [x];have hl:G.loc σ.length=none:=wN h (Nat.le_refl _);refine⟨h1.withLoc (PL h (Nat.le_refl _)) hl (by simp) hr h.size (by simp) ?_ ?_ (fun i=>ZE h (Nat.le_refl _) i),(mF h o).trans (oV hl)⟩
 ·cases e:G.lim w.heap.size with
  |none=>rfl
  |some L=>have:=uZ h e;omega
 ·intro e;have:=(Array.getElem?_eq_some_iff.1 (h.defs _ e).1).1;omega
theorem RelS.place{x:ABlk}{o:Obj}{id:Nat}(h:RelS P hh G w σ)(hres:G.res id=none)(hid:G.loc id=none)(hx:σ[id]? = some x)(hr:jD P hh (G.withLoc id w.heap.size) (w.alloc o) x w.heap.size):
  RelS P hh (G.withLoc id w.heap.size) (w.alloc o) σ/\Evo G w (G.withLoc id w.heap.size) (w.alloc o):=by
 refine⟨(h.alloc o).withLoc hres hid hx hr h.size (by simp) ?_ ?_ (fun i=>ZE h (Nat.le_refl _) i),(mF h o).trans (oV hid)⟩
 ·cases e:G.lim w.heap.size with
  |none=>rfl
  |some L=>have:=uZ h e;omega
 ·intro e;have:=(Array.getElem?_eq_some_iff.1 (h.defs _ e).1).1;omega
def Gh.withLim(G:Gh)(b n:Nat):Gh:={ G with lim:=fun i=>if i=b then some n else G.lim i }
theorem RelS.newLit(h:RelS P hh G w σ)(cs:Array Value)(T:TypeId):
  RelS P hh (G.withLim w.heap.size cs.size) (w.alloc (.cells cs T)) σ/\Evo G w (G.withLim w.heap.size cs.size) (w.alloc (.cells cs T)):=by
 have hn:G.lim w.heap.size=none:=by
  cases e:G.lim w.heap.size with
  |none=>rfl
  |some L=>have:=uZ h e;omega
 have ho:∀ t,G.own w.heap.size≠some t:=fun t e=>by have:=(h.own _ _ e).1;omega
 have he0:Evo G (w.alloc (.cells cs T)) (G.withLim w.heap.size cs.size) (w.alloc (.cells cs T)):=by
  refine⟨fun _ _ h=>h,fun b L e=>⟨L,?_,Nat.le_refl _,fun _ _=>rfl⟩,fun t b n c h=>⟨b,n,c,h,Nat.le_refl _,fun _=>⟨rfl,rfl⟩⟩,
   fun _ _ _ _ h=>h,fun _ h=>h,rfl,rfl,rfl,rfl,rfl,Nat.le_refl _,fun _ _ h=>h⟩
  have:b≠w.heap.size:=fun e'=>by rw[e',hn] at e;cases e
  simp[Gh.withLim,this,e]
 have h1:=h.alloc (.cells cs T)
 refine⟨⟨h.lt,fun id b x e1 e2=>(h1.blk id b x e1 e2).mono he0 rfl,h.inj,fun id b e=>?_,fun b L e=>?_,fun t b n c e=>?_,h1.own,fun r e=>?_,h1.base,h1.size,h1.res⟩,
  (mF h _).trans he0⟩
 ·obtain⟨q1,q2,q3,q4⟩:=h1.fresh id b e;have:b≠w.heap.size:=by have:=(h.fresh id b e).2.1;omega
  exact⟨q1,q2,by simp[Gh.withLim,this,q3],q4⟩
 ·by_cases hb:b=w.heap.size
  ·subst hb;simp[Gh.withLim] at e;subst e;exact⟨cs,T,(0,0),by rw[fK,if_pos rfl],Nat.le_refl _,fun hlt=>absurd hlt (Nat.not_lt.2 h.size)⟩
  ·simp[Gh.withLim,hb] at e;exact h1.lim b L e
 ·obtain⟨sz,ex,q1,q2,q3,q4⟩:=h1.tok t b n c e;refine⟨sz,ex,q1,q2,q3,fun hx=>?_⟩;obtain⟨bb,vs,T',r1,r2,r3,r4,r5,r6⟩:=q4 hx;have:bb≠w.heap.size:=fun e'=>by rw[e'] at r2;exact ho _ r2
  exact⟨bb,vs,T',r1,r2,by simp[Gh.withLim,this,r3],r4,r5,r6⟩
 ·obtain⟨q1,q2,q3⟩:=h1.defs r e;have:r≠w.heap.size:=by have:=(Array.getElem?_eq_some_iff.1 (h.defs _ e).1).1;omega
  exact⟨q1,q2,by simp[Gh.withLim,this,q3]⟩
structure Part (b:Nat) (w w':World):Prop where
 os:w'.os=w.os
 tape:w'.tape=w.tape
 output:w'.output=w.output
 size:w'.heap.size=w.heap.size
 other:∀ k,k≠b->w'.heap[k]? = w.heap[k]?
theorem Part.cell{b:Nat}{w w':World}(h:Part b w w'){a:Addr}(ha:a.block≠b):w'.cell? a=w.cell? a:=by
 simp[World.cell?,h.other _ ha]
theorem rI{b:Nat}{w w':World}(hp:Part b w w')(hb:G.lim b=none):Evo G w G w' where
 loc _ _ h:=h
 lim c L e:=⟨L,e,Nat.le_refl _,fun k _=>hp.cell (fun e'=>by simp at e';rw[e',hb] at e;cases e)⟩
 tok t b n c h:=⟨b,n,c,h,Nat.le_refl _,fun _=>⟨rfl,rfl⟩⟩
 own _ _ _ _ h:=h
 defs _ h:=h
 B0:=rfl
 h0:=rfl
 os:=hp.os
 tape:=hp.tape
 output:=hp.output
 size:=Nat.le_of_eq hp.size.symm
 res _ _ h:=h
theorem RelS.write{b id:Nat}{w':World}{x y:ABlk}(h:RelS P hh G w σ)(hl:G.loc id=some b)(hp:Part b w w')(hx:σ[id]? = some x)(ht:∀ a b c,x≠.tok a b c)(hr:jD P hh G w' y b):RelS P hh G w' (σ.set id y)/\Evo G w G w':=by
 obtain⟨f1,f2,f3,f4⟩:=h.fresh _ _ hl;have he:=rI hp f3;refine⟨⟨fun i c e=>by have:=h.lt i c e;simpa using this,fun i c z e1 e2=>?_,h.inj,fun i c e=>?_,fun c L e=>?_,fun t c n k e=>?_,fun c t e=>?_,fun r e=>?_,fun c hc=>?_,?_,fun i r e=>?_⟩,he⟩
 ·by_cases hi:i=id
  ·subst hi;rw[hl] at e1;cases e1;rw[List.getElem?_set_self (h.lt _ _ hl)] at e2;cases e2;exact hr
  ·rw[List.getElem?_set_ne (fun e=>hi e.symm)] at e2;refine (h.blk i c z e1 e2).mono he (hp.other _ fun e=>hi ?_);subst e;exact h.inj _ _ _ e1 hl
 ·obtain⟨a,b,c⟩:=h.fresh i c e;exact⟨a,by rw[hp.size];exact b,c⟩
 ·obtain⟨vs,T,fr,q,l⟩:=h.lim c L e;refine⟨vs,T,fr,?_,l⟩;rw[hp.other _ fun e'=>by rw[e',f3] at e;cases e];exact q
 ·obtain⟨sz,ex,q1,q2,q3,q4⟩:=h.tok t c n k e;refine⟨sz,ex,?_,q2,q3,fun hx'=>?_⟩
  ·rw[List.getElem?_set_ne]
   ·exact q1
   ·intro e';subst e';rw[hx] at q1;cases q1;exact ht _ _ _ rfl
  ·obtain⟨bb,vs,T,r1,r2,r3,r4,r5,r6⟩:=q4 hx';refine⟨bb,vs,T,r1,r2,r3,r4,?_,r6⟩;rw[hp.other _ fun e'=>by rw[e',f3] at r3;cases r3];exact r5
 ·obtain⟨q1,q2⟩:=h.own c t e;exact⟨by rw[hp.size];exact q1,q2⟩
 ·obtain⟨q1,q2,q3⟩:=h.defs r e;refine⟨?_,q2,q3⟩;rw[hp.other _ fun e'=>by rw[e'] at e;exact f4 e];exact q1
 ·rw[hp.other _ (by omega)];exact h.base c hc
 ·rw[hp.size];exact h.size
 ·obtain⟨q1,q2,q3⟩:=h.res i r e;have hi:i≠id:=fun hi=>by subst hi;rw[hl] at q1;cases q1
  exact⟨q1,by simpa using q2,fun cs hc=>by rw[List.getElem?_set_ne (Ne.symm hi)];exact q3 cs hc⟩
theorem D6(w:World)(g:Nat)(cs:Array Value):Part g w (w.setRow g cs) :=
 ⟨rfl,rfl,rfl,by simp,fun k hk=>setRow_other w g k cs fun e=>hk (e▸rfl)⟩
theorem mC(w:World)(g:Nat)(o:Obj):Part g w { w with heap:=w.heap.setIfInBounds g o } :=
 ⟨rfl,rfl,rfl,by simp,fun k hk=>by simp[Array.getElem?_setIfInBounds_ne (Ne.symm hk)]⟩
end Go.Am
namespace Go.Am
variable {P:Program} {hh:String->Bool} {G:Gh} {w:World} {σ:St} {env:Env}
theorem AL{v:Value}{a:AV}(h:AD v=some a):RelV G w a v:=by
 unfold AD at h;split at h<;>first|cases h|skip
 ·exact .bool _
 ·exact .int _ _
 ·exact .str _
 ·exact .nilPtr
 ·exact .nil ⟨Nat.le_refl _,fun _=>rfl,fun t e=>by cases e⟩ fun _=>rfl
 ·exact .nilMap
 ·exact .nilFunc
theorem yU:∀ {vs:List Value} {az:List AV},sZ vs=some az->vs.length=az.length/\∀ (i:Nat) (a:AV) (v:Value),az[i]? = some a->vs[i]? = some v->RelV G w a v
 |[],az,h=>by simp[sZ] at h;subst h;exact⟨rfl,fun i a v h=>by simp at h⟩
 |v::vs,az,h=>by
  simp only[sZ] at h;split at h
  ·rename_i a b h1 h2;cases h;obtain⟨l,r⟩:=yU h2;refine⟨by simp[l],fun i x u hx hu=>?_⟩;cases i with
   |zero=>simp at hx hu;subst hx;subst hu;exact AL h1
   |succ i=>simp at hx hu;exact r i x u hx hu
  ·cases h
theorem wU{v:Value}{a:AV}(h:ofValue v=some a):RelV G w a v:=by
 unfold ofValue at h;split at h
 ·rename_i cs;split at h
  ·rename_i l hl;cases h;obtain⟨q,r⟩:=yU hl;exact .agg (by simpa using q) fun i a v h1 h2=>r i a v h1 (by simpa using h2)
  ·cases h
 ·rename_i vs;split at h
  ·rename_i hs;cases h;exact .tuple (by simpa using hs) fun i a v h1 _=>by simp at h1
  ·cases h
 ·exact AL h
theorem dF{n:Nat}{a:Act}{x:Operand}{x':AOpd}(hx:opd x=some x')(hE:gC G w n env a.tmps):RelV G w (x'.ev env) (a.eval x):=by
 cases x with
 |tmp t=>simp[opd] at hx;subst hx;exact hE.2 t
 |const v =>
  simp only[opd] at hx;split at hx
  ·rename_i b hb;cases hx;exact wU hb
  ·cases hx
 |global g=>simp[opd] at hx
 |func f=>simp[opd] at hx;subst hx;exact .func rfl rfl (fun i a v h=>by simp at h) (fun i a v h=>by simp at h)
theorem UA{n:Nat}{a:Act}:∀ {xs:List Operand} {ys:List AOpd},HR xs=some ys->gC G w n env a.tmps ->
  xs.length=ys.length/\∀ (i:Nat) (y:AV) (v:Value),(ys.map (·.ev env))[i]? = some y->(xs.map a.eval)[i]? = some v->RelV G w y v
 |[],ys,h,_=>by simp[HR] at h;subst h;exact⟨rfl,fun i a v h=>by simp at h⟩
 |x::xs,ys,h,hE=>by
  simp only[HR] at h;split at h
  ·rename_i a b h1 h2;cases h;obtain⟨l,r⟩:=UA h2 hE;refine⟨by simp[l],fun i y u hy hu=>?_⟩;cases i with
   |zero=>simp at hy hu;subst hy;subst hu;exact dF h1 hE
   |succ i=>simp only[List.map_cons,List.getElem?_cons_succ] at hy hu;exact r i y u hy hu
  ·cases h
theorem gE{t:TypeId}{n:Nat}(h:gT P t=some n)(w:World):(sizeOf t).run P w = .ok n w/\0<n/\∃ i,P.info? t=some i/\i.size=n:=by
 unfold gT at h;split at h
 ·rename_i i hi;split at h
  ·cases h
  ·cases h;exact⟨by simp[sizeOf,typeInfo,hi],by omega,i,hi,rfl⟩
 ·cases h
theorem mD{t:TypeId}{b:Bool}(h:gR P t=some b)(w:World):(isAgg t).run P w = .ok b w:=by
 unfold gR at h;unfold isAgg;split at h
 ·rename_i hu;cases h;simp[run_underlying hu]
 ·rename_i hu;cases h;simp[run_underlying hu]
 ·rename_i d h1 h2 hu;cases h;rw[Sem.run_bind,run_underlying hu];cases d<;>simp_all
 ·cases h
theorem uN{t:TypeId}{sh:Option Nat}(h:qM P t=some sh):
  (sh=none/\gR P t=some false/\gT P t=some 1)\/(∃ n,sh=some n/\gR P t=some true/\gT P t=some n):=by
 unfold qM at h;split at h
 ·rename_i n h1 h2;cases h;exact .inr ⟨n,rfl,h1,h2⟩
 ·rename_i h1 h2;cases h;exact .inl ⟨rfl,h1,h2⟩
 ·cases h
theorem kW(b o i:Nat):(⟨b,o,none⟩:Addr).add i=⟨b,o+i,none⟩:=by unfold Addr.add;split<;>simp_all
def AO(G:Gh)(w:World)(cs:List AV)(b o:Nat):Prop :=
 ∀ (i:Nat) (c:AV),cs[i]? = some c->∃ u,w.cell? ⟨b,o+i,none⟩=some u/\RelV G w c u
theorem AO.list{cs:List AV}{b o:Nat}(h:AO G w cs b o):
  ∃ vs:List Value,vs.length=cs.length/\(∀ (j:Nat) (v:Value),vs[j]? = some v->w.cell? ((⟨b,o,none⟩:Addr).add j)=some v) /\
   ∀ (i:Nat) (c:AV) (v:Value),cs[i]? = some c->vs[i]? = some v->RelV G w c v:=by
 induction cs generalizing o with
 |nil=>exact⟨[],rfl,fun j v h=>by simp at h,fun i c v h=>by simp at h⟩
 |cons c cs ih =>
  obtain⟨u,hu,hr⟩:=h 0 c rfl;obtain⟨vs,l,h1,h2⟩:=ih (o:=o+1) fun i d hd=>by
   obtain⟨u,q,r⟩:=h (i+1) d (by simpa using hd);exact⟨u,by rw[show o+1+i=o+(i+1) from by omega];exact q,r⟩
  refine⟨u::vs,by simp[l],fun j v hj=>?_,fun i d v hd hv=>?_⟩
  ·cases j with
   |zero=>simp at hj;subst hj;rw[kW];exact hu
   |succ j=>simp at hj;have:=h1 j v hj;rw[kW] at this ⊢;rw[show o+(j+1)=o+1+j from by omega];exact this
  ·cases i with
   |zero=>simp at hd hv;subst hd;subst hv;exact hr
   |succ i=>simp at hd hv;exact h2 i d v hd hv
theorem AO.sub{cs:List AV}{b o:Nat}(h:AO G w cs b o)(k n:Nat):AO G w ((cs.drop k).take n) b (o+k):=by
 intro i c hc;rw[List.getElem?_take] at hc;split at hc
 ·rw[List.getElem?_drop] at hc;obtain⟨u,q,r⟩:=h _ _ hc;exact⟨u,by rw[Nat.add_assoc];exact q,r⟩
 ·cases hc
theorem D1{t:TypeId}{sh:Option Nat}{cs:List AV}{b o off:Nat}{v:AV}(ht:qM P t=some sh)(hr:AO G w cs b o)(hv:iF sh cs off=some v):
  ∃ u,(loadVar t ⟨b,o+off,none⟩).run P w = .ok u w/\RelV G w v u:=by
 rcases uN ht with⟨rfl,h1,h2⟩|⟨n,rfl,h1,h2⟩
 ·simp only[iF] at hv;obtain⟨u,hu,r⟩:=hr _ _ hv;refine⟨u,?_,r⟩;simp[loadVar,mD h1,run_load,hu]
 ·simp only[iF] at hv;split at hv
  ·rename_i hle;cases hv;obtain⟨vs,l,h3,h4⟩:=(hr.sub off n).list;have hl:vs.length=n:=by rw[l];simp;omega
   have hrun:=run_loadCells_list (P:=P) w ⟨b,o+off,none⟩ vs h3;rw[hl] at hrun;obtain⟨hs,_⟩:=gE h2 w;refine⟨.agg vs.toArray,?_,.agg (by simp[l]) fun i a v e1 e2=>h4 i a v e1 (by simpa using e2)⟩;simp[loadVar,mD h1,hs,hrun]
  ·cases hv
theorem sR{id:Nat}{cs:List AV}{b:Nat}(h:RelS P hh G w σ)(hl:G.loc id=some b)(hc:aH σ id=some cs):AO G w cs b 0:=by
 unfold aH at hc;split at hc
 ·rename_i ds he;cases hc;obtain⟨vs,T,e,l,r⟩:=h.blk _ _ _ hl he;intro i c hi;have h1:i<vs.size:=by have:=(List.getElem?_eq_some_iff.1 hi).1;omega
  refine⟨vs[i],?_,r i c _ hi (Array.getElem?_eq_getElem h1)⟩;rw[Nat.zero_add,cell_of_row w b i vs T (0,0) e];exact Array.getElem?_eq_getElem h1
 ·cases hc
theorem UO{xs:List AV}{tk:Option Nat}{b o sz i:Nat}{x:AV}(hl:LitAt G w xs tk b o sz)(hc:∀ (i:Nat) (x:AV) (j:Nat) (c:AV) (u:Value),xs[i]? = some x->x.cells[j]? = some c->w.cell? ⟨b,o+(i*sz+j),none⟩=some u->RelV G w c u)(hx:xs[i]? = some x):AO G w x.cells b (o+i*sz):=by
 intro j c hj;have h1:=hl.cells _ (hl.cellOf hx hj);obtain⟨u,hu⟩:=Option.isSome_iff_exists.1 h1;exact⟨u,by rw[Nat.add_assoc];exact hu,hc i x j c u hx hj hu⟩
theorem BT{t:TypeId}{sh:Option Nat}{x v:AV}{u:Value}(hS:RelS P hh G w σ)(ht:qM P t=some sh)(hx:RelV G w x u)(h:mX sh σ x=some v):
  ∃ a r,u = .pointer (some a)/\(loadVar t a).run P w = .ok r w/\RelV G w v r:=by
 unfold mX at h;split at h
 ·rename_i id off;split at h
  ·rename_i cs hcs;cases hx with
   |ptr hl =>
    obtain⟨r,h1,h2⟩:=D1 ht (sR hS hl hcs) h;rw[Nat.zero_add] at h1;exact⟨_,r,rfl,h1,h2⟩
  ·cases h
 ·rename_i xs i off tk;split at h
  ·rename_i y hy;cases hx with
   |lptr h1 h2 h3 h4 =>
    obtain⟨r,q1,q2⟩:=D1 ht (UO h3 h4 hy) h;exact⟨_,r,rfl,q1,q2⟩
  ·cases h
 ·cases h
theorem sV{cs vs cs':List AV}{off:Nat}(h:iC cs off vs=some cs'):
  off+vs.length<=cs.length/\cs'=cs.take off++vs++cs.drop (off+vs.length)/\cs'.length=cs.length:=by
 unfold iC at h;split at h
 ·rename_i hl;cases h;exact⟨hl,rfl,by simp;omega⟩
 ·cases h
theorem UL{cs vs:List AV}{cur us:List Value}{off:Nat}(hl:us.length=vs.length)(hle:off+vs.length<=cs.length)(hcur:cs.length<=cur.length)(h1:∀ (i:Nat) (a:AV) (v:Value),cs[i]? = some a->cur[i]? = some v->RelV G w a v)(h2:∀ (i:Nat) (a:AV) (v:Value),vs[i]? = some a->us[i]? = some v->RelV G w a v):
  ∀ (i:Nat) (a:AV) (v:Value),(cs.take off++vs++cs.drop (off+vs.length))[i]? = some a->(cur.take off++us++cur.drop (off+us.length))[i]? = some v->RelV G w a v:=by
 intro i a v ha hv;by_cases c1:i<off
 ·rw[List.append_assoc,List.getElem?_append_left (by simp;omega),List.getElem?_take,if_pos c1] at ha hv;exact h1 i a v ha hv
 ·by_cases c2:i<off+vs.length
  ·rw[List.append_assoc,List.getElem?_append_right (by simp;omega),List.getElem?_append_left (by simp;omega)] at ha hv;simp only[List.length_take] at ha hv;rw[show min off cs.length=off from by omega] at ha;rw[show min off cur.length=off from by omega] at hv;exact h2 _ a v ha hv
  ·rw[List.getElem?_append_right (by simp;omega)] at ha hv;simp only[List.length_append,List.length_take,List.getElem?_drop] at ha hv;rw[show off+vs.length+(i-(min off cs.length+vs.length))=i from by omega] at ha;rw[show off+us.length+(i-(min off cur.length+us.length))=i from by omega] at hv;exact h1 i a v ha hv
theorem vN{id b off:Nat}{cs cs' vs:List AV}{us:List Value}(hS:RelS P hh G w σ)(hl:G.loc id=some b)(hc:aH σ id=some cs)(hset:iC cs off vs=some cs')(hlen:us.length=vs.length)(hr:∀ (i:Nat) (a:AV) (v:Value),vs[i]? = some a->us[i]? = some v->RelV G w a v)(h1:∀ u∈us,u.oneCell'=true):
  ∃ w',(storeCells ⟨b,off,none⟩ us).run P w = .ok () w'/\RelS P hh G w' (σ.set id (.cells cs'))/\Evo G w G w':=by
 unfold aH at hc;split at hc
 ·rename_i ds he;cases hc;obtain⟨cur,T,e,l,r⟩:=hS.blk _ _ _ hl he;obtain⟨q1,q2,q3⟩:=sV hset;have hrun:=run_storeCells_at P b off T us 0 cur w e (by omega) h1;rw[Nat.add_zero] at hrun;refine⟨_,hrun,?_⟩;have hp:=D6 w b (cur.toList.take off++us++cur.toList.drop (off+us.length)).toArray;have hev:=rI hp (hS.fresh _ _ hl).2.2.1;refine hS.write hl hp he (fun _ _ _ h=>by cases h) ⟨_,T,setRow_heap w b cur _ T _ e,?_,fun i a v ha hv=>?_⟩
  ·simp;omega
  ·refine RelV.mono hev ?_;rw[q2] at ha;exact UL (cs:=_) (cur:=cur.toList) hlen q1 (by simpa using l) (fun i a v h3 h4=>r i a v h3 (by simpa using h4)) hr i a v ha (by simpa using hv)
 ·cases hc
theorem IC{t:TypeId}{n:Nat}{x y:AV}{u v:Value}{σ':St}(hS:RelS P hh G w σ)(ht:gT P t=some n)(hx:RelV G w x u)(hy:RelV G w y v)(h:sI n σ x y=some σ'):
  ∃ a w',u = .pointer (some a)/\(storeVar t a v).run P w = .ok () w'/\RelS P hh G w' σ'/\Evo G w G w':=by
 unfold sI at h;split at h
 ·rename_i id off;split at h
  ·rename_i hcond;simp only[Bool.and_eq_true,beq_iff_eq] at hcond;split at h
   ·rename_i cs hcs;split at h
    ·rename_i cs' hset;cases h;cases hx with
     |ptr hl =>
      obtain⟨k1,k2,k3⟩:=hy.cells hcond.2;obtain⟨w',e1,e2,e3⟩:=vN (us:=v.cells.toList) hS hl hcs hset (by simpa using k1) (fun i a v h3 h4=>k2 i a v h3 (by simpa using h4)) k3;refine⟨_,w',rfl,?_,e2,e3⟩;obtain⟨hs,_⟩:=gE ht w;have hne:¬v.cells.size≠n:=by rw[k1,hcond.1];simp
      simp only[storeVar,Sem.run_bind,hs,Result.andThen_ok,hne,if_false];exact e1
    ·cases h
   ·cases h
  ·cases h
 ·cases h
end Go.Am
namespace Go.Am
variable {P:Program} {hh:String->Bool} {G:Gh} {w:World} {σ σ':St} {env:Env}
def B1(P:Program)(hh:String->Bool)(G:Gh)(w:World)(v:AV)(σ':St)(r:Result Next):Prop :=
 ∃ nx w' G',r = .ok nx w'/\((∃ u,nx = .value u/\RelV G' w' v u)\/(nx = .skip/\v = .tuple []))/\RelS P hh G' w' σ'/\Evo G w G' w'
theorem B1.val{v:AV}{u:Value}(hS:RelS P hh G w σ)(h:RelV G w v u):B1 P hh G w v σ (.ok (.value u) w) :=
 ⟨_,w,G,rfl,.inl ⟨u,rfl,h⟩,hS,.refl _ _⟩
theorem FT{t:TypeId}{z:AV}(h:NW P t=some z):∃ i v,P.info? t=some i/\i.zero=some v/\ofValue v=some z/\∀ w,(zeroValue t).run P w = .ok v w:=by
 unfold NW at h;split at h
 ·rename_i i hi;split at h
  ·rename_i v hv;exact⟨i,v,hi,hv,h,fun w=>by simp[zeroValue,typeInfo,hi,hv]⟩
  ·cases h
 ·cases h
theorem j7{t:TypeId}{z:List AV}(h:hJ P t=some z):
  ∃ i v,P.info? t=some i/\i.zero=some v/\i.size=z.length/\0<z.length/\(∀ w,(zeroValue t).run P w = .ok v w)/\v.cells.size=z.length/\z.all (·.cell)=true /\
   ∀ G w,(∀ (i:Nat) (x:AV) (u:Value),z[i]? = some x->v.cells[i]? = some u->RelV G w x u)/\∀ u∈v.cells.toList,u.oneCell'=true:=by
 unfold hJ at h;split at h
 ·rename_i y n h1 h2;split at h
  ·rename_i hc;cases h;obtain⟨i,v,hi,hz,hv,hrun⟩:=FT h1;obtain⟨_,hn,j,hj,hjs⟩:=gE (P:=P) h2 default;rw[hi] at hj;cases hj;have hr:∀ G w,RelV G w y v:=fun G w=>wU hv
   have hcells:=fun G w=>(hr G w).cells hc.2
   refine⟨i,v,hi,hz,by rw[hjs,hc.1],by rw[hc.1];exact hn,hrun,(hcells ⟨fun _=>none,fun _=>none,fun _=>none,fun _=>none,fun _=>False,0,#[],fun _=>none⟩ default).1,hc.2,fun G w=>⟨(hcells G w).2.1,(hcells G w).2.2⟩⟩
  ·cases h
 ·cases h
theorem JO{t:TypeId}{z:List AV}(h:hJ P t=some z)(w:World):
  ∃ vs:Array Value,(Instr.alloc t true (.tuple #[])).run P w = .ok (.pointer (some ⟨w.heap.size,0,none⟩)) (w.alloc (.cells vs t))/\vs.size=z.length /\
   ∀ G w,(∀ (i:Nat) (x:AV) (u:Value),z[i]? = some x->vs[i]? = some u->RelV G w x u):=by
 obtain⟨i,v,hi,hz,hs,h0,hrun,hsz,hcell,hr⟩:=j7 h;exact⟨v.cells,by simp[Instr.alloc,hrun,newVar,newRow],hsz,fun G w=>(hr G w).1⟩
theorem I1{cs:List AV}{vs:Array Value}{T:TypeId}(hl:cs.length<=vs.size)(hr:∀ (i:Nat) (x:AV) (u:Value),cs[i]? = some x->vs[i]? = some u->RelV G (w.alloc (.cells vs T)) x u):
  jD P hh G (w.alloc (.cells vs T)) (.cells cs) w.heap.size :=
 ⟨vs,T,by rw[fK,if_pos rfl],hl,hr⟩
theorem vZ{cs:List AV}{vs:Array Value}{T:TypeId}(hS:RelS P hh G w σ)(hl:cs.length<=vs.size)(hr:∀ (i:Nat) (x:AV) (u:Value),cs[i]? = some x->vs[i]? = some u->RelV G w x u):
  RelS P hh (G.withLoc σ.length w.heap.size) (w.alloc (.cells vs T)) (σ++[.cells cs])/\Evo G w (G.withLoc σ.length w.heap.size) (w.alloc (.cells vs T)):=by
 have he:=(mF hS (.cells vs T)).trans (oV (b:=w.heap.size) (wN hS (Nat.le_refl _)));exact hS.new (I1 hl fun i x u h1 h2=>(hr i x u h1 h2).mono he)
theorem fV{id b:Nat}:(G.withLoc id b).loc id=some b:=by simp[Gh.withLoc]
theorem V0(vs:List Value):∀ (k:Nat) (cs:Array Value) (off:Nat),off+k+vs.length<=cs.size ->
  ((vs.zipIdx k).foldl (fun cs (p:Value×Nat)=>cs.setIfInBounds (off+p.2) p.1) cs).toList=cs.toList.take (off+k)++vs++cs.toList.drop (off+k+vs.length):=by
 induction vs with
 |nil=>intro k cs off h;simp
 |cons v vs ih =>
  intro k cs off h;simp only[List.zipIdx_cons,List.foldl_cons];rw[ih (k+1) _ off (by simp at h ⊢;omega),Array.toList_setIfInBounds];have e:=list_seg_step cs.toList (off+k) v vs (by simp at h ⊢;omega);simpa[Nat.add_assoc] using e
theorem IN{place:Nat->Option (Nat×Nat)}{cells:Array Value}{i off n:Nat}{v:Value}{rest:List (Nat×Value)}(hp:place i=some (off,n))(hn:v.cells.size=n)(hle:off+n<=cells.size):
  Instr.fill place cells ((i,v)::rest)=Instr.fill place (cells.toList.take off++v.cells.toList++cells.toList.drop (off+n)).toArray rest:=by
 have h1:¬(v.cells.size≠n\/cells.size<off+v.cells.size):=by omega
 have h2:=V0 v.cells.toList 0 cells off (by simp;omega);simp only[Instr.fill,hp];rw[if_neg (by simpa using h1)]
 congr 1
 apply Array.ext';rw[<-Array.foldl_toList];simp only[Array.toList_zipIdx];rw[h2];simp[hn]
theorem AC{t:TypeId}{place:Nat->Option (Nat×Nat)}{n:Nat}{a:Act}(hE:gC G w n env a.tmps)(hplace:∀ i off m,(match P.underlying t with
   |some (.struct fs)=>match fs[i]? with|some f=>(match gT P f.type with|some n=>some (f.offset,n)|none=>none)|none=>none
   |some (.array n e)=>if i<n then (match gT P e with|some m=>some (i*m,m)|none=>none) else none
   |_=>none)=some (off,m)->place i=some (off,m)):
  ∀ {ops:List (Nat×Operand)} {ps:List (Nat×Nat×AOpd)} {cs cs':List AV} {vs:Array Value},nO P t ops=some ps->dB env cs ps=some cs'->cs.length=vs.size ->
   (∀ (i:Nat) (x:AV) (u:Value),cs[i]? = some x->vs[i]? = some u->RelV G w x u) ->
   ∃ vs',Instr.fill place vs (ops.map fun p=>(p.1,a.eval p.2))=some vs'/\cs'.length=vs'.size/\∀ (i:Nat) (x:AV) (u:Value),cs'[i]? = some x->vs'[i]? = some u->RelV G w x u
 |[],ps,cs,cs',vs,h1,h2,h3,h4=>by
  simp[nO] at h1;subst h1;simp[dB] at h2;subst h2;exact⟨vs,rfl,h3,h4⟩
 |(i,x)::ops,ps,cs,cs',vs,h1,h2,h3,h4=>by
  simp only[nO] at h1;split at h1
  ·rename_i off m b r hp hx hr;cases h1;simp only[dB] at h2;split at h2
   ·rename_i hc;simp only[Bool.and_eq_true,beq_iff_eq] at hc;split at h2
    ·rename_i ds hset;obtain⟨q1,q2,q3⟩:=sV hset;have hv:=dF (x:=x) hx hE;obtain⟨k1,k2,k3⟩:=hv.cells hc.2;have hsz:(a.eval x).cells.size=m:=by rw[k1,hc.1]
     have hle:off+m<=vs.size:=by rw[hc.1] at q1;omega
     have hrel:=UL (cs:=cs) (vs:=(b.ev env).cells) (cur:=vs.toList) (us:=(a.eval x).cells.toList) (G:=G) (w:=w) (off:=off) (by simpa using k1) q1 (by simp;omega)
      (fun i a v e1 e2=>h4 i a v e1 (by simpa using e2)) (fun i a v e1 e2=>k2 i a v e1 (by simpa using e2))
     simp only[List.map_cons];rw[IN (hplace _ _ _ hp) hsz hle];refine AC hE hplace hr h2 ?_ ?_
     ·rw[q3];simp;omega
     ·intro i y u e1 e2;rw[q2] at e1;refine hrel i y u e1 ?_;simpa[hsz] using e2
    ·cases h2
   ·cases h2
  ·cases h1
theorem DZ{w:World}:∀ {fs:List Field},fs.all (fun f=>(P.info? f.type).isSome)=true ->
  (fs.mapM (fun f=>do pure (f.offset,<-sizeOf f.type)):Sem (List (Nat×Nat))).run P w = .ok (fs.map fun f=>(f.offset,P.cellsOf f.type)) w
 |[],_=>by simp
 |f::fs,h=>by
  simp only[List.all_cons,Bool.and_eq_true] at h;obtain⟨i,hi⟩:=Option.isSome_iff_exists.1 h.1;have ih:=DZ (w:=w) h.2;simp only[List.mapM_cons,Sem.run_bind,sizeOf,typeInfo,run_program,Result.andThen_ok,hi,Sem.run_pure];simp only[sizeOf,typeInfo] at ih;rw[ih];simp[Program.cellsOf,hi]
theorem MU{t:TypeId}{n:Nat}{a:Act}{parts:Array (Nat×Operand)}{z cs:List AV}{ps:List (Nat×Nat×AOpd)}(hS:RelS P hh G w σ)(hE:gC G w n env a.tmps)(hz:hJ P t=some z)(hf:GB P t=true)(hp:nO P t parts.toList=some ps)(hb:dB env z ps=some cs):
  ∃ u,(Instr.build t (parts.map fun (i,x)=>(i,a.eval x))).run P w = .ok u w/\RelV G w (.agg cs) u:=by
 obtain⟨i,v,hi,hzv,hs,h0,hrun,hsz,hcell,hr⟩:=j7 hz;have hlist:(parts.map fun (i,x)=>(i,a.eval x)).toList=parts.toList.map fun p=>(p.1,a.eval p.2):=by simp
 unfold GB at hf;cases hu:P.underlying t with
 |none=>simp[hu] at hf
 |some d =>
  cases d<;>simp only[hu] at hf<;>try (cases hf;done)
  case array len e =>
   obtain⟨ie,hie⟩:=Option.isSome_iff_exists.1 hf
   have hpl:∀ i off m,(match P.underlying t with
     |some (.struct fs)=>match fs[i]? with|some f=>(match gT P f.type with|some n=>some (f.offset,n)|none=>none)|none=>none
     |some (.array n e)=>if i<n then (match gT P e with|some m=>some (i*m,m)|none=>none) else none
     |_=>none)=some (off,m)->(fun i=>some (i*ie.size,ie.size)) i=some (off,m):=by
    intro i off m h;simp only[hu] at h;split at h
    ·cases hse:gT P e with
     |none=>simp[hse] at h
     |some q =>
      simp only[hse] at h;cases h;have:ie.size=m:=by
       unfold gT at hse;simp only[hie] at hse;split at hse
       ·cases hse
       ·cases hse;rfl
      simp[this]
    ·cases h
   obtain⟨vs',e1,e2,e3⟩:=AC hE hpl hp hb hsz.symm (hr G w).1;refine⟨.agg vs',?_,.agg e2.symm e3⟩;simp only[Instr.build,Sem.run_bind,hrun,Result.andThen_ok,run_underlying hu,sizeOf,typeInfo,run_program,hie,Sem.run_pure,hlist,e1]
  case struct fs =>
   have hpl:∀ i off m,(match P.underlying t with
     |some (.struct fs)=>match fs[i]? with|some f=>(match gT P f.type with|some n=>some (f.offset,n)|none=>none)|none=>none
     |some (.array n e)=>if i<n then (match gT P e with|some m=>some (i*m,m)|none=>none) else none
     |_=>none)=some (off,m)->(fun i=>(fs.map fun f=>(f.offset,P.cellsOf f.type))[i]?) i=some (off,m):=by
    intro i off m h;simp only[hu] at h;split at h
    ·rename_i f hfi;split at h
     ·rename_i k hk;cases h;have:P.cellsOf f.type=m:=by
       obtain⟨_,_,j,hj,hjs⟩:=gE (P:=P) hk default;simp[Program.cellsOf,hj,hjs]
      simp[hfi,this]
     ·cases h
    ·cases h
   obtain⟨vs',e1,e2,e3⟩:=AC hE hpl hp hb hsz.symm (hr G w).1;refine⟨.agg vs',?_,.agg e2.symm e3⟩;have hm:=DZ (P:=P) (w:=w) hf;have hm':(fs.mapM (fun f=>do pure (f.offset,<-sizeOf f.type)):Sem (Array (Nat×Nat))).run P w = .ok (fs.map fun f=>(f.offset,P.cellsOf f.type)) w:=by
    rw[Array.mapM_eq_mapM_toList,Sem.run_map,hm,Result.andThen_ok]
    congr 1
    apply Array.ext';simp
   simp only[Instr.build,Sem.run_bind,hrun,Result.andThen_ok,run_underlying hu,hm',hlist,e1,Sem.run_pure]
end Go.Am
