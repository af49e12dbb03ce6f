/- A part of the proof of TramWays: an abstract machine, or what functions come to on it. -/
import GoSem.Dispatch
import Derived.RangeFuncLeaves
import Derived.OrdersIn
import Derived.Laws.AppendOwn
import Derived.Laws.CopyRow
import Derived.Laws.Rows
import Derived.Below
import Derived.Laws.Entries
set_option linter.unusedVariables false
set_option linter.unusedSimpArgs false
set_option linter.defProp false
namespace Go.Am
inductive AV where
 |undef
 |int (k:IntKind) (n:Int)
 |bool (b:Bool)
 |str (s:ByteArray)
 |func (f:FuncId) (first cap:List AV)
 |nilFunc
 |yield (id:Nat)
 |ptr (id off:Nat)
 |nilPtr
 /-- into the i-th element of a list,of the token's block -/
 |lptr (xs:List AV) (i off:Nat) (tk:Option Nat)
 /-- a slice that reads az a list;'full': its capacity is its length;'tk': the token of its block,if it is known to have one -/
 |lit (xs:List AV) (full:Bool) (tk:Option Nat)
 |ref (id off len sz:Nat)
 |map (id:Nat)
 |nilMap
 |agg (cells:List AV)
 |tuple (vs:List AV)
 deriving Inhabited
def AV.cells:AV→List AV
 |.agg cs=>cs
 |v=>[v]
def AV.cell:AV→Bool
 |.undef|.agg _|.tuple _=>false
 |_=>true
inductive SK where
 |i|b|s
 deriving DecidableEq,Repr,Inhabited
inductive EqTy where
 |one (k:SK)
 |agg (ks:List SK)
 deriving DecidableEq,Repr,Inhabited
abbrev Env:=List (Nat×AV)
def Env.get:Env→Nat→AV
 |[],_=>.undef
 |(k,v)::e,t=>if k=t then v else Env.get e t
def Env.put (e:Env) (d:Option Nat) (v:AV):Env :=
 match d with
 |some d=>(d,v)::e
 |none=>e
inductive AOpd where
 |t (n:Nat)
 |c (v:AV)
 deriving Inhabited
def AOpd.ev (e:Env):AOpd→AV
 |.t n=>Env.get e n
 |.c v=>v
inductive AOp where
 |mov (x:AOpd)
 |pick (c a b:AOpd)
 |alloc (zero:List AV)
 |box (n:Nat) (x:AOpd)
 |build (zero:List AV) (parts:List (Nat×Nat×AOpd))
 |mklit (sz:Nat) (xs:List AOpd)
 |mkref (sz:Nat) (xs:List AOpd)
 |load (sh:Option Nat) (x:AOpd)
 |store (n:Nat) (a x:AOpd)
 |nilCheck (x:AOpd)
 |bin (op:BinOp) (x y:AOpd)
 |eql (sh:EqTy) (neg:Bool) (x y:AOpd)
 |not (x:AOpd)
 |neg (x:AOpd)
 |conv (k:IntKind) (x:AOpd)
 |mkfun (f:FuncId) (first cap:List AOpd)
 |mkmap
 |mkslice (zero:List AV) (bytes:Nat) (l c:AOpd)
 |slicev (sz:Nat) (x:AOpd) (lo hi mx:Option AOpd)
 |slicea (n sz:Nat) (x:AOpd) (lo hi:Option AOpd)
 |faddr (x:AOpd) (off:Nat)
 |field (x:AOpd) (off:Nat) (sh:Option Nat)
 |iaddr (arr:Option Nat) (sz:Nat) (x i:AOpd)
 |index (len sz:Nat) (sh:Option Nat) (x i:AOpd)
 |sindex (x i:AOpd)
 |lookup (sh:EqTy) (ok:Bool) (zero:AV) (m k:AOpd)
 |mapset (sh:EqTy) (m k v:AOpd)
 |srange (x:AOpd)
 |snext (x:AOpd)
 |mrange (x:AOpd)
 |mnext (x:AOpd)
 |entry (x:AOpd)
 |ext (x:AOpd) (i:Nat)
 /-- of a string (0),a slice (1),a map (2) -/
 |len (k:Nat) (x:AOpd)
 |append (sz bytes:Nat) (x y:AOpd)
 |apref (sz bytes:Nat) (x y:AOpd)
 |copy (sz:Nat) (x y:AOpd)
 |min (xs:List AOpd)
 |max (xs:List AOpd)
 |call (f:AOpd) (args:List AOpd)
 deriving Inhabited
structure AOper where
 dst:Option Nat
 op:AOp
 /-- the temporary that must hold this bool -/
 guard:Option (Nat×Bool)
 deriving Inhabited
structure ADOper where
 o:AOper
 lo:Nat
 hi:Nat
 deriving Inhabited
inductive AJump where
 |ret
 |exit (id:Nat)
 deriving DecidableEq,Repr,Inhabited
inductive ACode where
 |skip
 |reg (ops:List AOper)
 |dreg (ops:List ADOper)
 |seq (a b:ACode)
 |cond (c:AOpd) (a b:ACode)
 |block (id:Nat) (b:ACode)
 |loop (b:ACode)
 |rangeFunc (f:AOpd) (params:List Nat) (assign body:ACode)
 |jump (j:AJump)
 |scope (b:ACode)
 deriving Inhabited
inductive LS where
 |ready|busy|done
 deriving DecidableEq,Repr,Inhabited
inductive ABlk where
 |cells (cs:List AV)
 |map (es:List (AV×AV))
 /-- a token: the size of an element,how many elements the slice has that may grow,and whether its block is no one else's -/
 |tok (sz n:Nat) (excl:Bool)
 |siter (s:ByteArray) (pos:Nat)
 /-- an iterator over a map that had so many entries: the places of those that are to come,and of the last one -/
 |miter (m n:Nat) (left:List Nat) (last:Option Nat)
 |loop (st:LS) (pend:Option AJump) (env:Env) (params:List Nat) (assign body:ACode)
 |dead
 deriving Inhabited
abbrev St:=List ABlk
inductive ARes where
 |tmp (t:Nat)
 |cell (t:Nat) (sh:Option Nat)
 deriving Inhabited
structure AFunc where
 ntmps:Nat
 results:List ARes
 body:ACode
 deriving Inhabited
def eY (sh:Option Nat) (cs:List AV) (off:Nat):Option AV :=
 match sh with
 |none=>cs[off]?
 |some n=>if off+n≤cs.length then some (.agg ((cs.drop off).take n)) else none
def fJ (cs:List AV) (off:Nat) (vs:List AV):Option (List AV) :=
 if off+vs.length≤cs.length then some (cs.take off++vs++cs.drop (off+vs.length)) else none
def fQ:SK→AV→AV→Option Bool
 |.i,.int k a,.int k' b=>if k=k' then some (a==b) else none
 |.b,.bool a,.bool b=>some (a==b)
 |.s,.str a,.str b=>some (a.toList==b.toList)
 |_,_,_=>none
def bC:List SK→List AV→List AV→Option Bool
 |[],[],[]=>some true
 |k::ks,a::x,b::y =>
  match fQ k a b,bC ks x y with
  |some p,some q=>some (p&&q)
  |_,_=>none
 |_,_,_=>none
def iN:EqTy→AV→AV→Option Bool
 |.one k,x,y=>fQ k x y
 |.agg ks,.agg cs,.agg ds=>bC ks cs ds
 |_,_,_=>none
def bits (op:BinOp) (k:IntKind) (x y:Int):Int :=
 let a:=BitVec.ofInt k.bits x
 let b:=BitVec.ofInt k.bits y
 match op with
 |.and=>k.wrap (a &&& b).toNat
 |.or=>k.wrap (a|||b).toNat
 |.xor=>k.wrap (a ^^^ b).toNat
 |_=>k.wrap (a &&& ~~~b).toNat
def jW (op:BinOp) (k:IntKind) (a b:Int):Option AV :=
 match op with
 |.add=>some (.int k (k.wrap (a+b)))
 |.sub=>some (.int k (k.wrap (a-b)))
 |.mul=>some (.int k (k.wrap (a*b)))
 |.quo=>if b=0 then none else some (.int k (k.wrap (a.tdiv b)))
 |.rem=>if b=0 then none else some (.int k (a.tmod b))
 |.and=>some (.int k (bits .and k a b))
 |.or=>some (.int k (bits .or k a b))
 |.xor=>some (.int k (bits .xor k a b))
 |.andNot=>some (.int k (bits .andNot k a b))
 |.lss=>some (.bool (decide (a<b)))
 |.leq=>some (.bool (decide (a≤b)))
 |.gtr=>some (.bool (decide (a > b)))
 |.geq=>some (.bool (decide (a≥b)))
 |_=>none
def fC (op:BinOp) (x y:AV):Option AV :=
 match x,y with
 |.int k a,.int k' b =>
  match op with
  |.shl=>if b<0 then none else some (.int k (k.wrap (a*2^(Nat.min b.toNat k.bits))))
  |.shr=>if b<0 then none else some (.int k (a.fdiv (2^(Nat.min b.toNat k.bits))))
  |op=>if k=k' then jW op k a b else none
 |_,_=>none
def fB:AV→Option Int
 |.int _ n=>some n
 |_=>none
def bQ (e:Env) (d:Nat):Option AOpd→Option Int
 |none=>some d
 |some x=>fB (x.ev e)
def aM (n:Nat) (xs:List AV):Bool:=xs.all fun x=>x.cells.length==n&&x.cells.all (·.cell)
def yS (n:Nat):AV→Bool
 |.ref _ _ _ sz=>sz==n
 |_=>true
def bV (e:Env) (cs:List AV):List (Nat×Nat×AOpd)→Option (List AV)
 |[]=>some cs
 |(off,n,x)::rest =>
  if ((x.ev e).cells.length==n&&(x.ev e).cells.all (·.cell))=true then
   match fJ cs off (x.ev e).cells with
   |some cs=>bV e cs rest
   |none=>none
  else none
def aH (σ:St) (id:Nat):Option (List AV) :=
 match σ[id]? with
 |some (.cells cs)=>some cs
 |_=>none
def sL (sz:Nat):Nat→List AV→List AV
 |0,_=>[]
 |n+1,cs=>(if sz=1∧(cs.headD .undef).cell=true then cs.headD .undef else .agg (cs.take sz))::sL sz n (cs.drop sz)
def jV (σ:St):AV→Option (List AV)
 |.lit xs _ _=>some xs
 |.ref id off len sz =>
  match aH σ id with
  |some cs=>if off+len*sz≤cs.length then some (sL sz len (cs.drop off)) else none
  |none=>none
 |_=>none
def findKey (sh:EqTy) (k:AV):List (AV×AV)→Option (Option AV)
 |[]=>some none
 |(k',v)::es =>
  match iN sh k k' with
  |some true=>some (some v)
  |some false=>findKey sh k es
  |none=>none
def mJ (sh:EqTy) (k v:AV):List (AV×AV)→Option (List (AV×AV))
 |[]=>some [(k,v)]
 |(k',v')::es =>
  match iN sh k k' with
  |some true=>some ((k,v)::es)
  |some false=>(mJ sh k v es).map ((k',v')::·)
  |none=>none
def sZ (sh:EqTy) (σ:St) (m k:AV):Option (Option AV) :=
 match m with
 |.nilMap=>if (iN sh k k).isSome=true then some none else none
 |.map id =>
  match σ[id]? with
  |some (.map es)=>if (iN sh k k).isSome=true then findKey sh k es else none
  |_=>none
 |_=>none
def jL (sh:Option Nat) (σ:St):AV→Option AV
 |.ptr id off =>
  match aH σ id with
  |some cs=>eY sh cs off
  |none=>none
 |.lptr xs i off _ =>
  match xs[i]? with
  |some x=>eY sh x.cells off
  |none=>none
 |_=>none
def mW (n:Nat) (σ:St) (a v:AV):Option St :=
 match a with
 |.ptr id off =>
  if (v.cells.length==n&&v.cells.all (·.cell))=true then
   match aH σ id with
   |some cs =>
    match fJ cs off v.cells with
    |some cs'=>some (σ.set id (.cells cs'))
    |none=>none
   |none=>none
  else none
 |_=>none
def wT (sz:Nat) (xs:List AV) (l h:Int):Bool :=
 decide (l=h)||(match xs[l.toNat]? with|some x=>x.cells.length==sz|none=>false)
def lJ (sz:Nat) (x:AV) (l h:Int) (full:Bool):Option AV :=
 match x with
 |.lit xs fl tk =>
  if 0≤l∧l≤h∧h≤xs.length∧wT sz xs l h=true then
   some (.lit ((xs.drop l.toNat).take (h.toNat-l.toNat)) (full||(fl&&decide (h=xs.length))) tk)
  else none
 |.ref id off len sz' =>
  if 0≤l∧l≤h∧h≤len∧sz'=sz then some (.ref id (off+l.toNat*sz) (h.toNat-l.toNat) sz) else none
 |_=>none
def iD (k:Nat) (σ:St) (x:AV):Option Nat :=
 match k,x with
 |0,.str s=>some s.size
 |1,.lit xs _ _=>some xs.length
 |1,.ref _ _ len _=>some len
 |2,.nilMap=>some 0
 |2,.map id=>match σ[id]? with|some (.map es)=>some es.length|_=>none
 |_,_=>none
def room:Nat:=2^47
def fV (sz bytes:Nat) (σ:St) (x y:AV):Option (AV×St) :=
 match x,jV σ y with
 |.lit xs full tk,some ys =>
  if ys.length=0 then some (.lit xs full tk,σ) else
  if (yS sz y&&aM sz xs&&aM sz ys&&decide ((xs.length+ys.length)*bytes≤room)&&decide (xs.length+ys.length≤room))=true then
   if full=true then some (.lit (xs++ys) false (some σ.length),σ++[.tok sz (xs.length+ys.length) true])
   else
    match tk with
    |some t =>
     match σ[t]? with
     |some (.tok sz' n _)=>if sz'=sz∧n=xs.length then some (.lit (xs++ys) false (some t),σ.set t (.tok sz (xs.length+ys.length) true)) else none
     |_=>none
    |none=>none
  else none
 |_,_=>none
def rM (sz bytes:Nat) (σ:St) (x y:AV):Option (AV×St) :=
 match x,jV σ y with
 |.lit xs full tk,some ys =>
  if ys.length=0 then some (.lit xs full tk,σ) else
  if (full&&yS sz y&&aM sz (xs++ys)&&decide ((xs.length+ys.length)*bytes≤room)&&decide (xs.length+ys.length≤room))=true then
   some (.ref σ.length 0 (xs.length+ys.length) sz,σ++[.cells ((xs++ys).flatMap AV.cells)])
  else none
 |_,_=>none
def pV (sz:Nat) (σ:St) (x y:AV):Option (AV×St) :=
 match x,jV σ y with
 |.ref id off len sz',some ys =>
  let zs:=ys.take len
  if (decide (sz'=sz)&&yS sz y&&aM sz ys)=true then
   match aH σ id with
   |some cs =>
    match fJ cs off (zs.flatMap AV.cells) with
    |some cs'=>some (.int .i64 (Nat.min ys.length len),σ.set id (.cells cs'))
    |none=>none
   |none=>none
  else none
 |_,_=>none
def rF (k:IntKind) (a:Int):List AV→Option AV
 |[]=>some (.int k a)
 |.int k' b::rest=>if k'=k then rF k (if b<a then b else a) rest else none
 |_=>none
def v3:List AV→Option AV
 |.int k a::rest=>rF k a rest
 |_=>none
def rT (k:IntKind) (a:Int):List AV→Option AV
 |[]=>some (.int k a)
 |.int k' b::rest=>if k'=k then rT k (if b > a then b else a) rest else none
 |_=>none
def wD:List AV→Option AV
 |.int k a::rest=>rT k a rest
 |_=>none
def aop (op:AOp) (e:Env) (σ:St):Option (AV×St) :=
 match op with
 |.mov x=>some (x.ev e,σ)
 |.pick c a b=>match c.ev e with|.bool true=>some (a.ev e,σ)|.bool false=>some (b.ev e,σ)|_=>none
 |.alloc zero=>some (.ptr σ.length 0,σ++[.cells zero])
 |.box n x=>if ((x.ev e).cells.length==n&&(x.ev e).cells.all (·.cell))=true then some (.ptr σ.length 0,σ++[.cells (x.ev e).cells]) else none
 |.build zero parts=>match bV e zero parts with|some cs=>some (.agg cs,σ)|none=>none
 |.mklit sz xs=>if aM sz (xs.map (·.ev e))=true then some (.lit (xs.map (·.ev e)) true none,σ) else none
 |.mkref sz xs=>if aM sz (xs.map (·.ev e))=true then some (.ref σ.length 0 xs.length sz,σ++[.cells ((xs.map (·.ev e)).flatMap AV.cells)]) else none
 |.load sh x=>match jL sh σ (x.ev e) with|some v=>some (v,σ)|none=>none
 |.store n a x=>match mW n σ (a.ev e) (x.ev e) with|some σ'=>some (.tuple [],σ')|none=>none
 |.nilCheck x=>match x.ev e with|.ptr i o=>some (.ptr i o,σ)|.lptr xs i o t=>some (.lptr xs i o t,σ)|.func f a b=>some (.func f a b,σ)|.yield i=>some (.yield i,σ)|_=>none
 |.bin op x y=>match fC op (x.ev e) (y.ev e) with|some v=>some (v,σ)|none=>none
 |.eql sh neg x y=>match iN sh (x.ev e) (y.ev e) with|some b=>some (.bool (if neg then !b else b),σ)|none=>none
 |.not x=>match x.ev e with|.bool b=>some (.bool !b,σ)|_=>none
 |.neg x=>match x.ev e with|.int k n=>some (.int k (k.wrap (0-n)),σ)|_=>none
 |.conv k x=>match x.ev e with|.int _ n=>some (.int k (k.wrap n),σ)|_=>none
 |.mkfun f first cap=>some (.func f (first.map (·.ev e)) (cap.map (·.ev e)),σ)
 |.mkmap=>some (.map σ.length,σ++[.map []])
 |.mkslice zero bytes l c =>
  match l.ev e,c.ev e with
  |.int _ n,.int _ m=>if 0≤n∧n=m∧n*bytes≤room∧n≤room then some (.ref σ.length 0 n.toNat zero.length,σ++[.cells (List.replicate n.toNat zero).flatten]) else none
  |_,_=>none
 |.slicev sz x lo hi mx =>
  match iD 1 σ (x.ev e) with
  |none=>none
  |some n =>
   match bQ e 0 lo,bQ e n hi,mx.map (fun m=>fB (m.ev e)) with
   |some l,some h,none=>(match lJ sz (x.ev e) l h false with|some v=>some (v,σ)|none=>none)
   |some l,some h,some (some m)=>if m=h∧hi.isSome=true then (match lJ sz (x.ev e) l h true with|some v=>some (v,σ)|none=>none) else none
   |_,_,_=>none
 |.slicea n sz x lo hi =>
  match x.ev e,bQ e 0 lo,bQ e n hi with
  |.ptr id off,some l,some h=>if 0≤l∧l≤h∧h≤n then some (.ref id (off+l.toNat*sz) (h.toNat-l.toNat) sz,σ) else none
  |_,_,_=>none
 |.faddr x off=>match x.ev e with|.ptr id o=>some (.ptr id (o+off),σ)|.lptr xs i o t=>some (.lptr xs i (o+off) t,σ)|_=>none
 |.field x off sh=>match x.ev e with|.agg cs=>(match eY sh cs off with|some v=>some (v,σ)|none=>none)|_=>none
 |.iaddr arr sz x i =>
  match fB (i.ev e),arr,x.ev e with
  |some j,some n,.ptr id off=>if 0≤j∧j<n then some (.ptr id (off+j.toNat*sz),σ) else none
  |some j,some n,.lptr xs q off t=>if 0≤j∧j<n then some (.lptr xs q (off+j.toNat*sz) t,σ) else none
  |some j,none,.lit xs _ t =>
   match xs[j.toNat]? with
   |some y=>if 0≤j∧y.cells.length=sz then some (.lptr xs j.toNat 0 t,σ) else none
   |none=>none
  |some j,none,.ref id off len sz'=>if 0≤j∧j<len∧sz'=sz then some (.ptr id (off+j.toNat*sz),σ) else none
  |_,_,_=>none
 |.index n sz sh x i =>
  match fB (i.ev e),x.ev e with
  |some j,.agg cs=>if 0≤j∧j<n then (match eY sh cs (j.toNat*sz) with|some v=>some (v,σ)|none=>none) else none
  |_,_=>none
 |.sindex x i =>
  match fB (i.ev e),x.ev e with
  |some j,.str s=>if 0≤j then (match s[j.toNat]? with|some b=>some (.int .u8 b.toNat,σ)|none=>none) else none
  |_,_=>none
 |.lookup sh ok zero m k =>
  match sZ sh σ (m.ev e) (k.ev e) with
  |some (some v)=>some (if ok then .tuple [v,.bool true] else v,σ)
  |some none=>some (if ok then .tuple [zero,.bool false] else zero,σ)
  |none=>none
 |.mapset sh m k v =>
  match m.ev e with
  |.map id =>
   if (iN sh (k.ev e) (k.ev e)).isSome=false then none else
   match σ[id]? with
   |some (.map es)=>(match mJ sh (k.ev e) (v.ev e) es with|some es'=>some (.tuple [],σ.set id (.map es'))|none=>none)
   |_=>none
  |_=>none
 |.srange x=>match x.ev e with|.str s=>some (.ptr σ.length 0,σ++[.siter s 0])|_=>none
 |.snext x =>
  match x.ev e with
  |.ptr id 0 =>
   match σ[id]? with
   |some (.siter s pos) =>
    if pos<s.size then
     some (.tuple [.bool true,.int .i64 pos,.int .i32 (Utf8.decode s pos).1],σ.set id (.siter s (pos+(Utf8.decode s pos).2)))
    else some (.tuple [.bool false],σ)
   |_=>none
  |_=>none
 |.mrange x =>
  match x.ev e with
  |.map id=>(match σ[id]? with|some (.map es)=>some (.ptr σ.length 0,σ++[.miter id es.length (List.range es.length) none])|_=>none)
  |_=>none
 |.mnext _=>none
 |.entry x =>
  match x.ev e with
  |.ptr id 0 =>
   match σ[id]? with
   |some (.miter m n _ (some i)) =>
    match σ[m]? with
    |some (.map es) =>
     if es.length=n then
      match es[i]? with
      |some (k,v)=>some (.tuple [k,v],σ)
      |none=>none
     else none
    |_=>none
   |_=>none
  |_=>none
 |.ext x i=>match x.ev e with|.tuple vs=>(match vs[i]? with|some v=>some (v,σ)|none=>none)|_=>none
 |.len k x=>match iD k σ (x.ev e) with|some n=>some (.int .i64 n,σ)|none=>none
 |.append sz bytes x y=>fV sz bytes σ (x.ev e) (y.ev e)
 |.apref sz bytes x y=>rM sz bytes σ (x.ev e) (y.ev e)
 |.copy sz x y=>pV sz σ (x.ev e) (y.ev e)
 |.min xs=>match v3 (xs.map (·.ev e)) with|some v=>some (v,σ)|none=>none
 |.max xs=>match wD (xs.map (·.ev e)) with|some v=>some (v,σ)|none=>none
 |.call _ _=>none
mutual
def okV (m:Nat):AV→Prop
 |.func _ first cap=>okVs m first∧okVs m cap
 |.yield id|.ptr id _|.ref id _ _ _|.map id=>id<m
 |.lptr xs _ _ tk|.lit xs _ tk=>(∀ t,tk=some t→t<m)∧okVs m xs
 |.agg cs=>okVs m cs
 |.tuple vs=>okVs m vs
 |_=>True
def okVs (m:Nat):List AV→Prop
 |[]=>True
 |v::vs=>okV m v∧okVs m vs
end
def aN (m:Nat):ABlk→Prop
 |.cells cs=>okVs m cs
 |.map es=>∀ p∈es,okV m p.1∧okV m p.2
 |.tok _ _ _|.siter _ _|.dead=>True
 |.miter id _ _ _=>id<m
 |.loop _ _ _ _ _ _=>False
mutual
def snap (σ:St) (m:Nat):Nat→AV→Option AV
 |d,.func f first cap=>match snaps σ m d first,snaps σ m d cap with|some a,some b=>some (.func f a b)|_,_=>none
 |_,.yield id=>if id<m then some (.yield id) else none
 |_,.ptr id off=>if id<m then some (.ptr id off) else none
 |_,.map id=>if id<m then some (.map id) else none
 |0,.ref id off len sz=>if id<m then some (.ref id off len sz) else none
 |d+1,.ref id off len sz =>
  if id<m then some (.ref id off len sz) else
  match jV σ (.ref id off len sz) with
  |some xs=>if (decide (0<sz)&&aM sz xs)=true then (match snaps σ m d xs with|some ys=>some (.lit ys false none)|none=>none) else none
  |none=>none
 |d,.lit xs full tk =>
  match snaps σ m d xs with
  |some ys=>some (.lit ys full (tk.filter (· < m)))
  |none=>none
 |d,.agg cs=>match snaps σ m d cs with|some ys=>some (.agg ys)|none=>none
 |d,.tuple vs=>match snaps σ m d vs with|some ys=>some (.tuple ys)|none=>none
 |d,.lptr xs i off tk=>match snaps σ m d xs with|some ys=>some (.lptr ys i off (tk.filter (· < m)))|none=>none
 |_,v=>some v
termination_by d v=>(d,SizeOf.sizeOf v)
def snaps (σ:St) (m:Nat):Nat→List AV→Option (List AV)
 |_,[]=>some []
 |d,v::vs=>match snap σ m d v,snaps σ m d vs with|some a,some b=>some (a::b)|_,_=>none
termination_by d vs=>(d,SizeOf.sizeOf vs)
end
structure Out where
 j:Option AJump
 env:Env
 σ:St
 v:AV
structure ARead where
 lo:Nat
 hi:Nat
 op:AOp
 env:Env
 v:AV
inductive Task where
 |code (c:ACode) (env:Env) (σ:St)
 |ops (os:List AOper) (env:Env) (σ:St)
 |dops (os:List ADOper) (env:Env) (σ:St) (next:Nat) (hist:List St) (reads:List ARead)
 |call (f:FuncId) (args:List AV) (σ:St)
 |callv (f:AV) (args:List AV) (σ:St)
 |chain (az:List ACode) (env:Env) (σ:St)
def AOper.wanted (o:AOper) (env:Env):Option Bool :=
 match o.guard with
 |none=>some true
 |some (t,want) =>
  match Env.get env t with
  |.bool b=>some (b==want)
  |.tuple []=>some false
  |_=>none
def dI (os:List ADOper):List ABlk :=
 os.filterMap fun o=>match o.o.op with|.alloc z=>some (.cells z)|_=>none
def ARead.ok (r:ARead) (hist:List St):Prop :=
 ∀ j s,r.lo≤j→j≤r.hi→hist[j]? = some s→aop r.op r.env s=some (r.v,s)
def AOp.reads:AOp→Bool
 |.load ..|.lookup ..|.len ..|.slicev ..|.entry _=>true
 |_=>false
def AOp.allocs:AOp→Bool
 |.alloc _=>true
 |_=>false
def AOp.calls:AOp→Bool
 |.call ..|.mnext _=>true
 |_=>false
def AOp.acts:AOp→Bool
 |.store ..|.append ..|.apref ..|.mkref ..|.copy ..|.box ..|.mkmap|.mkslice ..|.mapset ..|.srange _|.snext _|.mrange _|.mnext _|.call ..=>true
 |_=>false
def eX:Nat→List AV→Env
 |_,[]=>[]
 |k,v::vs=>(k,v)::eX (k+1) vs
def lU (env:Env) (σ:St):List ARes→Option (List AV)
 |[]=>some []
 |.tmp t::rs=>(lU env σ rs).map (Env.get env t::·)
 |.cell t sh::rs =>
  match jL sh σ (Env.get env t),lU env σ rs with
  |some v,some vs=>some (v::vs)
  |_,_=>none
def fY (rs:List ARes) (env:Env) (σ:St):Option AV :=
 match lU env σ rs with
 |some [v]=>some v
 |some vs=>some (.tuple vs)
 |none=>none
def eB (σ σ':St) (m i:Nat):Prop :=
 σ'[i]? = σ[i]?∨(∃ b,σ'[i]? = some b∧aN m b) ∨
  ∃ st pe st' pe' env ps a b,σ[i]? = some (.loop st pe env ps a b)∧σ'[i]? = some (.loop st' pe' env ps a b)
mutual
def clr:AV→AV
 |.func f a b=>.func f (clrs a) (clrs b)
 |.lptr xs i off tk=>.lptr (clrs xs) i off tk
 |.lit xs full tk=>.lit (clrs xs) (full&&tk.isSome) tk
 |.agg cs=>.agg (clrs cs)
 |.tuple vs=>.tuple (clrs vs)
 |.undef=>.undef
 |.int k n=>.int k n
 |.bool b=>.bool b
 |.str s=>.str s
 |.nilFunc=>.nilFunc
 |.yield i=>.yield i
 |.ptr i o=>.ptr i o
 |.nilPtr=>.nilPtr
 |.ref i o l s=>.ref i o l s
 |.map i=>.map i
 |.nilMap=>.nilMap
def clrs:List AV→List AV
 |[]=>[]
 |v::vs=>clr v::clrs vs
end
def NF (σ σ':St) (v:AV) (Q:Out→Prop):Prop :=
 Q ⟨none,[],σ',v⟩ ∨
 ∃ d v' v'',snap σ' σ.length d v=some v'∧(v''=v'∨v''=clr v')∧(∀ i,i<σ.length→eB σ σ' σ.length i)∧σ.length≤σ'.length∧Q ⟨none,[],σ'.take σ.length,v''⟩
def WE (σ:St) (env':Env) (σ':St) (env'':Env) (m:Nat):Prop :=
 σ.length≤m∧m≤σ'.length∧(∀ p∈env'',p.2=Env.get env' p.1∧okV m p.2) ∧
 ∀ i,i<m→(i<σ.length∧eB σ σ' m i)∨∃ b,σ'[i]? = some b∧aN m b
def jN (env:Env):List Nat→List AV→Env
 |p::ps,v::vs=>jN (Env.put env (some p) v) ps vs
 |_,_=>env
mutual
def Scal:AV→Prop
 |.int _ _|.bool _|.str _=>True
 |.lit [] _ none=>True
 |.agg cs=>Scals cs
 |.tuple vs=>Scals vs
 |_=>False
def Scals:List AV→Prop
 |[]=>True
 |v::vs=>Scal v∧Scals vs
end
def PO (σ:St) (m:Nat) (v v':AV):Prop:=(v'=v∧okV m v)∨∃ d v1,snap σ m d v=some v1∧(v'=v1∨v'=clr v1)
def MI (σ:St) (m:Nat):List AV→List AV→Prop
 |[],[]=>True
 |a::az,b::bs=>PO σ m a b∧MI σ m az bs
 |_,_=>False
def JC (σ:St) (m:Nat) (env:Env):Env→Prop
 |[]=>True
 |(t,v)::e=>PO σ m (Env.get env t) v∧JC σ m env e
def WN (σ:St) (env':Env) (σ':St) (m i:Nat) (b:ABlk):Prop :=
 (i<σ.length∧eB σ σ' m i∧σ'[i]? = some b)∨(σ'[i]? = some b∧aN m b) ∨
  ∃ cs cs',σ'[i]? = some (.cells cs)∧b = .cells cs'∧MI σ' m cs cs'∧(σ.length≤i∨∃ t off,Env.get env' t = .ptr i off)
def vP (σ:St) (env':Env) (σ':St) (env'':Env) (σ'':St):Prop :=
 σ.length≤σ''.length∧σ''.length≤σ'.length∧JC σ' σ''.length env' env''∧∀ i,i<σ''.length→∃ b,σ''[i]? = some b∧WN σ env' σ' σ''.length i b
mutual
def noTok (t:Nat):AV→Prop
 |.func _ first cap=>noToks t first∧noToks t cap
 |.lptr xs _ _ tk|.lit xs _ tk=>tk≠some t∧noToks t xs
 |.agg cs=>noToks t cs
 |.tuple vs=>noToks t vs
 |_=>True
def noToks (t:Nat):List AV→Prop
 |[]=>True
 |v::vs=>noTok t v∧noToks t vs
end
def YG (t:Nat):ABlk→Prop
 |.cells cs=>noToks t cs
 |.map es=>∀ p∈es,noTok t p.1∧noTok t p.2
 |.loop _ _ _ _ _ _=>False
 |_=>True
def GZ:List ACode→ACode→ACode
 |[],c=>c
 |a::az,c=>.seq a (GZ az c)
def JU (n0:Nat) (env:Env) (σ:St) (env':Env) (σ':St):Prop :=
 ∃ t p xs sz,n0≤t∧aM sz xs=true∧σ[t]? = some (.tok sz xs.length true)∧env=(p,.lit xs false (some t))::env.tail∧noToks t xs∧(∀ q∈env.tail,noTok t q.2)∧(∀ i b,i≠t→σ[i]? = some b→YG t b) ∧
  env'=(p,.ref t 0 xs.length sz)::env.tail∧σ'=σ.set t (.cells (xs.flatMap AV.cells))
inductive Run (T:FuncId→Option AFunc):Task→(Out→Prop)→Prop where
 |mono {t Q R} (h:Run T t R) (hq:∀ o,R o→Q o):Run T t Q
 |skip {env σ Q} (h:Q ⟨none,env,σ,.undef⟩):Run T (.code .skip env σ) Q
 |jump {j env σ Q} (h:Q ⟨some j,env,σ,.undef⟩):Run T (.code (.jump j) env σ) Q
 |seq {a b env σ Q R} (h:Run T (.code a env σ) R) (h1:∀ o,R o→o.j=none→Run T (.code b o.env o.σ) Q) (h2:∀ o,R o→o.j≠none→Q o) :
   Run T (.code (.seq a b) env σ) Q
 |cond {c x y env σ Q} (b:Bool) (hc:c.ev env = .bool b) (h:Run T (.code (if b then x else y) env σ) Q):Run T (.code (.cond c x y) env σ) Q
 |block {id b env σ Q R} (h:Run T (.code b env σ) R) (h1:∀ o,R o→Q (if o.j=some (.exit id) then { o with j:=none } else o)) :
   Run T (.code (.block id b) env σ) Q
 |loop {b env σ Q R} (h:Run T (.code b env σ) R) (h1:∀ o,R o→o.j=none→Run T (.code (.loop b) o.env o.σ) Q) (h2:∀ o,R o→o.j≠none→Q o) :
   Run T (.code (.loop b) env σ) Q
 |scope {b env σ Q} (h:Run T (.code b env σ) Q):Run T (.code (.scope b) env σ) Q
 |reg {os env σ Q} (h:Run T (.ops os env σ) Q):Run T (.code (.reg os) env σ) Q
 |dreg {os env σ Q} (h:Run T (.dops os env (σ++dI os) σ.length [σ++dI os] []) Q):Run T (.code (.dreg os) env σ) Q
 |rangeFunc {f g first cap ps a b env σ Q R} (hf:f.ev env = .func g first cap)
   (h:Run T (.call g (first++[.yield σ.length]++cap) (σ++[.loop .ready none env ps a b])) R)
   (h1:∀ o,R o→∃ st pend env' ps' a' b',o.σ[σ.length]? = some (.loop st pend env' ps' a' b')∧st≠.busy∧Q ⟨pend,env,o.σ.set σ.length .dead,.undef⟩) :
   Run T (.code (.rangeFunc f ps a b) env σ) Q
 /-- What the code has made and nobody needs is forgotten. -/
 |trim {c env σ Q R} (h:Run T (.code c env σ) R) (h1:∀ o,R o→∃ env' m,WE σ o.env o.σ env' m∧Q ⟨o.j,env',o.σ.take m,o.v⟩):Run T (.code c env σ) Q
 |trim2 {c env σ Q R} (h:Run T (.code c env σ) R) (h1:∀ o,R o→Q o∨∃ env'' σ'',vP σ o.env o.σ env'' σ''∧Q ⟨o.j,env'',σ'',o.v⟩):Run T (.code c env σ) Q
 /-- A call that needs nothing of the state. -/
 |frame {f args args0 σ Q R} (hf:okVs 0 args) (h0:args0=args∨args0=clrs args) (h:Run T (.call f args0 []) R) (h1:∀ o,R o→o.σ=[]∧Q ⟨none,[],σ,o.v⟩):Run T (.call f args σ) Q
 |frameS {f args args0 as1 d σ Q R} (hf:snaps σ 0 d args=some as1) (h0:args0=as1∨args0=clrs as1) (h:Run T (.call f args0 []) R) (h1:∀ o,R o→o.σ=[]∧Scal o.v∧Q ⟨none,[],σ,o.v⟩):Run T (.call f args σ) Q
 |chainNil {env σ Q} (h:Q ⟨none,env,σ,.undef⟩):Run T (.chain [] env σ) Q
 |chainCons {a az env σ Q R} (h:Run T (.code a env σ) R) (h1:∀ o,R o→o.j=none→Run T (.chain az o.env o.σ) Q) (h2:∀ o,R o→o.j≠none→Q o):Run T (.chain (a::az) env σ) Q
 |chain {a0 az c env σ Q R} {S:Env→St→Prop} (h:Run T (.chain (a0::az) env σ) R) (h1:∀ o,R o→o.j≠none→Q o)
   (h2:∀ o,R o→o.j=none→∃ env1 σ1 env2 σ2,vP σ o.env o.σ env1 σ1∧((env2=env1∧σ2=σ1)∨JU σ.length env1 σ1 env2 σ2)∧S env2 σ2)
   (h3:∀ env2 σ2,S env2 σ2→Run T (.code c env2 σ2) Q):Run T (.code (GZ (a0::az) c) env σ) Q
 /-- A full slice is given a token. -/
 |ghost {c env σ Q} (t sz:Nat) (xs:List AV) (ht:Env.get env t = .lit xs true none)
   (h:Run T (.code c ((t,.lit xs false (some σ.length))::env) (σ++[.tok sz xs.length false])) Q):Run T (.code c env σ) Q
 /-- An environment stands for what it has at each temporary. -/
 |reenv {c env env' σ Q} (he:∀ t,Env.get env t=Env.get env' t) (h:Run T (.code c env' σ) Q):Run T (.code c env σ) Q
 /-- Less may be known of the temporaries. -/
 |weak {c env env' σ Q} (he:∀ t,Env.get env' t = .undef∨Env.get env' t=Env.get env t∨Env.get env' t=clr (Env.get env t)) (h:Run T (.code c env' σ) Q):Run T (.code c env σ) Q
 |reops {os env env' σ Q} (he:∀ t,Env.get env t=Env.get env' t) (h:Run T (.ops os env' σ) Q):Run T (.ops os env σ) Q
 |nil {env σ Q} (h:Q ⟨none,env,σ,.undef⟩):Run T (.ops [] env σ) Q
 |off {o os env σ Q} (hw:o.wanted env=some false) (h:Run T (.ops os (Env.put env o.dst (.tuple [])) σ) Q):Run T (.ops (o::os) env σ) Q
 |step {o os env σ v σ' Q} (hw:o.wanted env=some true) (ha:aop o.op env σ=some (v,σ')) (h:Run T (.ops os (Env.put env o.dst v) σ') Q) :
   Run T (.ops (o::os) env σ) Q
 |stepc {o os env σ f args Q R} (hw:o.wanted env=some true) (ho:o.op = .call f args) (hc:Run T (.callv (f.ev env) (args.map (·.ev env)) σ) R)
   (h:∀ r,R r→Run T (.ops os (Env.put env o.dst r.v) r.σ) Q):Run T (.ops (o::os) env σ) Q
 |stepm {o os env σ x id m n es left last Q} (hw:o.wanted env=some true) (ho:o.op = .mnext x) (hx:x.ev env = .ptr id 0) (hl:σ[id]? = some (.miter m n left last))
   (he:σ[m]? = some (.map es)) (hn:es.length=n)
   (h0:left=[]→Run T (.ops os (Env.put env o.dst (.tuple [.bool false])) σ) Q)
   (h1:∀ i k v,i∈left→es[i]? = some (k,v)→Run T (.ops os (Env.put env o.dst (.tuple [.bool true,k,v])) (σ.set id (.miter m n (left.filter (·≠i)) (some i)))) Q) :
   Run T (.ops (o::os) env σ) Q
 |dnil {env σ next hist reads Q} (hr:∀ r∈reads,ARead.ok r hist) (h:Q ⟨none,env,σ,.undef⟩):Run T (.dops [] env σ next hist reads) Q
 |doff {o os env σ next hist reads Q} (hw:o.o.wanted env=some false)
   (h:Run T (.dops os (Env.put env o.o.dst (.tuple [])) σ (if o.o.op.allocs then next+1 else next) (if o.o.op.acts then hist++[σ] else hist) reads) Q) :
   Run T (.dops (o::os) env σ next hist reads) Q
 |dalloc {o os env σ next hist reads z Q} (hw:o.o.wanted env=some true) (ho:o.o.op = .alloc z)
   (h:Run T (.dops os (Env.put env o.o.dst (.ptr next 0)) σ (next+1) hist reads) Q):Run T (.dops (o::os) env σ next hist reads) Q
 |dpure {o os env σ next hist reads v Q} (hw:o.o.wanted env=some true) (hk:(o.o.op.acts||o.o.op.allocs||o.o.op.reads)=false) (ha:aop o.o.op env σ=some (v,σ))
   (h:Run T (.dops os (Env.put env o.o.dst v) σ next hist reads) Q):Run T (.dops (o::os) env σ next hist reads) Q
 |dread {o os env σ next hist reads v Q} (hw:o.o.wanted env=some true) (hk:o.o.op.reads=true) (ha:aop o.o.op env σ=some (v,σ))
   (h:Run T (.dops os (Env.put env o.o.dst v) σ next hist (⟨o.lo,o.hi,o.o.op,env,v⟩::reads)) Q):Run T (.dops (o::os) env σ next hist reads) Q
 |dact {o os env σ next hist reads v σ' Q} (hw:o.o.wanted env=some true) (hk:o.o.op.acts=true) (ha:aop o.o.op env σ=some (v,σ'))
   (h:Run T (.dops os (Env.put env o.o.dst v) σ' next (hist++[σ']) reads) Q):Run T (.dops (o::os) env σ next hist reads) Q
 |dcall {o os env σ next hist reads f args v σ' Q} (hw:o.o.wanted env=some true) (ho:o.o.op = .call f args)
   (hc:Run T (.callv (f.ev env) (args.map (·.ev env)) σ) fun r=>r.v=v∧r.σ=σ')
   (h:Run T (.dops os (Env.put env o.o.dst v) σ' next (hist++[σ']) reads) Q):Run T (.dops (o::os) env σ next hist reads) Q
 |callf {f first cap args σ Q} (h:Run T (.call f (first++args++cap) σ) Q):Run T (.callv (.func f first cap) args σ) Q
 |round {id args σ env ps a b Q R S} (hl:σ[id]? = some (.loop .ready none env ps a b)) (hn:ps.length=args.length)
   (h:Run T (.code a (jN env ps args) σ) R)
   (h0:∀ o,R o→o.j=none∧o.σ[id]? = some (.loop .ready none env ps a b))
   (h1:∀ o,R o→Run T (.code b o.env (o.σ.set id (.loop .busy none env ps a b))) S)
   (h2:∀ o,S o→o.σ[id]? = some (.loop .busy none env ps a b) ∧
    Q ⟨none,[],o.σ.set id (.loop (if o.j=none then .ready else .done) o.j env ps a b),.bool (decide (o.j=none))⟩) :
   Run T (.callv (.yield id) args σ) Q
 |call {f args σ af Q R} (hf:T f=some af) (hn:args.length≤af.ntmps) (h:Run T (.code af.body (eX 0 args) σ) R)
   (h1:∀ o,R o→(o.j=none∨o.j=some .ret)∧∃ v,fY af.results o.env o.σ=some v∧NF σ o.σ v Q):Run T (.call f args σ) Q
def top:Nat:=2^60
def Env.has:Env→Nat→Bool
 |[],_=>false
 |(k,_)::e,t=>if k=t then true else Env.has e t
def Env.tidyTo (acc:Env):Env→Env
 |[]=>acc
 |(k,v)::e=>if Env.has acc k then Env.tidyTo acc e else Env.tidyTo (acc++[(k,v)]) e
def Env.tidy (e:Env):Env:=Env.tidyTo [] e
def VX (q:AOp) (e:Env):Nat :=
 match q with
 |.store _ a _=>match a.ev e with|.ptr id _=>id|_=>top
 |.mapset _ m _ _=>match m.ev e with|.map id=>id|_=>top
 |.copy _ x _=>match x.ev e with|.ref id _ _ _=>id|_=>top
 |.snext x=>match x.ev e with|.ptr id _=>id|_=>top
 |.append _ _ x _=>match x.ev e with|.lit _ false (some t)=>t|_=>top
 |_=>top
mutual
def okVB (m:Nat):Nat→AV→Bool
 |0,_=>false
 |d+1,v =>
  match v with
  |.func _ a b=>okVBs m d a&&okVBs m d b
  |.yield id|.ptr id _|.ref id _ _ _|.map id=>decide (id<m)
  |.lptr xs _ _ tk|.lit xs _ tk=>(match tk with|some t=>decide (t<m)|none=>true)&&okVBs m d xs
  |.agg cs=>okVBs m d cs
  |.tuple vs=>okVBs m d vs
  |_=>true
def okVBs (m:Nat):Nat→List AV→Bool
 |0,_=>false
 |_+1,[]=>true
 |d+1,v::vs=>okVB m d v&&okVBs m d vs
end
def ZN (m:Nat):ABlk→Bool
 |.cells cs=>okVBs m 10000 cs
 |.map es=>es.all fun p=>okVB m 10000 p.1&&okVB m 10000 p.2
 |.miter id _ _ _=>decide (id<m)
 |_=>true
def WD (m:Nat):List ABlk→Nat→Nat→Bool
 |[],_,_=>true
 |b::bs,i,lo=>if i<m then (decide (i<lo)||ZN m b)&&WD m bs (i+1) lo else true
mutual
def snapF (σ:St) (m:Nat):Nat→Nat→AV→Option AV
 |0,_,_=>none
 |k+1,d,v =>
  match v with
  |.func f first cap=>match snapsF σ m k d first,snapsF σ m k d cap with|some a,some b=>some (.func f a b)|_,_=>none
  |.yield id=>if id<m then some (.yield id) else none
  |.ptr id off=>if id<m then some (.ptr id off) else none
  |.map id=>if id<m then some (.map id) else none
  |.ref id off len sz =>
   if id<m then some (.ref id off len sz) else
   match d with
   |0=>none
   |d+1 =>
    match jV σ (.ref id off len sz) with
    |some xs=>if (decide (0<sz)&&aM sz xs)=true then (match snapsF σ m k d xs with|some ys=>some (.lit ys false none)|none=>none) else none
    |none=>none
  |.lit xs full tk=>match snapsF σ m k d xs with|some ys=>some (.lit ys full (tk.filter (· < m)))|none=>none
  |.agg cs=>match snapsF σ m k d cs with|some ys=>some (.agg ys)|none=>none
  |.tuple vs=>match snapsF σ m k d vs with|some ys=>some (.tuple ys)|none=>none
  |.lptr xs i off tk=>match snapsF σ m k d xs with|some ys=>some (.lptr ys i off (tk.filter (· < m)))|none=>none
  |.undef=>some .undef
  |.int k n=>some (.int k n)
  |.bool b=>some (.bool b)
  |.str s=>some (.str s)
  |.nilFunc=>some .nilFunc
  |.nilPtr=>some .nilPtr
  |.nilMap=>some .nilMap
def snapsF (σ:St) (m:Nat):Nat→Nat→List AV→Option (List AV)
 |0,_,_=>none
 |_+1,_,[]=>some []
 |k+1,d,v::vs=>match snapF σ m k d v,snapsF σ m k d vs with|some a,some b=>some (a::b)|_,_=>none
end
mutual
def eqVF:Nat→AV→AV→Bool
 |0,_,_=>false
 |k+1,a,b =>
  match a,b with
  |.undef,.undef|.nilFunc,.nilFunc|.nilPtr,.nilPtr|.nilMap,.nilMap=>true
  |.int k n,.int l m=>decide (k=l)&&decide (n=m)
  |.bool x,.bool y=>x==y
  |.str x,.str y=>decide (x=y)
  |.func f a b,.func g c d=>decide (f=g)&&eqVsF k a c&&eqVsF k b d
  |.yield i,.yield j|.map i,.map j=>decide (i=j)
  |.ptr i o,.ptr j p=>decide (i=j)&&decide (o=p)
  |.lptr xs i o t,.lptr ys j p u=>eqVsF k xs ys&&decide (i=j)&&decide (o=p)&&decide (t=u)
  |.lit xs f t,.lit ys g u=>eqVsF k xs ys&&(f==g)&&decide (t=u)
  |.ref a b c d,.ref e f g h=>decide (a=e)&&decide (b=f)&&decide (c=g)&&decide (d=h)
  |.agg xs,.agg ys=>eqVsF k xs ys
  |.tuple xs,.tuple ys=>eqVsF k xs ys
  |_,_=>false
def eqVsF:Nat→List AV→List AV→Bool
 |0,_,_=>false
 |_+1,[],[]=>true
 |k+1,a::x,b::y=>eqVF k a b&&eqVsF k x y
 |_+1,_,_=>false
end
def QW (r:ARead):List St→Nat→Bool
 |[],_=>true
 |s::ss,j =>
  (if decide (r.lo≤j)&&decide (j≤r.hi) then (match aop r.op r.env s with|some (v,_)=>eqVF 100000 v r.v|none=>false) else true)&&QW r ss (j+1)
def aDU (x:AOpd) (e:Env) (σ:St):Option (AV×St):=some (x.ev e,σ)
def aBP (c a b:AOpd) (e:Env) (σ:St):Option (AV×St):=match c.ev e with|.bool true=>some (a.ev e,σ)|.bool false=>some (b.ev e,σ)|_=>none
def XD (zero:List AV) (σ:St):Option (AV×St):=some (.ptr σ.length 0,σ++[.cells zero])
def aEX (n:Nat) (v:AV) (σ:St):Option (AV×St):=if (v.cells.length==n&&v.cells.all (·.cell))=true then some (.ptr σ.length 0,σ++[.cells v.cells]) else none
def YI (zero:List AV) (parts:List (Nat×Nat×AOpd)) (e:Env) (σ:St):Option (AV×St):=match bV e zero parts with|some cs=>some (.agg cs,σ)|none=>none
def XC (sz:Nat) (vs:List AV) (σ:St):Option (AV×St):=if aM sz vs=true then some (.lit vs true none,σ) else none
def aAI (sh:Option Nat) (σ:St) (v:AV):Option (AV×St):=match jL sh σ v with|some v=>some (v,σ)|none=>none
def WR (n:Nat) (σ:St) (a v:AV):Option (AV×St):=match mW n σ a v with|some σ'=>some (.tuple [],σ')|none=>none
def aD9 (σ:St) (x y:AV):Option (AV×St):=match x,y with|.int k a,.int k' b=>if k=k' then some (.int k (k.wrap (a+b)),σ) else none|_,_=>none
def aEZ (σ:St) (x y:AV):Option (AV×St):=match x,y with|.int k a,.int k' b=>if k=k' then some (.int k (k.wrap (a-b)),σ) else none|_,_=>none
def aEL (σ:St) (x y:AV):Option (AV×St):=match x,y with|.int k a,.int k' b=>if k=k' then some (.int k (k.wrap (a*b)),σ) else none|_,_=>none
def aD6 (σ:St) (x y:AV):Option (AV×St):=match x,y with|.int k a,.int k' b=>if k=k' then some (.bool (decide (a<b)),σ) else none|_,_=>none
def aD1 (σ:St) (x y:AV):Option (AV×St):=match x,y with|.int k a,.int k' b=>if k=k' then some (.bool (decide (a≤b)),σ) else none|_,_=>none
def aEE (σ:St) (x y:AV):Option (AV×St):=match x,y with|.int k a,.int k' b=>if k=k' then some (.bool (decide (a > b)),σ) else none|_,_=>none
def aEC (σ:St) (x y:AV):Option (AV×St):=match x,y with|.int k a,.int k' b=>if k=k' then some (.bool (decide (a≥b)),σ) else none|_,_=>none
def aC7 (op:BinOp) (σ:St) (x y:AV):Option (AV×St):=match fC op x y with|some v=>some (v,σ)|none=>none
def aD2 (op:BinOp) (σ:St) (x y:AV):Option (AV×St) :=
 match op with
 |.add=>aD9 σ x y
 |.sub=>aEZ σ x y
 |.mul=>aEL σ x y
 |.lss=>aD6 σ x y
 |.leq=>aD1 σ x y
 |.gtr=>aEE σ x y
 |.geq=>aEC σ x y
 |op=>aC7 op σ x y
def aDK (sh:EqTy) (neg:Bool) (σ:St) (x y:AV):Option (AV×St):=match iN sh x y with|some b=>some (.bool (if neg then !b else b),σ)|none=>none
def aDX (σ:St) (x:AV):Option (AV×St):=match x with|.bool b=>some (.bool !b,σ)|_=>none
def XJ (off:Nat) (σ:St) (x:AV):Option (AV×St):=match x with|.ptr id o=>some (.ptr id (o+off),σ)|.lptr xs i o t=>some (.lptr xs i (o+off) t,σ)|_=>none
def ZI (off:Nat) (sh:Option Nat) (σ:St) (x:AV):Option (AV×St):=match x with|.agg cs=>(match eY sh cs off with|some v=>some (v,σ)|none=>none)|_=>none
def aEI (i:Nat) (σ:St) (x:AV):Option (AV×St):=match x with|.tuple vs=>(match vs[i]? with|some v=>some (v,σ)|none=>none)|_=>none
def aDZ (k:Nat) (σ:St) (x:AV):Option (AV×St):=match iD k σ x with|some n=>some (.int .i64 n,σ)|none=>none
def aEQ (σ:St) (x:AV):Option (AV×St):=match x with|.ptr i o=>some (.ptr i o,σ)|.lptr xs i o t=>some (.lptr xs i o t,σ)|.func f a b=>some (.func f a b,σ)|.yield i=>some (.yield i,σ)|_=>none
def aC3 (op:AOp) (e:Env) (σ:St):Option (AV×St) :=
 match op with
 |.mov x=>aDU x e σ
 |.pick c a b=>aBP c a b e σ
 |.alloc z=>XD z σ
 |.box n x=>aEX n (x.ev e) σ
 |.build z ps=>YI z ps e σ
 |.mklit n xs=>XC n (xs.map (·.ev e)) σ
 |.load sh x=>aAI sh σ (x.ev e)
 |.store n a x=>WR n σ (a.ev e) (x.ev e)
 |.nilCheck x=>aEQ σ (x.ev e)
 |.bin op x y=>aD2 op σ (x.ev e) (y.ev e)
 |.eql sh n x y=>aDK sh n σ (x.ev e) (y.ev e)
 |.not x=>aDX σ (x.ev e)
 |.faddr x o=>XJ o σ (x.ev e)
 |.field x o sh=>ZI o sh σ (x.ev e)
 |.ext x i=>aEI i σ (x.ev e)
 |.len k x=>aDZ k σ (x.ev e)
 |.append sz b x y=>fV sz b σ (x.ev e) (y.ev e)
 |op=>aop op e σ
section
variable (callv:AV→List AV→St→Option (AV×St×Nat))
def wZ:List AOper→Env→St→Nat→Option (Env×St×Nat)
 |[],e,σ,lo=>some (e,σ,lo)
 |o::os,e,σ,lo =>
  match o.wanted e with
  |some true =>
   match o.op with
   |.call f args =>
    match callv (f.ev e) (args.map (·.ev e)) σ with
    |some (v,σ',l)=>wZ os (Env.put e o.dst v) σ' (Nat.min lo l)
    |none=>none
   |op =>
    match aC3 op e σ with
    |some (v,σ')=>wZ os (Env.put e o.dst v) σ' (Nat.min lo (VX op e))
    |none=>none
  |some false=>wZ os (Env.put e o.dst (.tuple [])) σ lo
  |none=>none
def zA:List ADOper→Env→St→Nat→List St→List ARead→Nat→Option (Env×St×Nat)
 |[],e,σ,_,hist,reads,lo=>if reads.all (fun r=>QW r hist 0)=true then some (e,σ,lo) else none
 |d::ds,e,σ,next,hist,reads,lo =>
  match d.o.wanted e with
  |some true =>
   match d.o.op with
   |.call f args =>
    match callv (f.ev e) (args.map (·.ev e)) σ with
    |some (v,σ',l)=>zA ds (Env.put e d.o.dst v) σ' next (hist++[σ']) reads (Nat.min lo l)
    |none=>none
   |.alloc _=>zA ds (Env.put e d.o.dst (.ptr next 0)) σ (next+1) hist reads lo
   |op =>
    match aC3 op e σ with
    |some (v,σ') =>
     if op.acts=true then zA ds (Env.put e d.o.dst v) σ' next (hist++[σ']) reads (Nat.min lo (VX op e))
     else if op.reads=true then zA ds (Env.put e d.o.dst v) σ next hist (⟨d.lo,d.hi,op,e,v⟩::reads) lo
     else zA ds (Env.put e d.o.dst v) σ next hist reads lo
    |none=>none
  |some false=>zA ds (Env.put e d.o.dst (.tuple [])) σ (if d.o.op.allocs then next+1 else next) (if d.o.op.acts then hist++[σ] else hist) reads lo
  |none=>none
end
def aAS:Option AJump→Bool
 |none|some .ret=>true
 |_=>false
section
variable (T:FuncId→Option AFunc) (M:FuncId→List AV→Option AV) (E:ACode→Env→St→Option (Option AJump×Env×St×Nat))
def V4 (f:FuncId) (args:List AV) (σ:St):Option (AV×St×Nat) :=
 match M f args with
 |some v=>some (v,σ,top)
 |none =>
 match T f with
 |some af =>
  if args.length≤af.ntmps then
   match E af.body (eX 0 args) σ with
   |some (j,e,σ1,lo) =>
    if aAS j=true then
     match fY af.results e σ1 with
     |some v =>
      match snapF σ1 σ.length 100000 20 v with
      |some v'=>if WD σ.length σ1 0 lo=true then some (v',σ1.take σ.length,lo) else some (v,σ1,lo)
      |none=>some (v,σ1,lo)
     |none=>none
    else none
   |none=>none
  else none
 |none=>none
def U5 (f:AV) (args:List AV) (σ:St):Option (AV×St×Nat) :=
 match f with
 |.func f first cap=>V4 T M E f (first++args++cap) σ
 |.yield id =>
  match σ[id]? with
  |some (.loop .ready none env ps a b) =>
   if ps.length=args.length then
    match E a (jN env ps args) σ with
    |some (none,e1,σ1,l1) =>
     match σ1[id]? with
     |some (.loop .ready none _ _ _ _) =>
      match E b e1 (σ1.set id (.loop .busy none env ps a b)) with
      |some (j,_,σ2,l2) =>
       match σ2[id]? with
       |some (.loop .busy none _ _ _ _) =>
        match j with
        |none=>some (.bool true,σ2.set id (.loop .ready none env ps a b),Nat.min id (Nat.min l1 l2))
        |some j=>some (.bool false,σ2.set id (.loop .done (some j) env ps a b),Nat.min id (Nat.min l1 l2))
       |_=>none
      |none=>none
     |_=>none
    |_=>none
   else none
  |_=>none
 |_=>none
end
def aB3 (id:Nat):Option AJump→Option AJump
 |some (.exit i)=>if i=id then none else some (.exit i)
 |j=>j
abbrev Res:=Option (Option AJump×Env×St×Nat)
def aCE (r:Option (Env×St×Nat)):Res:=match r with|some (e',σ',lo)=>some (none,e',σ',lo)|none=>none
def aB6 (lo:Nat) (r:Res):Res:=match r with|some (j,e2,σ2,l2)=>some (j,e2,σ2,Nat.min lo l2)|none=>none
def aD7 (E:ACode→Env→St→Res) (b:ACode) (r:Res):Res :=
 match r with
 |some (none,e1,σ1,lo)=>aB6 lo (E b e1 σ1)
 |r=>r
def aBS (E:ACode→Env→St→Res) (b:ACode) (r:Res):Res :=
 match r with
 |some (none,e1,σ1,lo)=>aB6 lo (E (.loop b) (Env.tidy e1) σ1)
 |r=>r
def aBV (x:AV) (r q:Res):Res:=match x with|.bool true=>r|.bool false=>q|_=>none
def W7 (id:Nat) (r:Res):Res:=match r with|some (j,e1,σ1,lo)=>some (aB3 id j,e1,σ1,lo)|none=>none
def KC (e:Env) (n:Nat) (r:Option (AV×St×Nat)):Res :=
 match r with
 |some (_,σ1,lo) =>
  match σ1[n]? with
  |some (.loop .ready pend _ _ _ _)=>some (pend,e,σ1.set n .dead,lo)
  |some (.loop .done pend _ _ _ _)=>some (pend,e,σ1.set n .dead,lo)
  |_=>none
 |none=>none
def ZB (T:FuncId→Option AFunc) (M:FuncId→List AV→Option AV) (E:ACode→Env→St→Res) (f:AV) (ps:List Nat) (a b:ACode) (e:Env) (σ:St):Res :=
 match f with
 |.func g first cap=>KC e σ.length (V4 T M E g (first++[.yield σ.length]++cap) (σ++[.loop .ready none e ps a b]))
 |_=>none
def M1 (T:FuncId→Option AFunc) (M:FuncId→List AV→Option AV) (E:ACode→Env→St→Res) (c:ACode) (e:Env) (σ:St):Res :=
 match c with
 |.skip=>some (none,e,σ,top)
 |.jump j=>some (some j,e,σ,top)
 |.reg os=>aCE (wZ (U5 T M E) os e σ top)
 |.dreg ds=>aCE (zA (U5 T M E) ds e (σ++dI ds) σ.length [σ++dI ds] [] top)
 |.seq a b=>aD7 E b (E a e σ)
 |.cond c a b=>aBV (c.ev e) (E a e σ) (E b e σ)
 |.block id b=>W7 id (E b e σ)
 |.loop b=>aBS E b (E b e σ)
 |.scope b=>E b e σ
 |.rangeFunc f ps a b=>ZB T M E (f.ev e) ps a b e σ
def exec (T:FuncId→Option AFunc) (M:FuncId→List AV→Option AV):Nat→ACode→Env→St→Res
 |0=>fun _ _ _=>none
 |k+1=>M1 T M (exec T M k)
end Go.Am
namespace Go.Am.Room
def a2:AFunc:=⟨1,[],
 .reg [⟨some 0,.call (.c (.func 1 [] [])) [],none⟩]⟩
def a3:AFunc:=⟨61,[.tmp 4],
 .seq (.reg [⟨some 2,.box 4 (.t 0),none⟩,⟨some 4,.mov (.c (.bool false)),none⟩])
 (.seq (.reg [⟨some 14,.load (some 4) (.t 2),none⟩,⟨some 15,.call (.c (.func 17 [] [])) [.t 14],none⟩,⟨some 13,.mov (.t 15),none⟩,⟨some 16,.ext (.t 13) 0,none⟩,⟨some 17,.ext (.t 13) 1,none⟩,⟨some 18,.ext (.t 13) 2,none⟩,⟨some 5,.mov (.t 16),none⟩,⟨some 6,.mov (.t 17),none⟩,⟨some 7,.mov (.t 18),none⟩])
 (.seq (.reg [⟨some 20,.load (some 4) (.t 2),none⟩,⟨some 21,.call (.c (.func 18 [] [])) [.t 20],none⟩,⟨some 19,.mov (.t 21),none⟩,⟨some 22,.ext (.t 19) 0,none⟩,⟨some 23,.ext (.t 19) 1,none⟩,⟨some 24,.ext (.t 19) 2,none⟩,⟨some 8,.mov (.t 22),none⟩,⟨some 9,.mov (.t 23),none⟩,⟨some 10,.mov (.t 24),none⟩])
 (.seq (.seq (.reg [⟨some 25,.mov (.t 5),none⟩,⟨some 26,.mov (.t 8),none⟩,⟨some 27,.eql (.one .i) true (.t 25) (.t 26),none⟩,⟨some 28,.mov (.t 27),none⟩,⟨some 29,.mov (.t 6),(some (28,false))⟩,⟨some 30,.mov (.t 9),(some (28,false))⟩,⟨some 31,.eql (.one .i) true (.t 29) (.t 30),(some (28,false))⟩,⟨some 32,.pick (.t 28) (.c (.bool true)) (.t 31),none⟩,⟨some 33,.mov (.t 32),none⟩,⟨some 34,.mov (.t 7),(some (33,false))⟩,⟨some 35,.mov (.t 10),(some (33,false))⟩,⟨some 36,.eql (.one .i) true (.t 34) (.t 35),(some (33,false))⟩,⟨some 37,.pick (.t 33) (.c (.bool true)) (.t 36),none⟩])
 (.cond (.t 37) (.seq (.reg [⟨some 4,.mov (.c (.bool false)),none⟩])
 (.jump .ret))
 .skip))
 (.seq (.reg [⟨some 39,.load (some 4) (.t 2),none⟩,⟨some 40,.mov (.t 1),none⟩,⟨some 41,.call (.c (.func 19 [] [])) [.t 39,.t 40],none⟩,⟨some 38,.mov (.t 41),none⟩,⟨some 42,.ext (.t 38) 0,none⟩,⟨some 43,.ext (.t 38) 1,none⟩,⟨some 11,.mov (.t 42),none⟩,⟨some 7,.mov (.t 43),none⟩])
 (.seq (.reg [⟨some 45,.load (some 4) (.t 2),none⟩,⟨some 46,.mov (.t 1),none⟩,⟨some 47,.call (.c (.func 20 [] [])) [.t 45,.t 46],none⟩,⟨some 44,.mov (.t 47),none⟩,⟨some 48,.ext (.t 44) 0,none⟩,⟨some 49,.ext (.t 44) 1,none⟩,⟨some 12,.mov (.t 48),none⟩,⟨some 10,.mov (.t 49),none⟩])
 (.seq (.reg [⟨some 50,.mov (.t 11),none⟩,⟨some 51,.mov (.t 12),none⟩,⟨some 52,.call (.c (.func 21 [] [])) [.t 50,.t 51],none⟩,⟨some 53,.mov (.t 52),none⟩,⟨some 54,.mov (.t 7),(some (53,true))⟩,⟨some 55,.mov (.t 10),(some (53,true))⟩,⟨some 56,.eql (.one .i) false (.t 54) (.t 55),(some (53,true))⟩,⟨some 57,.pick (.t 53) (.t 56) (.c (.bool false)),none⟩,⟨some 58,.mov (.t 57),none⟩,⟨some 59,.call (.c (.func 22 [] [])) [],(some (58,true))⟩,⟨some 60,.pick (.t 58) (.t 59) (.c (.bool false)),none⟩,⟨some 4,.mov (.t 60),none⟩])
 (.jump .ret)))))))⟩
def a4:AFunc:=⟨90,[.tmp 4],
 .seq (.reg [⟨some 2,.box 4 (.t 0),none⟩,⟨some 4,.mov (.c (.bool false)),none⟩])
 (.seq (.reg [⟨some 16,.load (some 4) (.t 2),none⟩,⟨some 17,.mov (.t 1),none⟩,⟨some 18,.call (.c (.func 23 [] [])) [.t 16,.t 17],none⟩,⟨some 15,.mov (.t 18),none⟩,⟨some 19,.ext (.t 15) 0,none⟩,⟨some 20,.ext (.t 15) 1,none⟩,⟨some 21,.ext (.t 15) 2,none⟩,⟨some 5,.alloc [.int .i64 0,.int .i64 0],none⟩,⟨none,.store 2 (.t 5) (.t 19),none⟩,⟨some 6,.mov (.t 20),none⟩,⟨some 7,.mov (.t 21),none⟩])
 (.seq (.reg [⟨some 23,.load (some 4) (.t 2),none⟩,⟨some 24,.mov (.t 1),none⟩,⟨some 25,.call (.c (.func 24 [] [])) [.t 23,.t 24],none⟩,⟨some 22,.mov (.t 25),none⟩,⟨some 26,.ext (.t 22) 0,none⟩,⟨some 27,.ext (.t 22) 1,none⟩,⟨some 28,.ext (.t 22) 2,none⟩,⟨some 8,.alloc [.int .i64 0,.int .i64 0],none⟩,⟨none,.store 2 (.t 8) (.t 26),none⟩,⟨some 9,.mov (.t 27),none⟩,⟨some 10,.mov (.t 28),none⟩])
 (.seq (.seq (.reg [⟨some 29,.load (some 2) (.t 5),none⟩,⟨some 30,.load (some 2) (.t 8),none⟩,⟨some 31,.eql (.agg [.i,.i]) true (.t 29) (.t 30),none⟩,⟨some 32,.mov (.t 31),none⟩,⟨some 33,.mov (.t 6),(some (32,false))⟩,⟨some 34,.mov (.t 9),(some (32,false))⟩,⟨some 35,.eql (.one .i) true (.t 33) (.t 34),(some (32,false))⟩,⟨some 36,.pick (.t 32) (.c (.bool true)) (.t 35),none⟩,⟨some 37,.mov (.t 36),none⟩,⟨some 38,.mov (.t 7),(some (37,false))⟩,⟨some 39,.mov (.t 10),(some (37,false))⟩,⟨some 40,.eql (.one .i) true (.t 38) (.t 39),(some (37,false))⟩,⟨some 41,.pick (.t 37) (.c (.bool true)) (.t 40),none⟩])
 (.cond (.t 41) (.seq (.reg [⟨some 4,.mov (.c (.bool false)),none⟩])
 (.jump .ret))
 .skip))
 (.seq (.reg [⟨some 43,.load (some 4) (.t 2),none⟩,⟨some 44,.call (.c (.func 25 [] [])) [.t 43],none⟩,⟨some 42,.mov (.t 44),none⟩,⟨some 45,.ext (.t 42) 0,none⟩,⟨some 46,.ext (.t 42) 1,none⟩,⟨some 47,.ext (.t 42) 2,none⟩,⟨some 11,.mov (.t 45),none⟩,⟨some 12,.mov (.t 46),none⟩,⟨some 7,.mov (.t 47),none⟩])
 (.seq (.reg [⟨some 49,.load (some 4) (.t 2),none⟩,⟨some 50,.call (.c (.func 26 [] [])) [.t 49],none⟩,⟨some 48,.mov (.t 50),none⟩,⟨some 51,.ext (.t 48) 0,none⟩,⟨some 52,.ext (.t 48) 1,none⟩,⟨some 53,.ext (.t 48) 2,none⟩,⟨some 13,.mov (.t 51),none⟩,⟨some 14,.mov (.t 52),none⟩,⟨some 10,.mov (.t 53),none⟩])
 (.seq (.seq (.reg [⟨some 54,.mov (.t 11),none⟩,⟨some 55,.mov (.t 13),none⟩,⟨some 56,.call (.c (.func 27 [] [])) [.t 54,.t 55],none⟩,⟨some 57,.not (.t 56),none⟩,⟨some 58,.mov (.t 57),none⟩,⟨some 59,.mov (.t 12),(some (58,false))⟩,⟨some 60,.mov (.t 14),(some (58,false))⟩,⟨some 61,.call (.c (.func 27 [] [])) [.t 59,.t 60],(some (58,false))⟩,⟨some 62,.not (.t 61),(some (58,false))⟩,⟨some 63,.pick (.t 58) (.c (.bool true)) (.t 62),none⟩,⟨some 64,.mov (.t 63),none⟩,⟨some 65,.mov (.t 7),(some (64,false))⟩,⟨some 66,.mov (.t 10),(some (64,false))⟩,⟨some 67,.eql (.one .i) true (.t 65) (.t 66),(some (64,false))⟩,⟨some 68,.pick (.t 64) (.c (.bool true)) (.t 67),none⟩])
 (.cond (.t 68) (.seq (.reg [⟨some 4,.mov (.c (.bool false)),none⟩])
 (.jump .ret))
 .skip))
 (.seq (.reg [⟨some 70,.load (some 4) (.t 2),none⟩,⟨some 71,.call (.c (.func 28 [] [])) [.t 70],none⟩,⟨some 69,.mov (.t 71),none⟩,⟨some 72,.ext (.t 69) 0,none⟩,⟨some 73,.ext (.t 69) 1,none⟩,⟨some 6,.mov (.t 72),none⟩,⟨some 7,.mov (.t 73),none⟩])
 (.seq (.reg [⟨some 75,.load (some 4) (.t 2),none⟩,⟨some 76,.call (.c (.func 29 [] [])) [.t 75],none⟩,⟨some 74,.mov (.t 76),none⟩,⟨some 77,.ext (.t 74) 0,none⟩,⟨some 78,.ext (.t 74) 1,none⟩,⟨some 9,.mov (.t 77),none⟩,⟨some 10,.mov (.t 78),none⟩])
 (.seq (.reg [⟨some 79,.mov (.t 6),none⟩,⟨some 80,.mov (.t 9),none⟩,⟨some 81,.eql (.one .i) false (.t 79) (.t 80),none⟩,⟨some 82,.mov (.t 81),none⟩,⟨some 83,.mov (.t 7),(some (82,true))⟩,⟨some 84,.mov (.t 10),(some (82,true))⟩,⟨some 85,.eql (.one .i) false (.t 83) (.t 84),(some (82,true))⟩,⟨some 86,.pick (.t 82) (.t 85) (.c (.bool false)),none⟩,⟨some 87,.mov (.t 86),none⟩,⟨some 88,.call (.c (.func 22 [] [])) [],(some (87,true))⟩,⟨some 89,.pick (.t 87) (.t 88) (.c (.bool false)),none⟩,⟨some 4,.mov (.t 89),none⟩])
 (.jump .ret))))))))))⟩
def a5:AFunc:=⟨37,[.tmp 2],
 .seq (.reg [⟨some 1,.box 4 (.t 0),none⟩,⟨some 2,.mov (.c (.bool false)),none⟩])
 (.seq (.reg [⟨some 10,.load (some 4) (.t 1),none⟩,⟨some 11,.call (.c (.func 30 [] [])) [.t 10],none⟩,⟨some 9,.mov (.t 11),none⟩,⟨some 12,.ext (.t 9) 0,none⟩,⟨some 13,.ext (.t 9) 1,none⟩,⟨some 14,.ext (.t 9) 2,none⟩,⟨some 3,.mov (.t 12),none⟩,⟨some 4,.mov (.t 13),none⟩,⟨some 5,.mov (.t 14),none⟩])
 (.seq (.reg [⟨some 16,.load (some 4) (.t 1),none⟩,⟨some 17,.call (.c (.func 31 [] [])) [.t 16],none⟩,⟨some 15,.mov (.t 17),none⟩,⟨some 18,.ext (.t 15) 0,none⟩,⟨some 19,.ext (.t 15) 1,none⟩,⟨some 20,.ext (.t 15) 2,none⟩,⟨some 6,.mov (.t 18),none⟩,⟨some 7,.mov (.t 19),none⟩,⟨some 8,.mov (.t 20),none⟩])
 (.seq (.reg [⟨some 21,.mov (.t 3),none⟩,⟨some 22,.mov (.t 6),none⟩,⟨some 23,.call (.c (.func 21 [] [])) [.t 21,.t 22],none⟩,⟨some 24,.mov (.t 23),none⟩,⟨some 25,.mov (.t 4),(some (24,true))⟩,⟨some 26,.mov (.t 7),(some (24,true))⟩,⟨some 27,.call (.c (.func 27 [] [])) [.t 25,.t 26],(some (24,true))⟩,⟨some 28,.pick (.t 24) (.t 27) (.c (.bool false)),none⟩,⟨some 29,.mov (.t 28),none⟩,⟨some 30,.mov (.t 5),(some (29,true))⟩,⟨some 31,.mov (.t 8),(some (29,true))⟩,⟨some 32,.eql (.one .i) false (.t 30) (.t 31),(some (29,true))⟩,⟨some 33,.pick (.t 29) (.t 32) (.c (.bool false)),none⟩,⟨some 34,.mov (.t 33),none⟩,⟨some 35,.call (.c (.func 22 [] [])) [],(some (34,true))⟩,⟨some 36,.pick (.t 34) (.t 35) (.c (.bool false)),none⟩,⟨some 2,.mov (.t 36),none⟩])
 (.jump .ret))))⟩
def a6:AFunc:=⟨86,[.tmp 2],
 .seq (.reg [⟨some 1,.box 4 (.t 0),none⟩,⟨some 2,.mov (.c (.bool false)),none⟩])
 (.seq (.reg [⟨some 14,.load (some 4) (.t 1),none⟩,⟨some 15,.call (.c (.func 32 [] [])) [.t 14],none⟩,⟨some 13,.mov (.t 15),none⟩,⟨some 16,.ext (.t 13) 0,none⟩,⟨some 17,.ext (.t 13) 1,none⟩,⟨some 18,.ext (.t 13) 2,none⟩,⟨some 3,.mov (.t 16),none⟩,⟨some 4,.mov (.t 17),none⟩,⟨some 5,.mov (.t 18),none⟩])
 (.seq (.reg [⟨some 20,.load (some 4) (.t 1),none⟩,⟨some 21,.call (.c (.func 33 [] [])) [.t 20],none⟩,⟨some 19,.mov (.t 21),none⟩,⟨some 22,.ext (.t 19) 0,none⟩,⟨some 23,.ext (.t 19) 1,none⟩,⟨some 24,.ext (.t 19) 2,none⟩,⟨some 6,.mov (.t 22),none⟩,⟨some 7,.mov (.t 23),none⟩,⟨some 8,.mov (.t 24),none⟩])
 (.seq (.seq (.reg [⟨some 25,.mov (.t 3),none⟩,⟨some 26,.mov (.t 6),none⟩,⟨some 27,.call (.c (.func 27 [] [])) [.t 25,.t 26],none⟩,⟨some 28,.not (.t 27),none⟩,⟨some 29,.mov (.t 28),none⟩,⟨some 30,.mov (.t 4),(some (29,false))⟩,⟨some 31,.mov (.t 7),(some (29,false))⟩,⟨some 32,.call (.c (.func 27 [] [])) [.t 30,.t 31],(some (29,false))⟩,⟨some 33,.not (.t 32),(some (29,false))⟩,⟨some 34,.pick (.t 29) (.c (.bool true)) (.t 33),none⟩,⟨some 35,.mov (.t 34),none⟩,⟨some 36,.mov (.t 5),(some (35,false))⟩,⟨some 37,.mov (.t 8),(some (35,false))⟩,⟨some 38,.eql (.one .i) true (.t 36) (.t 37),(some (35,false))⟩,⟨some 39,.pick (.t 35) (.c (.bool true)) (.t 38),none⟩])
 (.cond (.t 39) (.seq (.reg [⟨some 2,.mov (.c (.bool false)),none⟩])
 (.jump .ret))
 .skip))
 (.seq (.reg [⟨some 41,.load (some 4) (.t 1),none⟩,⟨some 42,.call (.c (.func 34 [] [])) [.t 41],none⟩,⟨some 40,.mov (.t 42),none⟩,⟨some 43,.ext (.t 40) 0,none⟩,⟨some 44,.ext (.t 40) 1,none⟩,⟨some 45,.ext (.t 40) 2,none⟩,⟨some 9,.mov (.t 43),none⟩,⟨some 10,.mov (.t 44),none⟩,⟨some 5,.mov (.t 45),none⟩])
 (.seq (.reg [⟨some 47,.load (some 4) (.t 1),none⟩,⟨some 48,.call (.c (.func 35 [] [])) [.t 47],none⟩,⟨some 46,.mov (.t 48),none⟩,⟨some 49,.ext (.t 46) 0,none⟩,⟨some 50,.ext (.t 46) 1,none⟩,⟨some 51,.ext (.t 46) 2,none⟩,⟨some 11,.mov (.t 49),none⟩,⟨some 12,.mov (.t 50),none⟩,⟨some 8,.mov (.t 51),none⟩])
 (.seq (.seq (.reg [⟨some 52,.mov (.t 9),none⟩,⟨some 53,.mov (.t 11),none⟩,⟨some 54,.eql (.one .i) true (.t 52) (.t 53),none⟩,⟨some 55,.mov (.t 54),none⟩,⟨some 56,.mov (.t 10),(some (55,false))⟩,⟨some 57,.mov (.t 12),(some (55,false))⟩,⟨some 58,.eql (.one .i) true (.t 56) (.t 57),(some (55,false))⟩,⟨some 59,.pick (.t 55) (.c (.bool true)) (.t 58),none⟩,⟨some 60,.mov (.t 59),none⟩,⟨some 61,.mov (.t 5),(some (60,false))⟩,⟨some 62,.mov (.t 8),(some (60,false))⟩,⟨some 63,.eql (.one .i) true (.t 61) (.t 62),(some (60,false))⟩,⟨some 64,.pick (.t 60) (.c (.bool true)) (.t 63),none⟩])
 (.cond (.t 64) (.seq (.reg [⟨some 2,.mov (.c (.bool false)),none⟩])
 (.jump .ret))
 .skip))
 (.seq (.reg [⟨some 66,.load (some 4) (.t 1),none⟩,⟨some 67,.call (.c (.func 36 [] [])) [.t 66],none⟩,⟨some 65,.mov (.t 67),none⟩,⟨some 68,.ext (.t 65) 0,none⟩,⟨some 69,.ext (.t 65) 1,none⟩,⟨some 3,.mov (.t 68),none⟩,⟨some 5,.mov (.t 69),none⟩])
 (.seq (.reg [⟨some 71,.load (some 4) (.t 1),none⟩,⟨some 72,.call (.c (.func 37 [] [])) [.t 71],none⟩,⟨some 70,.mov (.t 72),none⟩,⟨some 73,.ext (.t 70) 0,none⟩,⟨some 74,.ext (.t 70) 1,none⟩,⟨some 6,.mov (.t 73),none⟩,⟨some 8,.mov (.t 74),none⟩])
 (.seq (.reg [⟨some 75,.mov (.t 3),none⟩,⟨some 76,.mov (.t 6),none⟩,⟨some 77,.call (.c (.func 27 [] [])) [.t 75,.t 76],none⟩,⟨some 78,.mov (.t 77),none⟩,⟨some 79,.mov (.t 5),(some (78,true))⟩,⟨some 80,.mov (.t 8),(some (78,true))⟩,⟨some 81,.eql (.one .i) false (.t 79) (.t 80),(some (78,true))⟩,⟨some 82,.pick (.t 78) (.t 81) (.c (.bool false)),none⟩,⟨some 83,.mov (.t 82),none⟩,⟨some 84,.call (.c (.func 22 [] [])) [],(some (83,true))⟩,⟨some 85,.pick (.t 83) (.t 84) (.c (.bool false)),none⟩,⟨some 2,.mov (.t 85),none⟩])
 (.jump .ret))))))))))⟩
def a7:AFunc:=⟨174,[.tmp 0],
 .seq (.reg [⟨some 0,.mov (.c (.bool false)),none⟩])
 (.seq (.reg [⟨some 24,.call (.c (.func 38 [] [])) [(.c (.bool false)),(.c (.lit [] true none))],none⟩,⟨some 25,.call (.c (.func 39 [] [])) [(.c (.int .i64 0)),(.c (.int .i64 (-1)))],none⟩,⟨some 26,.mklit 2 [.t 25],none⟩,⟨some 27,.call (.c (.func 38 [] [])) [(.c (.bool true)),(.t 26)],none⟩,⟨some 1,.alloc [.int .i64 0,.lit [] true none,.lit [] true none,.lit [] true none],none⟩,⟨some 2,.alloc [.int .i64 0,.lit [] true none,.lit [] true none,.lit [] true none],none⟩,⟨none,.store 4 (.t 1) (.t 24),none⟩,⟨none,.store 4 (.t 2) (.t 27),none⟩])
 (.seq (.reg [⟨some 29,.load (some 4) (.t 1),none⟩,⟨some 30,.call (.c (.func 19 [] [])) [(.t 29),(.c (.int .i64 2))],none⟩,⟨some 28,.mov (.t 30),none⟩,⟨some 31,.ext (.t 28) 0,none⟩,⟨some 32,.ext (.t 28) 1,none⟩,⟨some 3,.mov (.t 31),none⟩,⟨some 4,.mov (.t 32),none⟩])
 (.seq (.reg [⟨some 34,.load (some 4) (.t 1),none⟩,⟨some 35,.call (.c (.func 19 [] [])) [(.t 34),(.c (.int .i64 0))],none⟩,⟨some 33,.mov (.t 35),none⟩,⟨some 36,.ext (.t 33) 0,none⟩,⟨some 37,.ext (.t 33) 1,none⟩,⟨some 5,.mov (.t 36),none⟩,⟨some 6,.mov (.t 37),none⟩])
 (.seq (.reg [⟨some 39,.load (some 4) (.t 1),none⟩,⟨some 40,.call (.c (.func 23 [] [])) [(.t 39),(.c (.int .i64 0))],none⟩,⟨some 38,.mov (.t 40),none⟩,⟨some 41,.ext (.t 38) 0,none⟩,⟨some 42,.ext (.t 38) 1,none⟩,⟨some 43,.ext (.t 38) 2,none⟩,⟨some 7,.alloc [.int .i64 0,.int .i64 0],none⟩,⟨none,.store 2 (.t 7) (.t 41),none⟩,⟨some 8,.mov (.t 42),none⟩,⟨some 9,.mov (.t 43),none⟩])
 (.seq (.reg [⟨some 45,.load (some 4) (.t 1),none⟩,⟨some 46,.call (.c (.func 25 [] [])) [.t 45],none⟩,⟨some 44,.mov (.t 46),none⟩,⟨some 47,.ext (.t 44) 0,none⟩,⟨some 48,.ext (.t 44) 1,none⟩,⟨some 49,.ext (.t 44) 2,none⟩,⟨some 10,.mov (.t 47),none⟩,⟨some 11,.mov (.t 48),none⟩,⟨some 12,.mov (.t 49),none⟩])
 (.seq (.reg [⟨some 51,.load (some 4) (.t 2),none⟩,⟨some 52,.call (.c (.func 25 [] [])) [.t 51],none⟩,⟨some 50,.mov (.t 52),none⟩,⟨some 53,.ext (.t 50) 0,none⟩,⟨some 54,.ext (.t 50) 1,none⟩,⟨some 55,.ext (.t 50) 2,none⟩,⟨some 13,.mov (.t 53),none⟩,⟨some 14,.mov (.t 54),none⟩,⟨some 15,.mov (.t 55),none⟩])
 (.seq (.reg [⟨some 57,.load (some 4) (.t 1),none⟩,⟨some 58,.call (.c (.func 30 [] [])) [.t 57],none⟩,⟨some 56,.mov (.t 58),none⟩,⟨some 59,.ext (.t 56) 0,none⟩,⟨some 60,.ext (.t 56) 1,none⟩,⟨some 61,.ext (.t 56) 2,none⟩,⟨some 16,.mov (.t 59),none⟩,⟨some 17,.mov (.t 60),none⟩,⟨some 18,.mov (.t 61),none⟩])
 (.seq (.reg [⟨some 63,.load (some 4) (.t 2),none⟩,⟨some 64,.call (.c (.func 32 [] [])) [.t 63],none⟩,⟨some 62,.mov (.t 64),none⟩,⟨some 65,.ext (.t 62) 0,none⟩,⟨some 66,.ext (.t 62) 1,none⟩,⟨some 67,.ext (.t 62) 2,none⟩,⟨some 19,.mov (.t 65),none⟩,⟨some 20,.mov (.t 66),none⟩,⟨some 21,.mov (.t 67),none⟩])
 (.seq (.reg [⟨some 69,.load (some 4) (.t 2),none⟩,⟨some 70,.call (.c (.func 36 [] [])) [.t 69],none⟩,⟨some 68,.mov (.t 70),none⟩,⟨some 71,.ext (.t 68) 0,none⟩,⟨some 72,.ext (.t 68) 1,none⟩,⟨some 22,.mov (.t 71),none⟩,⟨some 23,.mov (.t 72),none⟩])
 (.seq (.dreg [⟨⟨some 73,.mov (.t 4),none⟩,0,0⟩,⟨⟨some 74,.eql (.one .i) false (.t 73) (.c (.int .i64 0)),none⟩,0,0⟩,⟨⟨some 75,.mov (.t 74),none⟩,0,0⟩,⟨⟨some 76,.mov (.t 6),(some (75,true))⟩,0,0⟩,⟨⟨some 77,.eql (.one .i) false (.t 76) (.c (.int .i64 0)),(some (75,true))⟩,0,0⟩,⟨⟨some 78,.pick (.t 75) (.t 77) (.c (.bool false)),none⟩,0,0⟩,⟨⟨some 79,.mov (.t 78),none⟩,0,0⟩,⟨⟨some 80,.mov (.t 9),(some (79,true))⟩,0,0⟩,⟨⟨some 81,.eql (.one .i) false (.t 80) (.c (.int .i64 0)),(some (79,true))⟩,0,0⟩,⟨⟨some 82,.pick (.t 79) (.t 81) (.c (.bool false)),none⟩,0,0⟩,⟨⟨some 83,.mov (.t 82),none⟩,0,0⟩,⟨⟨some 84,.mov (.t 12),(some (83,true))⟩,0,0⟩,⟨⟨some 85,.eql (.one .i) false (.t 84) (.c (.int .i64 0)),(some (83,true))⟩,0,0⟩,⟨⟨some 86,.pick (.t 83) (.t 85) (.c (.bool false)),none⟩,0,0⟩,⟨⟨some 87,.mov (.t 86),none⟩,0,0⟩,⟨⟨some 88,.mov (.t 15),(some (87,true))⟩,0,0⟩,⟨⟨some 89,.eql (.one .i) false (.t 88) (.c (.int .i64 0)),(some (87,true))⟩,0,0⟩,⟨⟨some 90,.pick (.t 87) (.t 89) (.c (.bool false)),none⟩,0,0⟩,⟨⟨some 91,.mov (.t 90),none⟩,0,0⟩,⟨⟨some 92,.mov (.t 18),(some (91,true))⟩,0,0⟩,⟨⟨some 93,.eql (.one .i) false (.t 92) (.c (.int .i64 0)),(some (91,true))⟩,0,0⟩,⟨⟨some 94,.pick (.t 91) (.t 93) (.c (.bool false)),none⟩,0,0⟩,⟨⟨some 95,.mov (.t 94),none⟩,0,0⟩,⟨⟨some 96,.mov (.t 21),(some (95,true))⟩,0,0⟩,⟨⟨some 97,.eql (.one .i) false (.t 96) (.c (.int .i64 0)),(some (95,true))⟩,0,0⟩,⟨⟨some 98,.pick (.t 95) (.t 97) (.c (.bool false)),none⟩,0,0⟩,⟨⟨some 99,.mov (.t 98),none⟩,0,0⟩,⟨⟨some 100,.mov (.t 23),(some (99,true))⟩,0,0⟩,⟨⟨some 101,.eql (.one .i) false (.t 100) (.c (.int .i64 0)),(some (99,true))⟩,0,0⟩,⟨⟨some 102,.pick (.t 99) (.t 101) (.c (.bool false)),none⟩,0,0⟩,⟨⟨some 103,.mov (.t 102),none⟩,0,0⟩,⟨⟨some 104,.mov (.t 3),(some (103,true))⟩,0,0⟩,⟨⟨some 105,.mklit 1 [(.c (.int .i64 2))],(some (103,true))⟩,0,0⟩,⟨⟨some 106,.mklit 1 [(.c (.int .i64 1)),(.c (.int .i64 0))],(some (103,true))⟩,0,0⟩,⟨⟨some 107,.mklit 1 [.t 105,.t 106],(some (103,true))⟩,0,0⟩,⟨⟨some 108,.call (.c (.func 21 [] [])) [.t 104,.t 107],(some (103,true))⟩,0,1⟩,⟨⟨some 109,.pick (.t 103) (.t 108) (.c (.bool false)),none⟩,1,1⟩,⟨⟨some 110,.mov (.t 109),none⟩,1,1⟩,⟨⟨some 111,.mov (.t 5),(some (110,true))⟩,1,1⟩,⟨⟨some 112,.len 1 (.t 111),(some (110,true))⟩,1,1⟩,⟨⟨some 113,.eql (.one .i) false (.t 112) (.c (.int .i64 0)),(some (110,true))⟩,1,1⟩,⟨⟨some 114,.pick (.t 110) (.t 113) (.c (.bool false)),none⟩,1,1⟩,⟨⟨some 115,.mov (.t 114),none⟩,1,1⟩,⟨⟨some 116,.load (some 2) (.t 7),(some (115,true))⟩,1,2⟩,⟨⟨some 117,.call (.c (.func 40 [] [])) [(.c (.int .i64 9)),(.c (.int .i64 10))],(some (115,true))⟩,1,2⟩,⟨⟨some 118,.eql (.agg [.i,.i]) false (.t 116) (.t 117),(some (115,true))⟩,2,2⟩,⟨⟨some 119,.pick (.t 115) (.t 118) (.c (.bool false)),none⟩,2,2⟩,⟨⟨some 120,.mov (.t 119),none⟩,2,2⟩,⟨⟨some 121,.mov (.t 8),(some (120,true))⟩,2,2⟩,⟨⟨some 122,.eql (.one .i) false (.t 121) (.c (.int .i64 1)),(some (120,true))⟩,2,2⟩,⟨⟨some 123,.pick (.t 120) (.t 122) (.c (.bool false)),none⟩,2,2⟩,⟨⟨some 124,.mov (.t 123),none⟩,2,2⟩,⟨⟨some 125,.mov (.t 10),(some (124,true))⟩,2,2⟩,⟨⟨some 126,.len 1 (.t 125),(some (124,true))⟩,2,2⟩,⟨⟨some 127,.eql (.one .i) false (.t 126) (.c (.int .i64 0)),(some (124,true))⟩,2,2⟩,⟨⟨some 128,.pick (.t 124) (.t 127) (.c (.bool false)),none⟩,2,2⟩,⟨⟨some 129,.mov (.t 128),none⟩,2,2⟩,⟨⟨some 130,.mov (.t 11),(some (129,true))⟩,2,2⟩,⟨⟨some 131,.len 1 (.t 130),(some (129,true))⟩,2,2⟩,⟨⟨some 132,.eql (.one .i) false (.t 131) (.c (.int .i64 0)),(some (129,true))⟩,2,2⟩,⟨⟨some 133,.pick (.t 129) (.t 132) (.c (.bool false)),none⟩,2,2⟩,⟨⟨some 134,.mov (.t 133),none⟩,2,2⟩,⟨⟨some 135,.mov (.t 13),(some (134,true))⟩,2,2⟩,⟨⟨some 136,.mklit 1 [(.c (.int .i64 0)),(.c (.int .i64 1))],(some (134,true))⟩,2,2⟩,⟨⟨some 137,.call (.c (.func 27 [] [])) [.t 135,.t 136],(some (134,true))⟩,2,3⟩,⟨⟨some 138,.pick (.t 134) (.t 137) (.c (.bool false)),none⟩,3,3⟩,⟨⟨some 139,.mov (.t 138),none⟩,3,3⟩,⟨⟨some 140,.mov (.t 14),(some (139,true))⟩,3,3⟩,⟨⟨some 141,.mklit 1 [(.c (.int .i64 0)),(.c (.int .i64 1))],(some (139,true))⟩,3,3⟩,⟨⟨some 142,.call (.c (.func 27 [] [])) [.t 140,.t 141],(some (139,true))⟩,3,4⟩,⟨⟨some 143,.pick (.t 139) (.t 142) (.c (.bool false)),none⟩,4,4⟩,⟨⟨some 144,.mov (.t 143),none⟩,4,4⟩,⟨⟨some 145,.mov (.t 16),(some (144,true))⟩,4,4⟩,⟨⟨some 146,.mklit 1 [(.c (.int .i64 1)),(.c (.int .i64 0))],(some (144,true))⟩,4,4⟩,⟨⟨some 147,.mklit 1 [(.c (.int .i64 3)),(.c (.int .i64 1)),(.c (.int .i64 0))],(some (144,true))⟩,4,4⟩,⟨⟨some 148,.mklit 1 [.t 146,.t 147],(some (144,true))⟩,4,4⟩,⟨⟨some 149,.call (.c (.func 21 [] [])) [.t 145,.t 148],(some (144,true))⟩,4,5⟩,⟨⟨some 150,.pick (.t 144) (.t 149) (.c (.bool false)),none⟩,5,5⟩,⟨⟨some 151,.mov (.t 150),none⟩,5,5⟩,⟨⟨some 152,.mov (.t 17),(some (151,true))⟩,5,5⟩,⟨⟨some 153,.len 1 (.t 152),(some (151,true))⟩,5,5⟩,⟨⟨some 154,.eql (.one .i) false (.t 153) (.c (.int .i64 0)),(some (151,true))⟩,5,5⟩,⟨⟨some 155,.pick (.t 151) (.t 154) (.c (.bool false)),none⟩,5,5⟩,⟨⟨some 156,.mov (.t 155),none⟩,5,5⟩,⟨⟨some 157,.mov (.t 19),(some (156,true))⟩,5,5⟩,⟨⟨some 158,.mklit 1 [(.c (.int .i64 0))],(some (156,true))⟩,5,5⟩,⟨⟨some 159,.call (.c (.func 27 [] [])) [.t 157,.t 158],(some (156,true))⟩,5,6⟩,⟨⟨some 160,.pick (.t 156) (.t 159) (.c (.bool false)),none⟩,6,6⟩,⟨⟨some 161,.mov (.t 160),none⟩,6,6⟩,⟨⟨some 162,.mov (.t 20),(some (161,true))⟩,6,6⟩,⟨⟨some 163,.mklit 1 [(.c (.int .i64 0))],(some (161,true))⟩,6,6⟩,⟨⟨some 164,.call (.c (.func 27 [] [])) [.t 162,.t 163],(some (161,true))⟩,6,7⟩,⟨⟨some 165,.pick (.t 161) (.t 164) (.c (.bool false)),none⟩,7,7⟩,⟨⟨some 166,.mov (.t 165),none⟩,7,7⟩,⟨⟨some 167,.mov (.t 22),(some (166,true))⟩,7,7⟩,⟨⟨some 168,.len 1 (.t 167),(some (166,true))⟩,7,7⟩,⟨⟨some 169,.eql (.one .i) false (.t 168) (.c (.int .i64 0)),(some (166,true))⟩,7,7⟩,⟨⟨some 170,.pick (.t 166) (.t 169) (.c (.bool false)),none⟩,7,7⟩,⟨⟨some 171,.mov (.t 170),none⟩,7,7⟩,⟨⟨some 172,.call (.c (.func 22 [] [])) [],(some (171,true))⟩,7,8⟩,⟨⟨some 173,.pick (.t 171) (.t 172) (.c (.bool false)),none⟩,8,8⟩,⟨⟨some 0,.mov (.t 173),none⟩,8,8⟩])
 (.jump .ret)))))))))))⟩
def aEW:ACode:=.seq (.seq (.reg [⟨some 67,.mov (.t 15),none⟩,⟨some 68,.faddr (.t 8) 0,none⟩,⟨some 69,.load none (.t 68),none⟩,⟨some 70,.len 1 (.t 69),none⟩,⟨some 71,.bin .lss (.t 67) (.t 70),none⟩])
 (.cond (.t 71) .skip
 (.jump (.exit 0))))
 (.seq (.block 1 (.seq (.reg [⟨some 74,.faddr (.t 8) 0,none⟩,⟨some 75,.load none (.t 74),none⟩,⟨some 76,.mov (.t 15),none⟩,⟨some 77,.iaddr none 1 (.t 75) (.t 76),none⟩,⟨some 78,.load none (.t 77),none⟩,⟨some 79,.mov (.t 78),none⟩,⟨some 80,.mov (.t 13),(some (79,true))⟩,⟨some 81,.mov (.t 15),(some (79,true))⟩,⟨some 82,.call (.c (.func 43 [] [])) [.t 80,.t 81],(some (79,true))⟩,⟨some 83,.not (.t 82),(some (79,true))⟩,⟨some 84,.pick (.t 79) (.t 83) (.c (.bool false)),none⟩,⟨some 85,.mov (.t 84),none⟩,⟨some 86,.faddr (.t 8) 0,(some (85,false))⟩,⟨some 87,.load none (.t 86),(some (85,false))⟩,⟨some 88,.mov (.t 15),(some (85,false))⟩,⟨some 89,.iaddr none 1 (.t 87) (.t 88),(some (85,false))⟩,⟨some 90,.load none (.t 89),(some (85,false))⟩,⟨some 91,.not (.t 90),(some (85,false))⟩,⟨some 92,.mov (.t 91),(some (85,false))⟩,⟨some 93,.mov (.t 12),(some (92,true))⟩,⟨some 94,.mov (.t 15),(some (92,true))⟩,⟨some 95,.call (.c (.func 43 [] [])) [.t 93,.t 94],(some (92,true))⟩,⟨some 96,.pick (.t 92) (.t 95) (.c (.bool false)),(some (85,false))⟩,⟨some 97,.pick (.t 85) (.c (.bool true)) (.t 96),none⟩])
 (.cond (.t 97) (.seq (.reg [⟨some 4,.mov (.c (.bool false)),none⟩])
 (.jump .ret))
 .skip)))
 (.reg [⟨some 72,.mov (.t 15),none⟩,⟨some 73,.bin .add (.t 72) (.c (.int .i64 1)),none⟩,⟨some 15,.mov (.t 73),none⟩]))
def aDR:ACode:=.seq (.seq (.reg [⟨some 106,.mov (.t 19),none⟩,⟨some 107,.mov (.t 9),none⟩,⟨some 108,.len 1 (.t 107),none⟩,⟨some 109,.bin .lss (.t 106) (.t 108),none⟩])
 (.cond (.t 109) .skip
 (.jump (.exit 2))))
 (.seq (.block 3 (.seq (.reg [⟨some 113,.load (some 4) (.t 7),none⟩,⟨some 114,.mov (.t 19),none⟩,⟨some 115,.call (.c (.func 23 [] [])) [.t 113,.t 114],none⟩,⟨some 112,.mov (.t 115),none⟩,⟨some 116,.ext (.t 112) 0,none⟩,⟨some 117,.ext (.t 112) 1,none⟩,⟨some 118,.ext (.t 112) 2,none⟩,⟨some 20,.alloc [.int .i64 0,.int .i64 0],none⟩,⟨none,.store 2 (.t 20) (.t 116),none⟩,⟨some 21,.mov (.t 117),none⟩,⟨some 22,.mov (.t 118),none⟩])
 (.seq (.dreg [⟨⟨some 119,.mov (.t 9),none⟩,0,1⟩,⟨⟨some 120,.mov (.t 19),none⟩,0,1⟩,⟨⟨some 121,.iaddr none 1 (.t 119) (.t 120),none⟩,0,1⟩,⟨⟨some 122,.load none (.t 121),none⟩,0,1⟩,⟨⟨some 123,.eql (.one .i) true (.t 122) (.c (.int .i64 (-1))),none⟩,0,1⟩,⟨⟨some 124,.faddr (.t 7) 2,none⟩,0,0⟩,⟨⟨some 125,.load none (.t 124),none⟩,0,0⟩,⟨⟨some 126,.mov (.t 19),none⟩,0,0⟩,⟨⟨some 127,.iaddr none 5 (.t 125) (.t 126),none⟩,0,0⟩,⟨⟨some 128,.load (some 5) (.t 127),none⟩,0,0⟩,⟨⟨some 129,.mov (.t 9),none⟩,0,0⟩,⟨⟨some 130,.mov (.t 19),none⟩,0,0⟩,⟨⟨some 131,.iaddr none 1 (.t 129) (.t 130),none⟩,0,0⟩,⟨⟨some 132,.load none (.t 131),none⟩,0,0⟩,⟨⟨some 133,.call (.c (.func 44 [] [])) [.t 128,.t 132],none⟩,0,1⟩,⟨⟨some 23,.mov (.t 123),none⟩,1,1⟩,⟨⟨some 24,.mov (.t 133),none⟩,1,1⟩])
 (.seq (.dreg [⟨⟨some 134,.mov (.t 22),none⟩,0,0⟩,⟨⟨some 135,.eql (.one .i) true (.t 134) (.c (.int .i64 0)),none⟩,0,0⟩,⟨⟨some 136,.mov (.t 135),none⟩,0,0⟩,⟨⟨some 137,.mov (.t 23),(some (136,false))⟩,0,0⟩,⟨⟨some 138,.mov (.t 137),(some (136,false))⟩,0,0⟩,⟨⟨some 139,.mov (.t 21),(some (138,true))⟩,0,0⟩,⟨⟨some 140,.eql (.one .i) false (.t 139) (.c (.int .i64 2)),(some (138,true))⟩,0,0⟩,⟨⟨some 141,.mov (.t 140),(some (138,true))⟩,0,0⟩,⟨⟨some 142,.mov (.t 9),(some (141,false))⟩,0,0⟩,⟨⟨some 143,.mov (.t 19),(some (141,false))⟩,0,0⟩,⟨⟨some 144,.iaddr none 1 (.t 142) (.t 143),(some (141,false))⟩,0,0⟩,⟨⟨some 145,.load none (.t 144),(some (141,false))⟩,0,0⟩,⟨⟨some 146,.load (some 2) (.t 20),(some (141,false))⟩,0,0⟩,⟨⟨some 147,.call (.c (.func 45 [] [])) [.t 145,.t 146],(some (141,false))⟩,0,1⟩,⟨⟨some 148,.not (.t 147),(some (141,false))⟩,1,1⟩,⟨⟨some 149,.pick (.t 141) (.c (.bool true)) (.t 148),(some (138,true))⟩,1,1⟩,⟨⟨some 150,.pick (.t 138) (.t 149) (.c (.bool false)),(some (136,false))⟩,1,1⟩,⟨⟨some 151,.pick (.t 136) (.c (.bool true)) (.t 150),none⟩,1,1⟩,⟨⟨some 152,.mov (.t 151),none⟩,1,1⟩,⟨⟨some 153,.mov (.t 23),(some (152,false))⟩,1,1⟩,⟨⟨some 154,.not (.t 153),(some (152,false))⟩,1,1⟩,⟨⟨some 155,.mov (.t 154),(some (152,false))⟩,1,1⟩,⟨⟨some 156,.mov (.t 21),(some (155,true))⟩,1,1⟩,⟨⟨some 157,.eql (.one .i) false (.t 156) (.c (.int .i64 1)),(some (155,true))⟩,1,1⟩,⟨⟨some 158,.pick (.t 155) (.t 157) (.c (.bool false)),(some (152,false))⟩,1,1⟩,⟨⟨some 159,.pick (.t 152) (.c (.bool true)) (.t 158),none⟩,1,1⟩,⟨⟨some 160,.mov (.t 159),none⟩,1,1⟩,⟨⟨some 161,.mov (.t 24),(some (160,false))⟩,1,1⟩,⟨⟨some 162,.mov (.t 161),(some (160,false))⟩,1,1⟩,⟨⟨some 163,.mov (.t 16),(some (162,true))⟩,1,1⟩,⟨⟨some 164,.mov (.t 19),(some (162,true))⟩,1,1⟩,⟨⟨some 165,.call (.c (.func 43 [] [])) [.t 163,.t 164],(some (162,true))⟩,1,2⟩,⟨⟨some 166,.pick (.t 162) (.t 165) (.c (.bool false)),(some (160,false))⟩,2,2⟩,⟨⟨some 167,.pick (.t 160) (.c (.bool true)) (.t 166),none⟩,2,2⟩,⟨⟨some 168,.mov (.t 167),none⟩,2,2⟩,⟨⟨some 169,.mov (.t 24),(some (168,false))⟩,2,2⟩,⟨⟨some 170,.not (.t 169),(some (168,false))⟩,2,2⟩,⟨⟨some 171,.mov (.t 170),(some (168,false))⟩,2,2⟩,⟨⟨some 172,.mov (.t 17),(some (171,true))⟩,2,2⟩,⟨⟨some 173,.mov (.t 19),(some (171,true))⟩,2,2⟩,⟨⟨some 174,.call (.c (.func 43 [] [])) [.t 172,.t 173],(some (171,true))⟩,2,3⟩,⟨⟨some 175,.not (.t 174),(some (171,true))⟩,3,3⟩,⟨⟨some 176,.pick (.t 171) (.t 175) (.c (.bool false)),(some (168,false))⟩,3,3⟩,⟨⟨some 177,.pick (.t 168) (.c (.bool true)) (.t 176),none⟩,3,3⟩])
 (.cond (.t 177) (.seq (.reg [⟨some 4,.mov (.c (.bool false)),none⟩])
 (.jump .ret))
 .skip)))))
 (.reg [⟨some 110,.mov (.t 19),none⟩,⟨some 111,.bin .add (.t 110) (.c (.int .i64 1)),none⟩,⟨some 19,.mov (.t 111),none⟩]))
def a8:AFunc:=⟨179,[.tmp 4],
 .seq (.reg [⟨some 2,.box 4 (.t 0),none⟩,⟨some 4,.mov (.c (.bool false)),none⟩])
 (.seq (.seq (.reg [⟨some 25,.load (some 4) (.t 2),none⟩,⟨some 26,.call (.c (.func 41 [] [])) [.t 25],none⟩,⟨some 27,.not (.t 26),none⟩])
 (.cond (.t 27) (.seq (.reg [⟨some 29,.load (some 4) (.t 2),none⟩,⟨some 30,.call (.c (.func 36 [] [])) [.t 29],none⟩,⟨some 28,.mov (.t 30),none⟩,⟨some 31,.ext (.t 28) 0,none⟩,⟨some 32,.ext (.t 28) 1,none⟩,⟨some 5,.mov (.t 31),none⟩,⟨some 6,.mov (.t 32),none⟩])
 (.seq (.reg [⟨some 33,.mov (.t 6),none⟩,⟨some 34,.eql (.one .i) true (.t 33) (.c (.int .i64 0)),none⟩,⟨some 35,.mov (.t 34),none⟩,⟨some 36,.call (.c (.func 22 [] [])) [],(some (35,true))⟩,⟨some 37,.pick (.t 35) (.t 36) (.c (.bool false)),none⟩,⟨some 4,.mov (.t 37),none⟩])
 (.jump .ret)))
 .skip))
 (.seq (.reg [⟨some 39,.load (some 4) (.t 2),none⟩,⟨some 40,.mov (.t 1),none⟩,⟨some 41,.call (.c (.func 42 [] [])) [.t 39,.t 40],none⟩,⟨some 38,.mov (.t 41),none⟩,⟨some 42,.ext (.t 38) 0,none⟩,⟨some 43,.ext (.t 38) 1,none⟩,⟨some 44,.ext (.t 38) 2,none⟩,⟨some 7,.alloc [.int .i64 0,.lit [] true none,.lit [] true none,.lit [] true none],none⟩,⟨some 8,.alloc [.lit [] true none,.lit [] true none],none⟩,⟨none,.store 4 (.t 7) (.t 42),none⟩,⟨none,.store 2 (.t 8) (.t 43),none⟩,⟨some 9,.mov (.t 44),none⟩])
 (.seq (.reg [⟨some 46,.load (some 4) (.t 7),none⟩,⟨some 47,.call (.c (.func 36 [] [])) [.t 46],none⟩,⟨some 45,.mov (.t 47),none⟩,⟨some 48,.ext (.t 45) 0,none⟩,⟨some 49,.ext (.t 45) 1,none⟩,⟨some 10,.mov (.t 48),none⟩,⟨some 11,.mov (.t 49),none⟩])
 (.seq (.reg [⟨some 51,.load (some 4) (.t 7),none⟩,⟨some 52,.call (.c (.func 32 [] [])) [.t 51],none⟩,⟨some 50,.mov (.t 52),none⟩,⟨some 53,.ext (.t 50) 0,none⟩,⟨some 54,.ext (.t 50) 1,none⟩,⟨some 55,.ext (.t 50) 2,none⟩,⟨some 12,.mov (.t 53),none⟩,⟨some 13,.mov (.t 54),none⟩,⟨some 14,.mov (.t 55),none⟩])
 (.seq (.seq (.reg [⟨some 56,.mov (.t 11),none⟩,⟨some 57,.eql (.one .i) true (.t 56) (.c (.int .i64 0)),none⟩,⟨some 58,.mov (.t 57),none⟩,⟨some 59,.mov (.t 14),(some (58,false))⟩,⟨some 60,.eql (.one .i) true (.t 59) (.c (.int .i64 0)),(some (58,false))⟩,⟨some 61,.pick (.t 58) (.c (.bool true)) (.t 60),none⟩,⟨some 62,.mov (.t 61),none⟩,⟨some 63,.mov (.t 10),(some (62,false))⟩,⟨some 64,.len 1 (.t 63),(some (62,false))⟩,⟨some 65,.bin .gtr (.t 64) (.c (.int .i64 0)),(some (62,false))⟩,⟨some 66,.pick (.t 62) (.c (.bool true)) (.t 65),none⟩])
 (.cond (.t 66) (.seq (.reg [⟨some 4,.mov (.c (.bool false)),none⟩])
 (.jump .ret))
 .skip))
 (.seq (.seq (.reg [⟨some 15,.mov (.c (.int .i64 0)),none⟩])
 (.block 0 (.loop aEW)))
 (.seq (.reg [⟨some 99,.load (some 4) (.t 7),none⟩,⟨some 100,.call (.c (.func 25 [] [])) [.t 99],none⟩,⟨some 98,.mov (.t 100),none⟩,⟨some 101,.ext (.t 98) 0,none⟩,⟨some 102,.ext (.t 98) 1,none⟩,⟨some 103,.ext (.t 98) 2,none⟩,⟨some 16,.mov (.t 101),none⟩,⟨some 17,.mov (.t 102),none⟩,⟨some 18,.mov (.t 103),none⟩])
 (.seq (.seq (.reg [⟨some 104,.mov (.t 18),none⟩,⟨some 105,.eql (.one .i) true (.t 104) (.c (.int .i64 0)),none⟩])
 (.cond (.t 105) (.seq (.reg [⟨some 4,.mov (.c (.bool false)),none⟩])
 (.jump .ret))
 .skip))
 (.seq (.seq (.reg [⟨some 19,.mov (.c (.int .i64 0)),none⟩])
 (.block 2 (.loop aDR)))
 (.seq (.reg [⟨some 178,.call (.c (.func 22 [] [])) [],none⟩,⟨some 4,.mov (.t 178),none⟩])
 (.jump .ret)))))))))))⟩
def WI:ACode:=.seq (.seq (.reg [⟨some 54,.mov (.t 14),none⟩,⟨some 55,.mov (.t 2),none⟩,⟨some 56,.len 1 (.t 55),none⟩,⟨some 57,.bin .lss (.t 54) (.t 56),none⟩,⟨some 58,.mov (.t 57),none⟩,⟨some 59,.mov (.t 13),(some (58,true))⟩,⟨some 60,.pick (.t 58) (.t 59) (.c (.bool false)),none⟩])
 (.cond (.t 60) .skip
 (.jump (.exit 0))))
 (.seq (.block 1 (.seq (.dreg [⟨⟨some 63,.mov (.t 2),none⟩,0,0⟩,⟨⟨some 64,.mov (.t 14),none⟩,0,0⟩,⟨⟨some 65,.call (.c (.func 52 [] [])) [.t 63,.t 64],none⟩,0,1⟩,⟨⟨some 66,.faddr (.t 3) 1,none⟩,0,1⟩,⟨⟨some 67,.load none (.t 66),none⟩,0,1⟩,⟨⟨some 68,.len 1 (.t 67),none⟩,0,1⟩,⟨⟨some 69,.bin .rem (.t 65) (.t 68),none⟩,1,1⟩,⟨⟨some 15,.mov (.t 69),none⟩,1,1⟩])
 (.seq (.reg [⟨some 70,.mov (.t 12),none⟩,⟨some 71,.mov (.t 15),none⟩,⟨some 72,.mklit 1 [.t 71],none⟩,⟨some 73,.append 1 8 (.t 70) (.t 72),none⟩,⟨some 12,.mov (.t 73),none⟩])
 (.reg [⟨some 74,.faddr (.t 3) 1,none⟩,⟨some 75,.load none (.t 74),none⟩,⟨some 76,.mov (.t 15),none⟩,⟨some 77,.iaddr none 5 (.t 75) (.t 76),none⟩,⟨some 78,.faddr (.t 77) 4,none⟩,⟨some 79,.load none (.t 78),none⟩,⟨some 80,.eql (.one .i) true (.t 79) (.c (.int .i64 1)),none⟩,⟨some 13,.mov (.t 80),none⟩]))))
 (.reg [⟨some 61,.mov (.t 14),none⟩,⟨some 62,.bin .add (.t 61) (.c (.int .i64 1)),none⟩,⟨some 14,.mov (.t 62),none⟩]))
def WJ:ACode:=.seq (.seq (.reg [⟨some 94,.mov (.t 18),none⟩,⟨some 95,.mov (.t 10),none⟩,⟨some 96,.mov (.t 17),none⟩,⟨some 97,.iaddr none 1 (.t 95) (.t 96),none⟩,⟨some 98,.load none (.t 97),none⟩,⟨some 99,.len 1 (.t 98),none⟩,⟨some 100,.bin .lss (.t 94) (.t 99),none⟩])
 (.cond (.t 100) .skip
 (.jump (.exit 4))))
 (.seq (.block 5 (.seq (.dreg [⟨⟨some 103,.mov (.t 10),none⟩,0,0⟩,⟨⟨some 104,.mov (.t 17),none⟩,0,0⟩,⟨⟨some 105,.iaddr none 1 (.t 103) (.t 104),none⟩,0,0⟩,⟨⟨some 106,.load none (.t 105),none⟩,0,0⟩,⟨⟨some 107,.mov (.t 18),none⟩,0,0⟩,⟨⟨some 108,.iaddr none 1 (.t 106) (.t 107),none⟩,0,0⟩,⟨⟨some 109,.load none (.t 108),none⟩,0,0⟩,⟨⟨some 110,.faddr (.t 3) 1,none⟩,0,0⟩,⟨⟨some 111,.load none (.t 110),none⟩,0,0⟩,⟨⟨some 112,.len 1 (.t 111),none⟩,0,0⟩,⟨⟨some 113,.bin .sub (.t 112) (.c (.int .i64 1)),none⟩,0,0⟩,⟨⟨some 114,.call (.c (.func 62 [] [])) [(.t 109),(.c (.int .i64 0)),(.t 113)],none⟩,0,1⟩,⟨⟨some 115,.not (.t 114),none⟩,1,1⟩,⟨⟨some 116,.mov (.t 115),none⟩,1,1⟩,⟨⟨some 117,.faddr (.t 3) 1,(some (116,false))⟩,1,1⟩,⟨⟨some 118,.load none (.t 117),(some (116,false))⟩,1,1⟩,⟨⟨some 119,.mov (.t 10),(some (116,false))⟩,1,1⟩,⟨⟨some 120,.mov (.t 17),(some (116,false))⟩,1,1⟩,⟨⟨some 121,.iaddr none 1 (.t 119) (.t 120),(some (116,false))⟩,1,1⟩,⟨⟨some 122,.load none (.t 121),(some (116,false))⟩,1,1⟩,⟨⟨some 123,.mov (.t 18),(some (116,false))⟩,1,1⟩,⟨⟨some 124,.iaddr none 1 (.t 122) (.t 123),(some (116,false))⟩,1,1⟩,⟨⟨some 125,.load none (.t 124),(some (116,false))⟩,1,1⟩,⟨⟨some 126,.iaddr none 5 (.t 118) (.t 125),(some (116,false))⟩,1,1⟩,⟨⟨some 127,.faddr (.t 126) 4,(some (116,false))⟩,1,1⟩,⟨⟨some 128,.load none (.t 127),(some (116,false))⟩,1,1⟩,⟨⟨some 129,.eql (.one .i) false (.t 128) (.c (.int .i64 1)),(some (116,false))⟩,1,1⟩,⟨⟨some 130,.pick (.t 116) (.c (.bool true)) (.t 129),none⟩,1,1⟩])
 (.cond (.t 130) (.seq (.reg [⟨some 6,.mov (.c (.bool false)),none⟩])
 (.jump .ret))
 .skip)))
 (.reg [⟨some 101,.mov (.t 18),none⟩,⟨some 102,.bin .add (.t 101) (.c (.int .i64 1)),none⟩,⟨some 18,.mov (.t 102),none⟩]))
def WK:ACode:=.seq (.seq (.reg [⟨some 88,.mov (.t 17),none⟩,⟨some 89,.mov (.t 10),none⟩,⟨some 90,.len 1 (.t 89),none⟩,⟨some 91,.bin .lss (.t 88) (.t 90),none⟩])
 (.cond (.t 91) .skip
 (.jump (.exit 2))))
 (.seq (.block 3 (.seq (.seq (.reg [⟨some 18,.mov (.c (.int .i64 0)),none⟩])
 (.block 4 (.loop WJ)))
 (.seq (.seq (.dreg [⟨⟨some 131,.load (some 4) (.t 3),none⟩,0,0⟩,⟨⟨some 132,.mov (.t 9),none⟩,0,0⟩,⟨⟨some 133,.mov (.t 10),none⟩,0,0⟩,⟨⟨some 134,.mov (.t 17),none⟩,0,0⟩,⟨⟨some 135,.iaddr none 1 (.t 133) (.t 134),none⟩,0,0⟩,⟨⟨some 136,.load none (.t 135),none⟩,0,0⟩,⟨⟨some 137,.call (.c (.func 61 [] [])) [.t 131,.t 132,.t 136],none⟩,0,1⟩,⟨⟨some 138,.not (.t 137),none⟩,1,1⟩,⟨⟨some 139,.mov (.t 138),none⟩,1,1⟩,⟨⟨some 140,.mov (.t 17),(some (139,false))⟩,1,1⟩,⟨⟨some 141,.bin .gtr (.t 140) (.c (.int .i64 0)),(some (139,false))⟩,1,1⟩,⟨⟨some 142,.mov (.t 141),(some (139,false))⟩,1,1⟩,⟨⟨some 143,.mov (.t 10),(some (142,true))⟩,1,1⟩,⟨⟨some 144,.mov (.t 17),(some (142,true))⟩,1,1⟩,⟨⟨some 145,.iaddr none 1 (.t 143) (.t 144),(some (142,true))⟩,1,1⟩,⟨⟨some 146,.load none (.t 145),(some (142,true))⟩,1,1⟩,⟨⟨some 147,.len 1 (.t 146),(some (142,true))⟩,1,1⟩,⟨⟨some 148,.mov (.t 10),(some (142,true))⟩,1,1⟩,⟨⟨some 149,.mov (.t 17),(some (142,true))⟩,1,1⟩,⟨⟨some 150,.bin .sub (.t 149) (.c (.int .i64 1)),(some (142,true))⟩,1,1⟩,⟨⟨some 151,.iaddr none 1 (.t 148) (.t 150),(some (142,true))⟩,1,1⟩,⟨⟨some 152,.load none (.t 151),(some (142,true))⟩,1,1⟩,⟨⟨some 153,.len 1 (.t 152),(some (142,true))⟩,1,1⟩,⟨⟨some 154,.bin .lss (.t 147) (.t 153),(some (142,true))⟩,1,1⟩,⟨⟨some 155,.mov (.t 154),(some (142,true))⟩,1,1⟩,⟨⟨some 156,.mov (.t 10),(some (155,false))⟩,1,1⟩,⟨⟨some 157,.mov (.t 17),(some (155,false))⟩,1,1⟩,⟨⟨some 158,.iaddr none 1 (.t 156) (.t 157),(some (155,false))⟩,1,1⟩,⟨⟨some 159,.load none (.t 158),(some (155,false))⟩,1,1⟩,⟨⟨some 160,.len 1 (.t 159),(some (155,false))⟩,1,1⟩,⟨⟨some 161,.mov (.t 10),(some (155,false))⟩,1,1⟩,⟨⟨some 162,.mov (.t 17),(some (155,false))⟩,1,1⟩,⟨⟨some 163,.bin .sub (.t 162) (.c (.int .i64 1)),(some (155,false))⟩,1,1⟩,⟨⟨some 164,.iaddr none 1 (.t 161) (.t 163),(some (155,false))⟩,1,1⟩,⟨⟨some 165,.load none (.t 164),(some (155,false))⟩,1,1⟩,⟨⟨some 166,.len 1 (.t 165),(some (155,false))⟩,1,1⟩,⟨⟨some 167,.eql (.one .i) false (.t 160) (.t 166),(some (155,false))⟩,1,1⟩,⟨⟨some 168,.mov (.t 167),(some (155,false))⟩,1,1⟩,⟨⟨some 169,.mov (.t 10),(some (168,true))⟩,1,1⟩,⟨⟨some 170,.mov (.t 17),(some (168,true))⟩,1,1⟩,⟨⟨some 171,.bin .sub (.t 170) (.c (.int .i64 1)),(some (168,true))⟩,1,1⟩,⟨⟨some 172,.iaddr none 1 (.t 169) (.t 171),(some (168,true))⟩,1,1⟩,⟨⟨some 173,.load none (.t 172),(some (168,true))⟩,1,1⟩,⟨⟨some 174,.mov (.t 10),(some (168,true))⟩,1,1⟩,⟨⟨some 175,.mov (.t 17),(some (168,true))⟩,1,1⟩,⟨⟨some 176,.iaddr none 1 (.t 174) (.t 175),(some (168,true))⟩,1,1⟩,⟨⟨some 177,.load none (.t 176),(some (168,true))⟩,1,1⟩,⟨⟨some 178,.call (.c (.func 56 [] [])) [.t 173,.t 177],(some (168,true))⟩,1,2⟩,⟨⟨some 179,.not (.t 178),(some (168,true))⟩,2,2⟩,⟨⟨some 180,.pick (.t 168) (.t 179) (.c (.bool false)),(some (155,false))⟩,2,2⟩,⟨⟨some 181,.pick (.t 155) (.c (.bool true)) (.t 180),(some (142,true))⟩,2,2⟩,⟨⟨some 182,.pick (.t 142) (.t 181) (.c (.bool false)),(some (139,false))⟩,2,2⟩,⟨⟨some 183,.pick (.t 139) (.c (.bool true)) (.t 182),none⟩,2,2⟩])
 (.cond (.t 183) (.seq (.reg [⟨some 6,.mov (.c (.bool false)),none⟩])
 (.jump .ret))
 .skip))
 (.seq (.reg [⟨some 184,.mov (.t 10),none⟩,⟨some 185,.mov (.t 17),none⟩,⟨some 186,.iaddr none 1 (.t 184) (.t 185),none⟩,⟨some 187,.load none (.t 186),none⟩,⟨some 188,.mov (.t 12),none⟩,⟨some 189,.call (.c (.func 27 [] [])) [.t 187,.t 188],none⟩])
 (.cond (.t 189) (.reg [⟨some 190,.mov (.t 16),none⟩,⟨some 191,.bin .add (.t 190) (.c (.int .i64 1)),none⟩,⟨some 16,.mov (.t 191),none⟩])
 .skip)))))
 (.reg [⟨some 92,.mov (.t 17),none⟩,⟨some 93,.bin .add (.t 92) (.c (.int .i64 1)),none⟩,⟨some 17,.mov (.t 93),none⟩]))
def a14:AFunc:=⟨201,[.tmp 6],
 .seq (.reg [⟨some 3,.box 4 (.t 0),none⟩,⟨some 6,.mov (.c (.bool false)),none⟩])
 (.seq (.seq (.reg [⟨some 19,.load (some 4) (.t 3),none⟩,⟨some 20,.call (.c (.func 41 [] [])) [.t 19],none⟩,⟨some 21,.not (.t 20),none⟩])
 (.cond (.t 21) (.seq (.reg [⟨some 23,.load (some 4) (.t 3),none⟩,⟨some 24,.call (.c (.func 19 [] [])) [(.t 23),(.c (.int .i64 0))],none⟩,⟨some 22,.mov (.t 24),none⟩,⟨some 25,.ext (.t 22) 0,none⟩,⟨some 26,.ext (.t 22) 1,none⟩,⟨some 7,.mov (.t 25),none⟩,⟨some 8,.mov (.t 26),none⟩])
 (.seq (.reg [⟨some 27,.mov (.t 8),none⟩,⟨some 28,.eql (.one .i) true (.t 27) (.c (.int .i64 0)),none⟩,⟨some 29,.mov (.t 28),none⟩,⟨some 30,.call (.c (.func 22 [] [])) [],(some (29,true))⟩,⟨some 31,.pick (.t 29) (.t 30) (.c (.bool false)),none⟩,⟨some 6,.mov (.t 31),none⟩])
 (.jump .ret)))
 .skip))
 (.seq (.reg [⟨some 32,.mov (.t 1),none⟩,⟨some 33,.conv .i64 (.t 32),none⟩,⟨some 34,.faddr (.t 3) 0,none⟩,⟨some 35,.load none (.t 34),none⟩,⟨some 36,.bin .rem (.t 33) (.t 35),none⟩,⟨some 9,.mov (.t 36),none⟩])
 (.seq (.reg [⟨some 38,.load (some 4) (.t 3),none⟩,⟨some 39,.mov (.t 9),none⟩,⟨some 40,.call (.c (.func 19 [] [])) [.t 38,.t 39],none⟩,⟨some 37,.mov (.t 40),none⟩,⟨some 41,.ext (.t 37) 0,none⟩,⟨some 42,.ext (.t 37) 1,none⟩,⟨some 10,.mov (.t 41),none⟩,⟨some 11,.mov (.t 42),none⟩])
 (.seq (.seq (.reg [⟨some 43,.mov (.t 11),none⟩,⟨some 44,.eql (.one .i) true (.t 43) (.c (.int .i64 0)),none⟩])
 (.cond (.t 44) (.seq (.reg [⟨some 6,.mov (.c (.bool false)),none⟩])
 (.jump .ret))
 .skip))
 (.seq (.reg [⟨some 12,.mov (.c (.lit [] true none)),none⟩])
 (.seq (.reg [⟨some 45,.faddr (.t 3) 1,none⟩,⟨some 46,.load none (.t 45),none⟩,⟨some 47,.len 1 (.t 46),none⟩,⟨some 48,.bin .gtr (.t 47) (.c (.int .i64 0)),none⟩,⟨some 49,.mov (.t 48),none⟩,⟨some 50,.mov (.t 2),(some (49,true))⟩,⟨some 51,.len 1 (.t 50),(some (49,true))⟩,⟨some 52,.bin .gtr (.t 51) (.c (.int .i64 0)),(some (49,true))⟩,⟨some 53,.pick (.t 49) (.t 52) (.c (.bool false)),none⟩,⟨some 13,.mov (.t 53),none⟩])
 (.seq (.seq (.reg [⟨some 14,.mov (.c (.int .i64 0)),none⟩])
 (.block 0 (.loop WI)))
 (.seq (.reg [⟨some 81,.mov (.t 13),none⟩,⟨some 82,.mov (.t 81),none⟩,⟨some 83,.load (some 4) (.t 3),(some (82,true))⟩,⟨some 84,.mov (.t 9),(some (82,true))⟩,⟨some 85,.mov (.t 12),(some (82,true))⟩,⟨some 86,.call (.c (.func 61 [] [])) [.t 83,.t 84,.t 85],(some (82,true))⟩,⟨some 87,.pick (.t 82) (.t 86) (.c (.bool false)),none⟩,⟨some 13,.mov (.t 87),none⟩])
 (.seq (.reg [⟨some 16,.mov (.c (.int .i64 0)),none⟩])
 (.seq (.seq (.reg [⟨some 17,.mov (.c (.int .i64 0)),none⟩])
 (.block 2 (.loop WK)))
 (.seq (.reg [⟨some 192,.mov (.t 13),none⟩,⟨some 193,.not (.t 192),none⟩,⟨some 194,.mov (.t 193),none⟩,⟨some 195,.mov (.t 16),(some (194,false))⟩,⟨some 196,.eql (.one .i) false (.t 195) (.c (.int .i64 1)),(some (194,false))⟩,⟨some 197,.pick (.t 194) (.c (.bool true)) (.t 196),none⟩,⟨some 198,.mov (.t 197),none⟩,⟨some 199,.call (.c (.func 22 [] [])) [],(some (198,true))⟩,⟨some 200,.pick (.t 198) (.t 199) (.c (.bool false)),none⟩,⟨some 6,.mov (.t 200),none⟩])
 (.jump .ret))))))))))))⟩
def a17:AFunc:=⟨64,[.tmp 2,.tmp 3,.tmp 4],
 .seq (.reg [⟨some 1,.box 4 (.t 0),none⟩,⟨some 2,.mov (.c (.int .i64 0)),none⟩,⟨some 3,.mov (.c (.int .i64 0)),none⟩,⟨some 4,.mov (.c (.int .i64 0)),none⟩])
 (.seq (.reg [⟨some 6,.faddr (.t 1) 0,none⟩,⟨some 7,.load none (.t 6),none⟩,⟨some 8,.bin .sub (.t 7) (.c (.int .i64 1)),none⟩,⟨some 5,.alloc [.int .i64 0],none⟩,⟨none,.store 1 (.t 5) (.t 8),none⟩])
 (.seq (.block 0 (.seq (.reg [⟨some 10,.faddr (.t 1) 0,none⟩,⟨some 11,.load none (.t 10),none⟩,⟨some 12,.mklit 1 [.t 11],none⟩,⟨some 13,.call (.c (.func 63 [] [])) [(.c (.int .i64 2)),(.c (.int .i64 5)),(.t 12)],none⟩,⟨some 9,.mov (.t 13),none⟩])
 (.cond (.t 9) (.seq (.reg [⟨some 2,.mov (.c (.int .i64 1)),none⟩,⟨some 3,.mov (.c (.int .i64 0)),none⟩,⟨some 4,.mov (.c (.int .i64 7)),none⟩])
 (.jump .ret))
 (.seq (.reg [⟨some 15,.faddr (.t 1) 1,none⟩,⟨some 16,.load none (.t 15),none⟩,⟨some 17,.len 1 (.t 16),none⟩,⟨some 18,.bin .gtr (.t 17) (.c (.int .i64 5)),none⟩,⟨some 14,.mov (.t 18),none⟩])
 (.cond (.t 14) (.seq (.reg [⟨some 2,.mov (.c (.int .i64 2)),none⟩,⟨some 3,.mov (.c (.int .i64 0)),none⟩,⟨some 4,.mov (.c (.int .i64 3)),none⟩])
 (.jump .ret))
 .skip)))))
 (.seq (.reg [⟨some 20,.faddr (.t 1) 1,none⟩,⟨some 21,.load none (.t 20),none⟩,⟨some 22,.mkfun 65 [] [.t 5],none⟩,⟨some 23,.call (.c (.func 64 [] [])) [.t 21,.t 22],none⟩,⟨some 19,.mov (.t 23),none⟩,⟨some 24,.ext (.t 19) 0,none⟩,⟨some 25,.ext (.t 19) 1,none⟩,⟨some 3,.mov (.t 24),none⟩,⟨some 4,.mov (.t 25),none⟩])
 (.seq (.block 1 (.seq (.reg [⟨some 27,.mov (.t 4),none⟩,⟨some 28,.eql (.one .i) true (.t 27) (.c (.int .i64 0)),none⟩,⟨some 26,.mov (.t 28),none⟩])
 (.cond (.t 26) (.seq (.reg [⟨some 29,.mov (.t 3),none⟩,⟨some 30,.mov (.t 4),none⟩,⟨some 2,.mov (.c (.int .i64 2)),none⟩,⟨some 3,.mov (.t 29),none⟩,⟨some 4,.mov (.t 30),none⟩])
 (.jump .ret))
 (.seq (.reg [⟨some 32,.faddr (.t 1) 2,none⟩,⟨some 33,.load none (.t 32),none⟩,⟨some 34,.len 1 (.t 33),none⟩,⟨some 35,.bin .gtr (.t 34) (.c (.int .i64 3)),none⟩,⟨some 31,.mov (.t 35),none⟩])
 (.cond (.t 31) (.seq (.reg [⟨some 2,.mov (.c (.int .i64 3)),none⟩,⟨some 3,.mov (.c (.int .i64 0)),none⟩,⟨some 4,.mov (.c (.int .i64 3)),none⟩])
 (.jump .ret))
 .skip)))))
 (.seq (.reg [⟨some 37,.faddr (.t 1) 2,none⟩,⟨some 38,.load none (.t 37),none⟩,⟨some 39,.mkfun 67 [] [.t 1,.t 5],none⟩,⟨some 40,.call (.c (.func 66 [] [])) [.t 38,.t 39],none⟩,⟨some 36,.mov (.t 40),none⟩,⟨some 41,.ext (.t 36) 0,none⟩,⟨some 42,.ext (.t 36) 1,none⟩,⟨some 3,.mov (.t 41),none⟩,⟨some 4,.mov (.t 42),none⟩])
 (.seq (.block 2 (.seq (.reg [⟨some 44,.mov (.t 4),none⟩,⟨some 45,.eql (.one .i) true (.t 44) (.c (.int .i64 0)),none⟩,⟨some 43,.mov (.t 45),none⟩])
 (.cond (.t 43) (.seq (.reg [⟨some 46,.mov (.t 3),none⟩,⟨some 47,.mov (.t 4),none⟩,⟨some 2,.mov (.c (.int .i64 3)),none⟩,⟨some 3,.mov (.t 46),none⟩,⟨some 4,.mov (.t 47),none⟩])
 (.jump .ret))
 (.seq (.reg [⟨some 49,.faddr (.t 1) 3,none⟩,⟨some 50,.load none (.t 49),none⟩,⟨some 51,.len 1 (.t 50),none⟩,⟨some 52,.bin .gtr (.t 51) (.c (.int .i64 3)),none⟩,⟨some 48,.mov (.t 52),none⟩])
 (.cond (.t 48) (.seq (.reg [⟨some 2,.mov (.c (.int .i64 4)),none⟩,⟨some 3,.mov (.c (.int .i64 0)),none⟩,⟨some 4,.mov (.c (.int .i64 3)),none⟩])
 (.jump .ret))
 .skip)))))
 (.seq (.reg [⟨some 54,.faddr (.t 1) 3,none⟩,⟨some 55,.load none (.t 54),none⟩,⟨some 56,.mkfun 73 [] [.t 1],none⟩,⟨some 57,.call (.c (.func 72 [] [])) [.t 55,.t 56],none⟩,⟨some 53,.mov (.t 57),none⟩,⟨some 58,.ext (.t 53) 0,none⟩,⟨some 59,.ext (.t 53) 1,none⟩,⟨some 3,.mov (.t 58),none⟩,⟨some 4,.mov (.t 59),none⟩])
 (.seq (.seq (.reg [⟨some 60,.mov (.t 4),none⟩,⟨some 61,.eql (.one .i) true (.t 60) (.c (.int .i64 0)),none⟩])
 (.cond (.t 61) (.seq (.reg [⟨some 62,.mov (.t 3),none⟩,⟨some 63,.mov (.t 4),none⟩,⟨some 2,.mov (.c (.int .i64 4)),none⟩,⟨some 3,.mov (.t 62),none⟩,⟨some 4,.mov (.t 63),none⟩])
 (.jump .ret))
 .skip))
 (.seq (.reg [⟨some 2,.mov (.c (.int .i64 0)),none⟩,⟨some 3,.mov (.c (.int .i64 0)),none⟩,⟨some 4,.mov (.c (.int .i64 0)),none⟩])
 (.jump .ret))))))))))⟩
def VO:ACode:=.seq (.seq (.reg [⟨some 19,.mov (.t 5),none⟩,⟨some 20,.faddr (.t 1) 1,none⟩,⟨some 21,.load none (.t 20),none⟩,⟨some 22,.len 1 (.t 21),none⟩,⟨some 23,.bin .lss (.t 19) (.t 22),none⟩])
 (.cond (.t 23) .skip
 (.jump (.exit 0))))
 (.seq (.block 1 (.seq (.dreg [⟨⟨some 26,.load (some 4) (.t 1),none⟩,0,0⟩,⟨⟨some 27,.faddr (.t 1) 1,none⟩,0,0⟩,⟨⟨some 28,.load none (.t 27),none⟩,0,0⟩,⟨⟨some 29,.mov (.t 5),none⟩,0,0⟩,⟨⟨some 30,.iaddr none 5 (.t 28) (.t 29),none⟩,0,0⟩,⟨⟨some 31,.load (some 5) (.t 30),none⟩,0,0⟩,⟨⟨some 32,.call (.c (.func 74 [] [])) [.t 26,.t 31],none⟩,0,1⟩,⟨⟨some 6,.mov (.t 32),none⟩,1,1⟩])
 (.seq (.reg [⟨some 33,.mov (.t 6),none⟩,⟨some 34,.eql (.one .i) true (.t 33) (.c (.int .i64 0)),none⟩])
 (.cond (.t 34) (.seq (.reg [⟨some 35,.mov (.t 5),none⟩,⟨some 36,.mov (.t 6),none⟩,⟨some 2,.mov (.c (.int .i64 2)),none⟩,⟨some 3,.mov (.t 35),none⟩,⟨some 4,.mov (.t 36),none⟩])
 (.jump .ret))
 .skip))))
 (.reg [⟨some 24,.mov (.t 5),none⟩,⟨some 25,.bin .add (.t 24) (.c (.int .i64 1)),none⟩,⟨some 5,.mov (.t 25),none⟩]))
def UW:ACode:=.seq (.seq (.reg [⟨some 41,.mov (.t 8),none⟩,⟨some 42,.faddr (.t 1) 2,none⟩,⟨some 43,.load none (.t 42),none⟩,⟨some 44,.len 1 (.t 43),none⟩,⟨some 45,.bin .lss (.t 41) (.t 44),none⟩])
 (.cond (.t 45) .skip
 (.jump (.exit 2))))
 (.seq (.block 3 (.seq (.reg [⟨some 48,.faddr (.t 1) 2,none⟩,⟨some 49,.load none (.t 48),none⟩,⟨some 50,.mov (.t 8),none⟩,⟨some 51,.iaddr none 5 (.t 49) (.t 50),none⟩,⟨some 52,.faddr (.t 51) 0,none⟩,⟨some 53,.load none (.t 52),none⟩,⟨some 54,.mov (.t 7),none⟩,⟨some 55,.call (.c (.func 75 [] [])) [.t 53,.t 54],none⟩,⟨some 9,.mov (.t 55),none⟩])
 (.seq (.reg [⟨some 56,.mov (.t 7),none⟩,⟨some 57,.faddr (.t 1) 2,none⟩,⟨some 58,.load none (.t 57),none⟩,⟨some 59,.mov (.t 8),none⟩,⟨some 60,.iaddr none 5 (.t 58) (.t 59),none⟩,⟨some 61,.faddr (.t 60) 0,none⟩,⟨some 62,.load none (.t 61),none⟩,⟨some 63,.mklit 1 [.t 62],none⟩,⟨some 64,.append 1 16 (.t 56) (.t 63),none⟩,⟨some 7,.mov (.t 64),none⟩])
 (.seq (.seq (.reg [⟨some 65,.mov (.t 9),none⟩,⟨some 66,.eql (.one .i) false (.t 65) (.c (.int .i64 0)),none⟩])
 (.cond (.t 66) (.dreg [⟨⟨some 67,.load (some 4) (.t 1),none⟩,0,0⟩,⟨⟨some 68,.faddr (.t 1) 2,none⟩,0,0⟩,⟨⟨some 69,.load none (.t 68),none⟩,0,0⟩,⟨⟨some 70,.mov (.t 8),none⟩,0,0⟩,⟨⟨some 71,.iaddr none 5 (.t 69) (.t 70),none⟩,0,0⟩,⟨⟨some 72,.load (some 5) (.t 71),none⟩,0,0⟩,⟨⟨some 73,.call (.c (.func 76 [] [])) [.t 67,.t 72],none⟩,0,1⟩,⟨⟨some 9,.mov (.t 73),none⟩,1,1⟩])
 .skip))
 (.seq (.reg [⟨some 74,.mov (.t 9),none⟩,⟨some 75,.eql (.one .i) true (.t 74) (.c (.int .i64 0)),none⟩])
 (.cond (.t 75) (.seq (.reg [⟨some 76,.mov (.t 8),none⟩,⟨some 77,.mov (.t 9),none⟩,⟨some 2,.mov (.c (.int .i64 3)),none⟩,⟨some 3,.mov (.t 76),none⟩,⟨some 4,.mov (.t 77),none⟩])
 (.jump .ret))
 .skip))))))
 (.reg [⟨some 46,.mov (.t 8),none⟩,⟨some 47,.bin .add (.t 46) (.c (.int .i64 1)),none⟩,⟨some 8,.mov (.t 47),none⟩]))
def V7:ACode:=.seq (.seq (.reg [⟨some 82,.mov (.t 10),none⟩,⟨some 83,.faddr (.t 1) 3,none⟩,⟨some 84,.load none (.t 83),none⟩,⟨some 85,.len 1 (.t 84),none⟩,⟨some 86,.bin .lss (.t 82) (.t 85),none⟩])
 (.cond (.t 86) .skip
 (.jump (.exit 4))))
 (.seq (.block 5 (.seq (.seq (.dreg [⟨⟨some 89,.faddr (.t 1) 3,none⟩,0,0⟩,⟨⟨some 90,.load none (.t 89),none⟩,0,0⟩,⟨⟨some 91,.mov (.t 10),none⟩,0,0⟩,⟨⟨some 92,.iaddr none 2 (.t 90) (.t 91),none⟩,0,0⟩,⟨⟨some 93,.faddr (.t 92) 0,none⟩,0,0⟩,⟨⟨some 94,.load none (.t 93),none⟩,0,0⟩,⟨⟨some 95,.faddr (.t 1) 2,none⟩,0,0⟩,⟨⟨some 96,.load none (.t 95),none⟩,0,0⟩,⟨⟨some 97,.len 1 (.t 96),none⟩,0,0⟩,⟨⟨some 98,.bin .sub (.t 97) (.c (.int .i64 1)),none⟩,0,0⟩,⟨⟨some 99,.call (.c (.func 62 [] [])) [(.t 94),(.c (.int .i64 0)),(.t 98)],none⟩,0,1⟩,⟨⟨some 100,.not (.t 99),none⟩,1,1⟩])
 (.cond (.t 100) (.seq (.reg [⟨some 101,.mov (.t 10),none⟩,⟨some 2,.mov (.c (.int .i64 4)),none⟩,⟨some 3,.mov (.t 101),none⟩,⟨some 4,.mov (.c (.int .i64 4)),none⟩])
 (.jump .ret))
 .skip))
 (.seq (.reg [⟨some 102,.faddr (.t 1) 3,none⟩,⟨some 103,.load none (.t 102),none⟩,⟨some 104,.mov (.t 10),none⟩,⟨some 105,.iaddr none 2 (.t 103) (.t 104),none⟩,⟨some 106,.faddr (.t 105) 1,none⟩,⟨some 107,.load none (.t 106),none⟩,⟨some 108,.call (.c (.func 62 [] [])) [(.t 107),(.c (.int .i64 (-1))),(.c (.int .i64 400))],none⟩,⟨some 109,.not (.t 108),none⟩])
 (.cond (.t 109) (.seq (.reg [⟨some 110,.mov (.t 10),none⟩,⟨some 2,.mov (.c (.int .i64 4)),none⟩,⟨some 3,.mov (.t 110),none⟩,⟨some 4,.mov (.c (.int .i64 7)),none⟩])
 (.jump .ret))
 .skip))))
 (.reg [⟨some 87,.mov (.t 10),none⟩,⟨some 88,.bin .add (.t 87) (.c (.int .i64 1)),none⟩,⟨some 10,.mov (.t 88),none⟩]))
def a18:AFunc:=⟨111,[.tmp 2,.tmp 3,.tmp 4],
 .seq (.reg [⟨some 1,.box 4 (.t 0),none⟩,⟨some 2,.mov (.c (.int .i64 0)),none⟩,⟨some 3,.mov (.c (.int .i64 0)),none⟩,⟨some 4,.mov (.c (.int .i64 0)),none⟩])
 (.seq (.seq (.reg [⟨some 11,.faddr (.t 1) 0,none⟩,⟨some 12,.load none (.t 11),none⟩,⟨some 13,.call (.c (.func 62 [] [])) [(.t 12),(.c (.int .i64 2)),(.c (.int .i64 5))],none⟩,⟨some 14,.not (.t 13),none⟩])
 (.cond (.t 14) (.seq (.reg [⟨some 2,.mov (.c (.int .i64 1)),none⟩,⟨some 3,.mov (.c (.int .i64 0)),none⟩,⟨some 4,.mov (.c (.int .i64 7)),none⟩])
 (.jump .ret))
 .skip))
 (.seq (.seq (.reg [⟨some 15,.faddr (.t 1) 1,none⟩,⟨some 16,.load none (.t 15),none⟩,⟨some 17,.len 1 (.t 16),none⟩,⟨some 18,.bin .gtr (.t 17) (.c (.int .i64 5)),none⟩])
 (.cond (.t 18) (.seq (.reg [⟨some 2,.mov (.c (.int .i64 2)),none⟩,⟨some 3,.mov (.c (.int .i64 0)),none⟩,⟨some 4,.mov (.c (.int .i64 3)),none⟩])
 (.jump .ret))
 .skip))
 (.seq (.seq (.reg [⟨some 5,.mov (.c (.int .i64 0)),none⟩])
 (.block 0 (.loop VO)))
 (.seq (.seq (.reg [⟨some 37,.faddr (.t 1) 2,none⟩,⟨some 38,.load none (.t 37),none⟩,⟨some 39,.len 1 (.t 38),none⟩,⟨some 40,.bin .gtr (.t 39) (.c (.int .i64 3)),none⟩])
 (.cond (.t 40) (.seq (.reg [⟨some 2,.mov (.c (.int .i64 3)),none⟩,⟨some 3,.mov (.c (.int .i64 0)),none⟩,⟨some 4,.mov (.c (.int .i64 3)),none⟩])
 (.jump .ret))
 .skip))
 (.seq (.reg [⟨some 7,.mov (.c (.lit [] true none)),none⟩])
 (.seq (.seq (.reg [⟨some 8,.mov (.c (.int .i64 0)),none⟩])
 (.block 2 (.loop UW)))
 (.seq (.seq (.reg [⟨some 78,.faddr (.t 1) 3,none⟩,⟨some 79,.load none (.t 78),none⟩,⟨some 80,.len 1 (.t 79),none⟩,⟨some 81,.bin .gtr (.t 80) (.c (.int .i64 3)),none⟩])
 (.cond (.t 81) (.seq (.reg [⟨some 2,.mov (.c (.int .i64 4)),none⟩,⟨some 3,.mov (.c (.int .i64 0)),none⟩,⟨some 4,.mov (.c (.int .i64 3)),none⟩])
 (.jump .ret))
 .skip))
 (.seq (.seq (.reg [⟨some 10,.mov (.c (.int .i64 0)),none⟩])
 (.block 4 (.loop V7)))
 (.seq (.reg [⟨some 2,.mov (.c (.int .i64 0)),none⟩,⟨some 3,.mov (.c (.int .i64 0)),none⟩,⟨some 4,.mov (.c (.int .i64 0)),none⟩])
 (.jump .ret))))))))))⟩
def a19:AFunc:=⟨29,[.tmp 4,.tmp 5],
 .seq (.reg [⟨some 2,.box 4 (.t 0),none⟩,⟨some 4,.mov (.c (.lit [] true none)),none⟩,⟨some 5,.mov (.c (.int .i64 0)),none⟩])
 (.seq (.reg [⟨some 10,.load (some 4) (.t 2),none⟩,⟨some 11,.call (.c (.func 17 [] [])) [.t 10],none⟩,⟨some 9,.mov (.t 11),none⟩,⟨some 12,.ext (.t 9) 0,none⟩,⟨some 13,.ext (.t 9) 1,none⟩,⟨some 14,.ext (.t 9) 2,none⟩,⟨some 6,.mov (.t 12),none⟩,⟨some 7,.mov (.t 13),none⟩,⟨some 8,.mov (.t 14),none⟩])
 (.seq (.block 0 (.seq (.reg [⟨some 16,.mov (.t 8),none⟩,⟨some 17,.eql (.one .i) true (.t 16) (.c (.int .i64 0)),none⟩,⟨some 15,.mov (.t 17),none⟩])
 (.cond (.t 15) (.seq (.reg [⟨some 18,.mov (.t 8),none⟩,⟨some 4,.mov (.c (.lit [] true none)),none⟩,⟨some 5,.mov (.t 18),none⟩])
 (.jump .ret))
 (.seq (.reg [⟨some 20,.faddr (.t 2) 0,none⟩,⟨some 21,.load none (.t 20),none⟩,⟨some 22,.bin .sub (.t 21) (.c (.int .i64 1)),none⟩,⟨some 23,.mov (.t 1),none⟩,⟨some 24,.mklit 1 [.t 23],none⟩,⟨some 25,.call (.c (.func 63 [] [])) [(.c (.int .i64 0)),(.t 22),(.t 24)],none⟩,⟨some 19,.mov (.t 25),none⟩])
 (.cond (.t 19) (.seq (.reg [⟨some 4,.mov (.c (.lit [] true none)),none⟩,⟨some 5,.mov (.c (.int .i64 4)),none⟩])
 (.jump .ret))
 .skip)))))
 (.seq (.reg [⟨some 26,.load (some 4) (.t 2),none⟩,⟨some 27,.mov (.t 1),none⟩,⟨some 28,.call (.c (.func 77 [] [])) [(.t 26),(.t 27),(.c (.int .i64 (-1)))],none⟩,⟨some 4,.mov (.t 28),none⟩,⟨some 5,.mov (.c (.int .i64 0)),none⟩])
 (.jump .ret))))⟩
def VP:ACode:=.seq (.seq (.reg [⟨some 12,.mov (.t 5),none⟩,⟨some 13,.mov (.t 12),none⟩,⟨some 14,.mov (.t 6),(some (13,true))⟩,⟨some 15,.mov (.t 0),(some (13,true))⟩,⟨some 16,.len 1 (.t 15),(some (13,true))⟩,⟨some 17,.bin .lss (.t 14) (.t 16),(some (13,true))⟩,⟨some 18,.pick (.t 13) (.t 17) (.c (.bool false)),none⟩])
 (.cond (.t 18) .skip
 (.jump (.exit 0))))
 (.seq (.block 1 (.dreg [⟨⟨some 21,.mov (.t 0),none⟩,0,0⟩,⟨⟨some 22,.mov (.t 6),none⟩,0,0⟩,⟨⟨some 23,.iaddr none 1 (.t 21) (.t 22),none⟩,0,0⟩,⟨⟨some 24,.load none (.t 23),none⟩,0,0⟩,⟨⟨some 25,.mov (.t 1),none⟩,0,0⟩,⟨⟨some 26,.mov (.t 6),none⟩,0,0⟩,⟨⟨some 27,.iaddr none 1 (.t 25) (.t 26),none⟩,0,0⟩,⟨⟨some 28,.load none (.t 27),none⟩,0,0⟩,⟨⟨some 29,.call (.c (.func 27 [] [])) [.t 24,.t 28],none⟩,0,1⟩,⟨⟨some 5,.mov (.t 29),none⟩,1,1⟩]))
 (.reg [⟨some 19,.mov (.t 6),none⟩,⟨some 20,.bin .add (.t 19) (.c (.int .i64 1)),none⟩,⟨some 6,.mov (.t 20),none⟩]))
def a21:AFunc:=⟨31,[.tmp 4],
 .seq (.reg [⟨some 4,.mov (.c (.bool false)),none⟩])
 (.seq (.reg [⟨some 7,.mov (.t 0),none⟩,⟨some 8,.len 1 (.t 7),none⟩,⟨some 9,.mov (.t 1),none⟩,⟨some 10,.len 1 (.t 9),none⟩,⟨some 11,.eql (.one .i) false (.t 8) (.t 10),none⟩,⟨some 5,.mov (.t 11),none⟩])
 (.seq (.seq (.reg [⟨some 6,.mov (.c (.int .i64 0)),none⟩])
 (.block 0 (.loop VP)))
 (.seq (.reg [⟨some 30,.mov (.t 5),none⟩,⟨some 4,.mov (.t 30),none⟩])
 (.jump .ret))))⟩
def a22:AFunc:=⟨231,[.tmp 0],
 .seq (.reg [⟨some 0,.mov (.c (.bool false)),none⟩])
 (.seq (.reg [⟨some 36,.call (.c (.func 38 [] [])) [(.c (.bool false)),(.c (.lit [] true none))],none⟩,⟨some 37,.call (.c (.func 38 [] [])) [(.c (.bool true)),(.c (.lit [] true none))],none⟩,⟨some 1,.alloc [.int .i64 0,.lit [] true none,.lit [] true none,.lit [] true none],none⟩,⟨some 2,.alloc [.int .i64 0,.lit [] true none,.lit [] true none,.lit [] true none],none⟩,⟨none,.store 4 (.t 1) (.t 36),none⟩,⟨none,.store 4 (.t 2) (.t 37),none⟩])
 (.seq (.reg [⟨some 38,.call (.c (.func 39 [] [])) [(.c (.int .i64 0)),(.c (.int .i64 (-1)))],none⟩,⟨some 39,.call (.c (.func 39 [] [])) [(.c (.int .i64 1)),(.c (.int .i64 15))],none⟩,⟨some 40,.mklit 2 [.t 38,.t 39],none⟩,⟨some 41,.call (.c (.func 38 [] [])) [(.c (.bool true)),(.t 40)],none⟩,⟨some 42,.call (.c (.func 39 [] [])) [(.c (.int .i64 0)),(.c (.int .i64 (-1)))],none⟩,⟨some 43,.mklit 2 [.t 42],none⟩,⟨some 44,.call (.c (.func 38 [] [])) [(.c (.bool true)),(.t 43)],none⟩,⟨some 3,.alloc [.int .i64 0,.lit [] true none,.lit [] true none,.lit [] true none],none⟩,⟨some 4,.alloc [.int .i64 0,.lit [] true none,.lit [] true none,.lit [] true none],none⟩,⟨none,.store 4 (.t 3) (.t 41),none⟩,⟨none,.store 4 (.t 4) (.t 44),none⟩])
 (.seq (.reg [⟨some 46,.load (some 4) (.t 1),none⟩,⟨some 47,.call (.c (.func 19 [] [])) [(.t 46),(.c (.int .i64 3))],none⟩,⟨some 45,.mov (.t 47),none⟩,⟨some 48,.ext (.t 45) 0,none⟩,⟨some 49,.ext (.t 45) 1,none⟩,⟨some 5,.mov (.t 48),none⟩,⟨some 6,.mov (.t 49),none⟩])
 (.seq (.reg [⟨some 51,.load (some 4) (.t 1),none⟩,⟨some 52,.call (.c (.func 23 [] [])) [(.t 51),(.c (.int .i64 1))],none⟩,⟨some 50,.mov (.t 52),none⟩,⟨some 53,.ext (.t 50) 0,none⟩,⟨some 54,.ext (.t 50) 1,none⟩,⟨some 55,.ext (.t 50) 2,none⟩,⟨some 7,.alloc [.int .i64 0,.int .i64 0],none⟩,⟨none,.store 2 (.t 7) (.t 53),none⟩,⟨some 8,.mov (.t 54),none⟩,⟨some 9,.mov (.t 55),none⟩])
 (.seq (.reg [⟨some 57,.load (some 4) (.t 2),none⟩,⟨some 58,.call (.c (.func 23 [] [])) [(.t 57),(.c (.int .i64 1))],none⟩,⟨some 56,.mov (.t 58),none⟩,⟨some 59,.ext (.t 56) 0,none⟩,⟨some 60,.ext (.t 56) 1,none⟩,⟨some 61,.ext (.t 56) 2,none⟩,⟨some 10,.alloc [.int .i64 0,.int .i64 0],none⟩,⟨none,.store 2 (.t 10) (.t 59),none⟩,⟨some 11,.mov (.t 60),none⟩,⟨some 12,.mov (.t 61),none⟩])
 (.seq (.reg [⟨some 63,.load (some 4) (.t 4),none⟩,⟨some 64,.call (.c (.func 23 [] [])) [(.t 63),(.c (.int .i64 0))],none⟩,⟨some 62,.mov (.t 64),none⟩,⟨some 65,.ext (.t 62) 0,none⟩,⟨some 66,.ext (.t 62) 1,none⟩,⟨some 67,.ext (.t 62) 2,none⟩,⟨some 13,.alloc [.int .i64 0,.int .i64 0],none⟩,⟨none,.store 2 (.t 13) (.t 65),none⟩,⟨some 14,.mov (.t 66),none⟩,⟨some 15,.mov (.t 67),none⟩])
 (.seq (.reg [⟨some 69,.load (some 4) (.t 2),none⟩,⟨some 70,.call (.c (.func 25 [] [])) [.t 69],none⟩,⟨some 68,.mov (.t 70),none⟩,⟨some 71,.ext (.t 68) 0,none⟩,⟨some 72,.ext (.t 68) 1,none⟩,⟨some 73,.ext (.t 68) 2,none⟩,⟨some 16,.mov (.t 71),none⟩,⟨some 17,.mov (.t 72),none⟩,⟨some 18,.mov (.t 73),none⟩])
 (.seq (.reg [⟨some 75,.load (some 4) (.t 2),none⟩,⟨some 76,.call (.c (.func 28 [] [])) [.t 75],none⟩,⟨some 74,.mov (.t 76),none⟩,⟨some 77,.ext (.t 74) 0,none⟩,⟨some 78,.ext (.t 74) 1,none⟩,⟨some 19,.mov (.t 77),none⟩,⟨some 20,.mov (.t 78),none⟩])
 (.seq (.reg [⟨some 80,.load (some 4) (.t 1),none⟩,⟨some 81,.call (.c (.func 28 [] [])) [.t 80],none⟩,⟨some 79,.mov (.t 81),none⟩,⟨some 82,.ext (.t 79) 0,none⟩,⟨some 83,.ext (.t 79) 1,none⟩,⟨some 21,.mov (.t 82),none⟩,⟨some 22,.mov (.t 83),none⟩])
 (.seq (.reg [⟨some 85,.load (some 4) (.t 2),none⟩,⟨some 86,.call (.c (.func 30 [] [])) [.t 85],none⟩,⟨some 84,.mov (.t 86),none⟩,⟨some 87,.ext (.t 84) 0,none⟩,⟨some 88,.ext (.t 84) 1,none⟩,⟨some 89,.ext (.t 84) 2,none⟩,⟨some 23,.mov (.t 87),none⟩,⟨some 24,.mov (.t 88),none⟩,⟨some 25,.mov (.t 89),none⟩])
 (.seq (.reg [⟨some 91,.load (some 4) (.t 1),none⟩,⟨some 92,.call (.c (.func 32 [] [])) [.t 91],none⟩,⟨some 90,.mov (.t 92),none⟩,⟨some 93,.ext (.t 90) 0,none⟩,⟨some 94,.ext (.t 90) 1,none⟩,⟨some 95,.ext (.t 90) 2,none⟩,⟨some 26,.mov (.t 93),none⟩,⟨some 27,.mov (.t 94),none⟩,⟨some 28,.mov (.t 95),none⟩])
 (.seq (.reg [⟨some 97,.load (some 4) (.t 1),none⟩,⟨some 98,.call (.c (.func 34 [] [])) [.t 97],none⟩,⟨some 96,.mov (.t 98),none⟩,⟨some 99,.ext (.t 96) 0,none⟩,⟨some 100,.ext (.t 96) 1,none⟩,⟨some 101,.ext (.t 96) 2,none⟩,⟨some 29,.mov (.t 99),none⟩,⟨some 30,.mov (.t 100),none⟩,⟨some 31,.mov (.t 101),none⟩])
 (.seq (.reg [⟨some 103,.load (some 4) (.t 3),none⟩,⟨some 104,.call (.c (.func 36 [] [])) [.t 103],none⟩,⟨some 102,.mov (.t 104),none⟩,⟨some 105,.ext (.t 102) 0,none⟩,⟨some 106,.ext (.t 102) 1,none⟩,⟨some 32,.mov (.t 105),none⟩,⟨some 33,.mov (.t 106),none⟩])
 (.seq (.reg [⟨some 108,.load (some 4) (.t 3),none⟩,⟨some 109,.call (.c (.func 28 [] [])) [.t 108],none⟩,⟨some 107,.mov (.t 109),none⟩,⟨some 110,.ext (.t 107) 0,none⟩,⟨some 111,.ext (.t 107) 1,none⟩,⟨some 34,.mov (.t 110),none⟩,⟨some 35,.mov (.t 111),none⟩])
 (.seq (.dreg [⟨⟨some 112,.mov (.t 6),none⟩,0,0⟩,⟨⟨some 113,.eql (.one .i) false (.t 112) (.c (.int .i64 0)),none⟩,0,0⟩,⟨⟨some 114,.mov (.t 113),none⟩,0,0⟩,⟨⟨some 115,.mov (.t 9),(some (114,true))⟩,0,0⟩,⟨⟨some 116,.eql (.one .i) false (.t 115) (.c (.int .i64 0)),(some (114,true))⟩,0,0⟩,⟨⟨some 117,.pick (.t 114) (.t 116) (.c (.bool false)),none⟩,0,0⟩,⟨⟨some 118,.mov (.t 117),none⟩,0,0⟩,⟨⟨some 119,.mov (.t 12),(some (118,true))⟩,0,0⟩,⟨⟨some 120,.eql (.one .i) false (.t 119) (.c (.int .i64 0)),(some (118,true))⟩,0,0⟩,⟨⟨some 121,.pick (.t 118) (.t 120) (.c (.bool false)),none⟩,0,0⟩,⟨⟨some 122,.mov (.t 121),none⟩,0,0⟩,⟨⟨some 123,.mov (.t 15),(some (122,true))⟩,0,0⟩,⟨⟨some 124,.eql (.one .i) false (.t 123) (.c (.int .i64 0)),(some (122,true))⟩,0,0⟩,⟨⟨some 125,.pick (.t 122) (.t 124) (.c (.bool false)),none⟩,0,0⟩,⟨⟨some 126,.mov (.t 125),none⟩,0,0⟩,⟨⟨some 127,.mov (.t 18),(some (126,true))⟩,0,0⟩,⟨⟨some 128,.eql (.one .i) false (.t 127) (.c (.int .i64 0)),(some (126,true))⟩,0,0⟩,⟨⟨some 129,.pick (.t 126) (.t 128) (.c (.bool false)),none⟩,0,0⟩,⟨⟨some 130,.mov (.t 129),none⟩,0,0⟩,⟨⟨some 131,.mov (.t 20),(some (130,true))⟩,0,0⟩,⟨⟨some 132,.eql (.one .i) false (.t 131) (.c (.int .i64 0)),(some (130,true))⟩,0,0⟩,⟨⟨some 133,.pick (.t 130) (.t 132) (.c (.bool false)),none⟩,0,0⟩,⟨⟨some 134,.mov (.t 133),none⟩,0,0⟩,⟨⟨some 135,.mov (.t 22),(some (134,true))⟩,0,0⟩,⟨⟨some 136,.eql (.one .i) false (.t 135) (.c (.int .i64 9)),(some (134,true))⟩,0,0⟩,⟨⟨some 137,.pick (.t 134) (.t 136) (.c (.bool false)),none⟩,0,0⟩,⟨⟨some 138,.mov (.t 137),none⟩,0,0⟩,⟨⟨some 139,.mov (.t 25),(some (138,true))⟩,0,0⟩,⟨⟨some 140,.eql (.one .i) false (.t 139) (.c (.int .i64 0)),(some (138,true))⟩,0,0⟩,⟨⟨some 141,.pick (.t 138) (.t 140) (.c (.bool false)),none⟩,0,0⟩,⟨⟨some 142,.mov (.t 141),none⟩,0,0⟩,⟨⟨some 143,.mov (.t 28),(some (142,true))⟩,0,0⟩,⟨⟨some 144,.eql (.one .i) false (.t 143) (.c (.int .i64 0)),(some (142,true))⟩,0,0⟩,⟨⟨some 145,.pick (.t 142) (.t 144) (.c (.bool false)),none⟩,0,0⟩,⟨⟨some 146,.mov (.t 145),none⟩,0,0⟩,⟨⟨some 147,.mov (.t 31),(some (146,true))⟩,0,0⟩,⟨⟨some 148,.eql (.one .i) false (.t 147) (.c (.int .i64 0)),(some (146,true))⟩,0,0⟩,⟨⟨some 149,.pick (.t 146) (.t 148) (.c (.bool false)),none⟩,0,0⟩,⟨⟨some 150,.mov (.t 149),none⟩,0,0⟩,⟨⟨some 151,.mov (.t 33),(some (150,true))⟩,0,0⟩,⟨⟨some 152,.eql (.one .i) false (.t 151) (.c (.int .i64 0)),(some (150,true))⟩,0,0⟩,⟨⟨some 153,.pick (.t 150) (.t 152) (.c (.bool false)),none⟩,0,0⟩,⟨⟨some 154,.mov (.t 153),none⟩,0,0⟩,⟨⟨some 155,.mov (.t 35),(some (154,true))⟩,0,0⟩,⟨⟨some 156,.eql (.one .i) false (.t 155) (.c (.int .i64 8)),(some (154,true))⟩,0,0⟩,⟨⟨some 157,.pick (.t 154) (.t 156) (.c (.bool false)),none⟩,0,0⟩,⟨⟨some 158,.mov (.t 157),none⟩,0,0⟩,⟨⟨some 159,.mov (.t 5),(some (158,true))⟩,0,0⟩,⟨⟨some 160,.mklit 1 [(.c (.int .i64 3)),(.c (.int .i64 2))],(some (158,true))⟩,0,0⟩,⟨⟨some 161,.mklit 1 [(.c (.int .i64 3)),(.c (.int .i64 1)),(.c (.int .i64 0))],(some (158,true))⟩,0,0⟩,⟨⟨some 162,.mklit 1 [.t 160,.t 161],(some (158,true))⟩,0,0⟩,⟨⟨some 163,.call (.c (.func 21 [] [])) [.t 159,.t 162],(some (158,true))⟩,0,1⟩,⟨⟨some 164,.pick (.t 158) (.t 163) (.c (.bool false)),none⟩,1,1⟩,⟨⟨some 165,.mov (.t 164),none⟩,1,1⟩,⟨⟨some 166,.load (some 2) (.t 7),(some (165,true))⟩,1,2⟩,⟨⟨some 167,.call (.c (.func 40 [] [])) [(.c (.int .i64 14)),(.c (.int .i64 16))],(some (165,true))⟩,1,2⟩,⟨⟨some 168,.eql (.agg [.i,.i]) false (.t 166) (.t 167),(some (165,true))⟩,2,2⟩,⟨⟨some 169,.pick (.t 165) (.t 168) (.c (.bool false)),none⟩,2,2⟩,⟨⟨some 170,.mov (.t 169),none⟩,2,2⟩,⟨⟨some 171,.mov (.t 8),(some (170,true))⟩,2,2⟩,⟨⟨some 172,.eql (.one .i) false (.t 171) (.c (.int .i64 1)),(some (170,true))⟩,2,2⟩,⟨⟨some 173,.pick (.t 170) (.t 172) (.c (.bool false)),none⟩,2,2⟩,⟨⟨some 174,.mov (.t 173),none⟩,2,2⟩,⟨⟨some 175,.mov (.t 11),(some (174,true))⟩,2,2⟩,⟨⟨some 176,.eql (.one .i) false (.t 175) (.c (.int .i64 0)),(some (174,true))⟩,2,2⟩,⟨⟨some 177,.pick (.t 174) (.t 176) (.c (.bool false)),none⟩,2,2⟩,⟨⟨some 178,.mov (.t 177),none⟩,2,2⟩,⟨⟨some 179,.mov (.t 14),(some (178,true))⟩,2,2⟩,⟨⟨some 180,.eql (.one .i) false (.t 179) (.c (.int .i64 2)),(some (178,true))⟩,2,2⟩,⟨⟨some 181,.pick (.t 178) (.t 180) (.c (.bool false)),none⟩,2,2⟩,⟨⟨some 182,.mov (.t 181),none⟩,2,2⟩,⟨⟨some 183,.mov (.t 16),(some (182,true))⟩,2,2⟩,⟨⟨some 184,.len 1 (.t 183),(some (182,true))⟩,2,2⟩,⟨⟨some 185,.eql (.one .i) false (.t 184) (.c (.int .i64 0)),(some (182,true))⟩,2,2⟩,⟨⟨some 186,.pick (.t 182) (.t 185) (.c (.bool false)),none⟩,2,2⟩,⟨⟨some 187,.mov (.t 186),none⟩,2,2⟩,⟨⟨some 188,.mov (.t 17),(some (187,true))⟩,2,2⟩,⟨⟨some 189,.mklit 1 [(.c (.int .i64 0)),(.c (.int .i64 1))],(some (187,true))⟩,2,2⟩,⟨⟨some 190,.call (.c (.func 27 [] [])) [.t 188,.t 189],(some (187,true))⟩,2,3⟩,⟨⟨some 191,.pick (.t 187) (.t 190) (.c (.bool false)),none⟩,3,3⟩,⟨⟨some 192,.mov (.t 191),none⟩,3,3⟩,⟨⟨some 193,.mov (.t 19),(some (192,true))⟩,3,3⟩,⟨⟨some 194,.eql (.one .i) false (.t 193) (.c (.int .i64 0)),(some (192,true))⟩,3,3⟩,⟨⟨some 195,.pick (.t 192) (.t 194) (.c (.bool false)),none⟩,3,3⟩,⟨⟨some 196,.mov (.t 195),none⟩,3,3⟩,⟨⟨some 197,.mov (.t 23),(some (196,true))⟩,3,3⟩,⟨⟨some 198,.mklit 1 [(.c (.int .i64 2))],(some (196,true))⟩,3,3⟩,⟨⟨some 199,.mklit 1 [(.c (.int .i64 3)),(.c (.int .i64 2))],(some (196,true))⟩,3,3⟩,⟨⟨some 200,.mklit 1 [.t 198,.t 199],(some (196,true))⟩,3,3⟩,⟨⟨some 201,.call (.c (.func 21 [] [])) [.t 197,.t 200],(some (196,true))⟩,3,4⟩,⟨⟨some 202,.pick (.t 196) (.t 201) (.c (.bool false)),none⟩,4,4⟩,⟨⟨some 203,.mov (.t 202),none⟩,4,4⟩,⟨⟨some 204,.mov (.t 24),(some (203,true))⟩,4,4⟩,⟨⟨some 205,.mklit 1 [(.c (.int .i64 0)),(.c (.int .i64 1))],(some (203,true))⟩,4,4⟩,⟨⟨some 206,.call (.c (.func 27 [] [])) [.t 204,.t 205],(some (203,true))⟩,4,5⟩,⟨⟨some 207,.pick (.t 203) (.t 206) (.c (.bool false)),none⟩,5,5⟩,⟨⟨some 208,.mov (.t 207),none⟩,5,5⟩,⟨⟨some 209,.mov (.t 26),(some (208,true))⟩,5,5⟩,⟨⟨some 210,.len 1 (.t 209),(some (208,true))⟩,5,5⟩,⟨⟨some 211,.eql (.one .i) false (.t 210) (.c (.int .i64 0)),(some (208,true))⟩,5,5⟩,⟨⟨some 212,.pick (.t 208) (.t 211) (.c (.bool false)),none⟩,5,5⟩,⟨⟨some 213,.mov (.t 212),none⟩,5,5⟩,⟨⟨some 214,.mov (.t 27),(some (213,true))⟩,5,5⟩,⟨⟨some 215,.mklit 1 [(.c (.int .i64 2))],(some (213,true))⟩,5,5⟩,⟨⟨some 216,.call (.c (.func 27 [] [])) [.t 214,.t 215],(some (213,true))⟩,5,6⟩,⟨⟨some 217,.pick (.t 213) (.t 216) (.c (.bool false)),none⟩,6,6⟩,⟨⟨some 218,.mov (.t 217),none⟩,6,6⟩,⟨⟨some 219,.mov (.t 29),(some (218,true))⟩,6,6⟩,⟨⟨some 220,.eql (.one .i) false (.t 219) (.c (.int .i64 3)),(some (218,true))⟩,6,6⟩,⟨⟨some 221,.pick (.t 218) (.t 220) (.c (.bool false)),none⟩,6,6⟩,⟨⟨some 222,.mov (.t 221),none⟩,6,6⟩,⟨⟨some 223,.mov (.t 30),(some (222,true))⟩,6,6⟩,⟨⟨some 224,.eql (.one .i) false (.t 223) (.c (.int .i64 1)),(some (222,true))⟩,6,6⟩,⟨⟨some 225,.pick (.t 222) (.t 224) (.c (.bool false)),none⟩,6,6⟩,⟨⟨some 226,.mov (.t 225),none⟩,6,6⟩,⟨⟨some 227,.mov (.t 32),(some (226,true))⟩,6,6⟩,⟨⟨some 228,.mklit 1 [(.c (.int .i64 1))],(some (226,true))⟩,6,6⟩,⟨⟨some 229,.call (.c (.func 27 [] [])) [.t 227,.t 228],(some (226,true))⟩,6,7⟩,⟨⟨some 230,.pick (.t 226) (.t 229) (.c (.bool false)),none⟩,7,7⟩,⟨⟨some 0,.mov (.t 230),none⟩,7,7⟩])
 (.jump .ret))))))))))))))))⟩
def JI:ACode:=.block 1 (.seq (.reg [⟨some 31,.load none (.t 3),none⟩,⟨some 32,.iaddr (some 3) 1 (.t 11) (.t 31),none⟩,⟨some 33,.load none (.t 32),none⟩,⟨some 12,.mov (.t 33),none⟩])
 (.block 2 (.seq (.reg [⟨some 44,.mov (.t 12),none⟩,⟨some 45,.eql (.one .i) false (.t 44) (.c (.int .i64 (-1))),none⟩,⟨some 43,.mov (.t 45),none⟩])
 (.cond (.t 43) (.reg [⟨none,.store 1 (.t 9) (.c (.bool true)),none⟩])
 (.seq (.reg [⟨some 47,.load none (.t 8),none⟩,⟨some 48,.not (.t 47),none⟩,⟨some 46,.mov (.t 48),none⟩])
 (.cond (.t 46) (.reg [⟨some 49,.mov (.t 12),none⟩,⟨some 50,.mov (.t 12),none⟩,⟨some 51,.build [.int .i64 0,.int .i64 0] [(0,1,(.t 49)),(1,1,(.t 50))],none⟩,⟨none,.store 2 (.t 4) (.t 51),none⟩,⟨none,.store 1 (.t 8) (.c (.bool true)),none⟩])
 (.reg [⟨some 34,.faddr (.t 4) 0,none⟩,⟨some 35,.load none (.t 34),none⟩,⟨some 36,.mov (.t 12),none⟩,⟨some 37,.min [.t 35,.t 36],none⟩,⟨some 38,.faddr (.t 4) 1,none⟩,⟨some 39,.load none (.t 38),none⟩,⟨some 40,.mov (.t 12),none⟩,⟨some 41,.max [.t 39,.t 40],none⟩,⟨some 42,.build [.int .i64 0,.int .i64 0] [(0,1,(.t 37)),(1,1,(.t 41))],none⟩,⟨none,.store 2 (.t 4) (.t 42),none⟩])))))))
def a23:AFunc:=⟨61,[.cell 4 (some 2),.tmp 5,.tmp 6],
 .seq (.reg [⟨some 2,.box 4 (.t 0),none⟩,⟨some 3,.box 1 (.t 1),none⟩,⟨some 4,.alloc [.int .i64 0,.int .i64 0],none⟩,⟨some 5,.mov (.c (.int .i64 0)),none⟩,⟨some 6,.mov (.c (.int .i64 0)),none⟩])
 (.seq (.reg [⟨some 14,.load (some 4) (.t 2),none⟩,⟨some 15,.load none (.t 3),none⟩,⟨some 16,.faddr (.t 2) 2,none⟩,⟨some 17,.load none (.t 16),none⟩,⟨some 18,.len 1 (.t 17),none⟩,⟨some 19,.mklit 1 [.t 15,.t 18],none⟩,⟨some 20,.call (.c (.func 79 [] [])) [.t 14,.t 19],none⟩,⟨some 13,.mov (.t 20),none⟩,⟨some 21,.ext (.t 13) 0,none⟩,⟨some 22,.ext (.t 13) 1,none⟩,⟨some 7,.mov (.t 21),none⟩,⟨some 6,.mov (.t 22),none⟩])
 (.seq (.seq (.reg [⟨some 23,.mov (.t 6),none⟩,⟨some 24,.eql (.one .i) true (.t 23) (.c (.int .i64 0)),none⟩])
 (.cond (.t 24) (.seq (.reg [⟨some 25,.load (some 2) (.t 4),none⟩,⟨some 26,.mov (.t 6),none⟩,⟨none,.store 2 (.t 4) (.t 25),none⟩,⟨some 5,.mov (.c (.int .i64 0)),none⟩,⟨some 6,.mov (.t 26),none⟩])
 (.jump .ret))
 .skip))
 (.seq (.reg [⟨some 8,.alloc [.bool false],none⟩,⟨some 9,.alloc [.bool false],none⟩,⟨none,.store 1 (.t 8) (.c (.bool false)),none⟩,⟨none,.store 1 (.t 9) (.c (.bool false)),none⟩])
 (.seq (.seq (.reg [⟨some 27,.mov (.t 7),none⟩,⟨some 28,.call (.c (.func 80 [] [])) [.t 27],none⟩])
 (.block 0 (.rangeFunc (.t 28) [29,30] (.reg [⟨some 11,.alloc [.int .i64 0,.int .i64 0,.int .i64 0],none⟩,⟨none,.store 3 (.t 11) (.t 30),none⟩])
 (JI))))
 (.seq (.block 3 (.seq (.reg [⟨some 53,.load none (.t 9),none⟩,⟨some 54,.not (.t 53),none⟩,⟨some 52,.mov (.t 54),none⟩])
 (.cond (.t 52) (.seq (.reg [⟨some 55,.load (some 2) (.t 4),none⟩,⟨none,.store 2 (.t 4) (.t 55),none⟩,⟨some 5,.mov (.c (.int .i64 1)),none⟩,⟨some 6,.mov (.c (.int .i64 0)),none⟩])
 (.jump .ret))
 (.seq (.reg [⟨some 57,.load none (.t 8),none⟩,⟨some 58,.not (.t 57),none⟩,⟨some 56,.mov (.t 58),none⟩])
 (.cond (.t 56) (.seq (.reg [⟨some 59,.load (some 2) (.t 4),none⟩,⟨none,.store 2 (.t 4) (.t 59),none⟩,⟨some 5,.mov (.c (.int .i64 2)),none⟩,⟨some 6,.mov (.c (.int .i64 0)),none⟩])
 (.jump .ret))
 .skip)))))
 (.seq (.reg [⟨some 60,.load (some 2) (.t 4),none⟩,⟨none,.store 2 (.t 4) (.t 60),none⟩,⟨some 5,.mov (.c (.int .i64 0)),none⟩,⟨some 6,.mov (.c (.int .i64 0)),none⟩])
 (.jump .ret)))))))⟩
def a25:AFunc:=⟨31,[.tmp 2,.tmp 3,.tmp 4],
 .seq (.reg [⟨some 1,.box 4 (.t 0),none⟩,⟨some 2,.mov (.c (.lit [] true none)),none⟩,⟨some 3,.mov (.c (.lit [] true none)),none⟩,⟨some 4,.mov (.c (.int .i64 0)),none⟩])
 (.seq (.reg [⟨some 9,.load (some 4) (.t 1),none⟩,⟨some 10,.call (.c (.func 79 [] [])) [(.t 9),(.c (.lit [] true none))],none⟩,⟨some 8,.mov (.t 10),none⟩,⟨some 11,.ext (.t 8) 0,none⟩,⟨some 12,.ext (.t 8) 1,none⟩,⟨some 5,.mov (.t 11),none⟩,⟨some 4,.mov (.t 12),none⟩])
 (.seq (.seq (.reg [⟨some 13,.mov (.t 4),none⟩,⟨some 14,.eql (.one .i) true (.t 13) (.c (.int .i64 0)),none⟩])
 (.cond (.t 14) (.seq (.reg [⟨some 15,.mov (.t 4),none⟩,⟨some 2,.mov (.c (.lit [] true none)),none⟩,⟨some 3,.mov (.c (.lit [] true none)),none⟩,⟨some 4,.mov (.t 15),none⟩])
 (.jump .ret))
 .skip))
 (.seq (.reg [⟨some 17,.mov (.t 5),none⟩,⟨some 18,.call (.c (.func 84 [] [])) [.t 17],none⟩,⟨some 16,.mov (.t 18),none⟩,⟨some 19,.ext (.t 16) 0,none⟩,⟨some 20,.ext (.t 16) 1,none⟩,⟨some 6,.mov (.t 19),none⟩,⟨some 7,.mov (.t 20),none⟩])
 (.seq (.dreg [⟨⟨some 21,.mov (.t 6),none⟩,0,0⟩,⟨⟨some 22,.faddr (.t 1) 2,none⟩,0,0⟩,⟨⟨some 23,.load none (.t 22),none⟩,0,0⟩,⟨⟨some 24,.len 1 (.t 23),none⟩,0,0⟩,⟨⟨some 25,.call (.c (.func 85 [] [])) [.t 21,.t 24],none⟩,0,1⟩,⟨⟨some 26,.mov (.t 7),none⟩,0,1⟩,⟨⟨some 27,.faddr (.t 1) 2,none⟩,0,1⟩,⟨⟨some 28,.load none (.t 27),none⟩,0,1⟩,⟨⟨some 29,.len 1 (.t 28),none⟩,0,1⟩,⟨⟨some 30,.call (.c (.func 85 [] [])) [.t 26,.t 29],none⟩,1,2⟩,⟨⟨some 2,.mov (.t 25),none⟩,2,2⟩,⟨⟨some 3,.mov (.t 30),none⟩,2,2⟩,⟨⟨some 4,.mov (.c (.int .i64 0)),none⟩,2,2⟩])
 (.jump .ret)))))⟩
def a27:AFunc:=⟨22,[.tmp 4],
 .seq (.reg [⟨some 4,.mov (.c (.bool false)),none⟩])
 (.seq (.reg [⟨some 5,.mov (.t 0),none⟩,⟨some 6,.len 1 (.t 5),none⟩,⟨some 7,.mov (.t 1),none⟩,⟨some 8,.len 1 (.t 7),none⟩,⟨some 9,.eql (.one .i) false (.t 6) (.t 8),none⟩,⟨some 10,.mov (.t 9),none⟩,⟨some 11,.mov (.t 0),(some (10,true))⟩,⟨some 12,.mov (.t 1),(some (10,true))⟩,⟨some 13,.call (.c (.func 56 [] [])) [.t 11,.t 12],(some (10,true))⟩,⟨some 14,.not (.t 13),(some (10,true))⟩,⟨some 15,.pick (.t 10) (.t 14) (.c (.bool false)),none⟩,⟨some 16,.mov (.t 15),none⟩,⟨some 17,.mov (.t 1),(some (16,true))⟩,⟨some 18,.mov (.t 0),(some (16,true))⟩,⟨some 19,.call (.c (.func 56 [] [])) [.t 17,.t 18],(some (16,true))⟩,⟨some 20,.not (.t 19),(some (16,true))⟩,⟨some 21,.pick (.t 16) (.t 20) (.c (.bool false)),none⟩,⟨some 4,.mov (.t 21),none⟩])
 (.jump .ret))⟩
def WA:ACode:=.seq (.reg [⟨some 31,.bin .lss (.t 30) (.t 29),none⟩])
 (.seq (.cond (.t 31) .skip
 (.jump (.exit 0)))
 (.seq (.block 1 (.seq (.reg [⟨some 32,.iaddr none 1 (.t 28) (.t 30),none⟩,⟨some 33,.load none (.t 32),none⟩,⟨some 10,.mov (.t 33),none⟩])
 (.seq (.dreg [⟨⟨some 34,.mov (.t 8),none⟩,0,0⟩,⟨⟨some 35,.bin .lss (.t 34) (.c (.int .i64 0)),none⟩,0,0⟩,⟨⟨some 36,.mov (.t 35),none⟩,0,0⟩,⟨⟨some 37,.faddr (.t 1) 2,(some (36,false))⟩,0,0⟩,⟨⟨some 38,.load none (.t 37),(some (36,false))⟩,0,0⟩,⟨⟨some 39,.mov (.t 10),(some (36,false))⟩,0,0⟩,⟨⟨some 40,.iaddr none 5 (.t 38) (.t 39),(some (36,false))⟩,0,0⟩,⟨⟨some 41,.faddr (.t 40) 3,(some (36,false))⟩,0,0⟩,⟨⟨some 42,.load none (.t 41),(some (36,false))⟩,0,0⟩,⟨⟨some 43,.faddr (.t 1) 2,(some (36,false))⟩,0,0⟩,⟨⟨some 44,.load none (.t 43),(some (36,false))⟩,0,0⟩,⟨⟨some 45,.mov (.t 8),(some (36,false))⟩,0,0⟩,⟨⟨some 46,.iaddr none 5 (.t 44) (.t 45),(some (36,false))⟩,0,0⟩,⟨⟨some 47,.faddr (.t 46) 3,(some (36,false))⟩,0,0⟩,⟨⟨some 48,.load none (.t 47),(some (36,false))⟩,0,0⟩,⟨⟨some 49,.bin .lss (.t 42) (.t 48),(some (36,false))⟩,0,0⟩,⟨⟨some 50,.pick (.t 36) (.c (.bool true)) (.t 49),none⟩,0,0⟩])
 (.cond (.t 50) (.reg [⟨some 51,.mov (.t 10),none⟩,⟨some 8,.mov (.t 51),none⟩])
 .skip))))
 (.reg [⟨some 52,.bin .add (.t 30) (.c (.int .i64 1)),none⟩,⟨some 30,.mov (.t 52),none⟩])))
def a28:AFunc:=⟨56,[.tmp 2,.tmp 3],
 .seq (.reg [⟨some 1,.box 4 (.t 0),none⟩,⟨some 2,.mov (.c (.int .i64 0)),none⟩,⟨some 3,.mov (.c (.int .i64 0)),none⟩])
 (.seq (.reg [⟨some 12,.load (some 4) (.t 1),none⟩,⟨some 13,.call (.c (.func 79 [] [])) [(.t 12),(.c (.lit [] true none))],none⟩,⟨some 11,.mov (.t 13),none⟩,⟨some 14,.ext (.t 11) 0,none⟩,⟨some 15,.ext (.t 11) 1,none⟩,⟨some 4,.mov (.t 14),none⟩,⟨some 5,.mov (.t 15),none⟩])
 (.seq (.seq (.reg [⟨some 16,.mov (.t 5),none⟩,⟨some 17,.eql (.one .i) true (.t 16) (.c (.int .i64 0)),none⟩])
 (.cond (.t 17) (.seq (.reg [⟨some 18,.mov (.t 5),none⟩,⟨some 2,.mov (.c (.int .i64 0)),none⟩,⟨some 3,.mov (.t 18),none⟩])
 (.jump .ret))
 .skip))
 (.seq (.reg [⟨some 20,.mov (.t 4),none⟩,⟨some 21,.call (.c (.func 84 [] [])) [.t 20],none⟩,⟨some 19,.mov (.t 21),none⟩,⟨some 22,.ext (.t 19) 0,none⟩,⟨some 23,.ext (.t 19) 1,none⟩,⟨some 6,.mov (.t 22),none⟩,⟨some 7,.mov (.t 23),none⟩])
 (.seq (.reg [⟨some 8,.mov (.c (.int .i64 (-1))),none⟩])
 (.seq (.seq (.reg [⟨some 24,.mov (.t 7),none⟩,⟨some 25,.faddr (.t 1) 2,none⟩,⟨some 26,.load none (.t 25),none⟩,⟨some 27,.len 1 (.t 26),none⟩,⟨some 28,.call (.c (.func 85 [] [])) [.t 24,.t 27],none⟩,⟨some 29,.len 1 (.t 28),none⟩,⟨some 30,.mov (.c (.int .i64 0)),none⟩])
 (.block 0 (.loop WA)))
 (.seq (.seq (.reg [⟨some 53,.mov (.t 8),none⟩,⟨some 54,.bin .lss (.t 53) (.c (.int .i64 0)),none⟩])
 (.cond (.t 54) (.seq (.reg [⟨some 2,.mov (.c (.int .i64 0)),none⟩,⟨some 3,.mov (.c (.int .i64 9)),none⟩])
 (.jump .ret))
 .skip))
 (.seq (.reg [⟨some 55,.mov (.t 8),none⟩,⟨some 2,.mov (.t 55),none⟩,⟨some 3,.mov (.c (.int .i64 0)),none⟩])
 (.jump .ret))))))))⟩
def WC:ACode:=.seq (.reg [⟨some 30,.bin .lss (.t 29) (.t 28),none⟩])
 (.seq (.cond (.t 30) .skip
 (.jump (.exit 0)))
 (.seq (.block 1 (.seq (.reg [⟨some 31,.mov (.t 29),none⟩,⟨some 32,.iaddr none 5 (.t 27) (.t 29),none⟩,⟨some 33,.load (some 5) (.t 32),none⟩,⟨some 8,.alloc [.str ⟨#[]⟩,.int .i64 0,.int .i64 0,.int .i64 0,.lit [] true none],none⟩,⟨some 7,.mov (.t 31),none⟩,⟨none,.store 5 (.t 8) (.t 33),none⟩])
 (.dreg [⟨⟨some 34,.load none (.t 6),none⟩,0,1⟩,⟨⟨some 35,.mov (.t 7),none⟩,0,1⟩,⟨⟨some 36,.load (some 4) (.t 1),none⟩,0,0⟩,⟨⟨some 37,.faddr (.t 8) 1,none⟩,0,0⟩,⟨⟨some 38,.load none (.t 37),none⟩,0,0⟩,⟨⟨some 39,.call (.c (.func 77 [] [])) [(.t 36),(.t 38),(.c (.int .i64 (-1)))],none⟩,0,1⟩,⟨⟨some 40,.iaddr none 1 (.t 34) (.t 35),none⟩,1,1⟩,⟨⟨none,.store 1 (.t 40) (.t 39),none⟩,1,2⟩])))
 (.reg [⟨some 41,.bin .add (.t 29) (.c (.int .i64 1)),none⟩,⟨some 29,.mov (.t 41),none⟩])))
def U3:ACode:=.seq (.reg [⟨some 60,.bin .lss (.t 59) (.t 58),none⟩])
 (.seq (.cond (.t 60) .skip
 (.jump (.exit 4)))
 (.seq (.block 5 (.seq (.reg [⟨some 61,.mov (.t 59),none⟩,⟨some 62,.iaddr none 1 (.t 57) (.t 59),none⟩,⟨some 63,.load none (.t 62),none⟩,⟨some 12,.mov (.t 61),none⟩,⟨some 13,.mov (.t 63),none⟩])
 (.seq (.reg [⟨some 64,.mov (.t 13),none⟩,⟨some 65,.faddr (.t 1) 2,none⟩,⟨some 66,.load none (.t 65),none⟩,⟨some 67,.mov (.t 12),none⟩,⟨some 68,.iaddr none 5 (.t 66) (.t 67),none⟩,⟨some 69,.faddr (.t 68) 4,none⟩,⟨some 70,.load none (.t 69),none⟩,⟨some 71,.call (.c (.func 88 [] [])) [.t 64,.t 70],none⟩,⟨some 72,.not (.t 71),none⟩])
 (.cond (.t 72) (.reg [⟨some 73,.mov (.t 3),none⟩,⟨some 74,.mov (.t 12),none⟩,⟨some 75,.mklit 1 [.t 74],none⟩,⟨some 76,.append 1 8 (.t 73) (.t 75),none⟩,⟨some 3,.mov (.t 76),none⟩])
 .skip))))
 (.reg [⟨some 77,.bin .add (.t 59) (.c (.int .i64 1)),none⟩,⟨some 59,.mov (.t 77),none⟩])))
def M7:ACode:=.seq (.reg [⟨some 51,.bin .lss (.t 50) (.t 49),none⟩])
 (.seq (.cond (.t 51) .skip
 (.jump (.exit 2)))
 (.seq (.block 3 (.seq (.reg [⟨some 52,.mov (.t 50),none⟩,⟨some 11,.mov (.t 52),none⟩])
 (.seq (.seq (.reg [⟨some 53,.load none (.t 10),none⟩,⟨some 54,.mov (.t 11),none⟩,⟨some 55,.call (.t 53) [(.c (.int .i64 0)),(.t 54)],none⟩,⟨some 56,.not (.t 55),none⟩])
 (.cond (.t 56) (.jump (.exit 3))
 .skip))
 (.seq (.seq (.reg [⟨some 57,.load none (.t 9),none⟩,⟨some 58,.len 1 (.t 57),none⟩,⟨some 59,.mov (.c (.int .i64 0)),none⟩])
 (.block 4 (.loop U3)))
 (.seq (.reg [⟨some 78,.load none (.t 9),none⟩,⟨some 79,.mov (.t 3),none⟩,⟨some 2,.mov (.t 78),none⟩,⟨some 3,.mov (.t 79),none⟩,⟨some 4,.mov (.c (.int .i64 0)),none⟩])
 (.jump .ret))))))
 (.reg [⟨some 80,.bin .add (.t 50) (.c (.int .i64 1)),none⟩,⟨some 50,.mov (.t 80),none⟩])))
def a30:AFunc:=⟨81,[.tmp 2,.tmp 3,.tmp 4],
 .seq (.reg [⟨some 1,.box 4 (.t 0),none⟩,⟨some 2,.mov (.c (.lit [] true none)),none⟩,⟨some 3,.mov (.c (.lit [] true none)),none⟩,⟨some 4,.mov (.c (.int .i64 0)),none⟩])
 (.seq (.reg [⟨some 15,.load (some 4) (.t 1),none⟩,⟨some 16,.call (.c (.func 79 [] [])) [(.t 15),(.c (.lit [] true none))],none⟩,⟨some 14,.mov (.t 16),none⟩,⟨some 17,.ext (.t 14) 0,none⟩,⟨some 18,.ext (.t 14) 1,none⟩,⟨some 5,.alloc [.nilPtr],none⟩,⟨none,.store 1 (.t 5) (.t 17),none⟩,⟨some 4,.mov (.t 18),none⟩])
 (.seq (.seq (.reg [⟨some 19,.mov (.t 4),none⟩,⟨some 20,.eql (.one .i) true (.t 19) (.c (.int .i64 0)),none⟩])
 (.cond (.t 20) (.seq (.reg [⟨some 21,.mov (.t 4),none⟩,⟨some 2,.mov (.c (.lit [] true none)),none⟩,⟨some 3,.mov (.c (.lit [] true none)),none⟩,⟨some 4,.mov (.t 21),none⟩])
 (.jump .ret))
 .skip))
 (.seq (.reg [⟨some 22,.faddr (.t 1) 2,none⟩,⟨some 23,.load none (.t 22),none⟩,⟨some 24,.len 1 (.t 23),none⟩,⟨some 25,.mkslice [.lit [] true none] 24 (.t 24) (.t 24),none⟩,⟨some 6,.alloc [.lit [] true none],none⟩,⟨none,.store 1 (.t 6) (.t 25),none⟩])
 (.seq (.seq (.reg [⟨some 26,.faddr (.t 1) 2,none⟩,⟨some 27,.load none (.t 26),none⟩,⟨some 28,.len 1 (.t 27),none⟩,⟨some 29,.mov (.c (.int .i64 0)),none⟩])
 (.block 0 (.loop WC)))
 (.seq (.reg [⟨some 42,.faddr (.t 1) 2,none⟩,⟨some 43,.load none (.t 42),none⟩,⟨some 44,.len 1 (.t 43),none⟩,⟨some 45,.mkslice [.lit [] true none] 24 (.t 44) (.t 44),none⟩,⟨some 9,.alloc [.lit [] true none],none⟩,⟨none,.store 1 (.t 9) (.t 45),none⟩])
 (.seq (.reg [⟨some 10,.alloc [.nilFunc],none⟩])
 (.seq (.reg [⟨some 46,.mkfun 86 [] [.t 9,.t 5,.t 6,.t 1,.t 10],none⟩,⟨none,.store 1 (.t 10) (.t 46),none⟩])
 (.seq (.seq (.reg [⟨some 47,.load none (.t 9),none⟩,⟨some 48,.len 1 (.t 47),none⟩,⟨some 49,.bin .add (.t 48) (.c (.int .i64 1)),none⟩,⟨some 50,.mov (.c (.int .i64 0)),none⟩])
 (.block 2 (.loop M7)))
 (.seq (.reg [⟨some 2,.mov (.c (.lit [] true none)),none⟩,⟨some 3,.mov (.c (.lit [] true none)),none⟩,⟨some 4,.mov (.c (.int .i64 9)),none⟩])
 (.jump .ret))))))))))⟩
def VS:ACode:=.seq (.reg [⟨some 31,.bin .lss (.t 30) (.t 29),none⟩])
 (.seq (.cond (.t 31) .skip
 (.jump (.exit 2)))
 (.seq (.block 3 (.seq (.reg [⟨some 32,.mov (.t 30),none⟩,⟨some 9,.mov (.t 32),none⟩])
 (.seq (.reg [⟨some 33,.mov (.t 9),none⟩,⟨some 34,.iaddr (some 5) 1 (.t 8) (.t 33),none⟩,⟨some 35,.load none (.t 34),none⟩,⟨some 36,.eql (.one .i) false (.t 35) (.c (.int .i64 0)),none⟩])
 (.cond (.t 36) (.dreg [⟨⟨some 37,.load none (.t 7),none⟩,0,0⟩,⟨⟨some 38,.mov (.t 9),none⟩,0,0⟩,⟨⟨some 39,.bin .shl (.c (.int .i64 1)) (.t 38),none⟩,0,0⟩,⟨⟨some 40,.bin .or (.t 37) (.t 39),none⟩,0,0⟩,⟨⟨none,.store 1 (.t 7) (.t 40),none⟩,0,1⟩])
 (.dreg [⟨⟨some 41,.load none (.t 6),none⟩,0,0⟩,⟨⟨some 42,.mov (.t 9),none⟩,0,0⟩,⟨⟨some 43,.bin .shl (.c (.int .i64 1)) (.t 42),none⟩,0,0⟩,⟨⟨some 44,.bin .andNot (.t 41) (.t 43),none⟩,0,0⟩,⟨⟨none,.store 1 (.t 6) (.t 44),none⟩,0,1⟩])))))
 (.reg [⟨some 45,.bin .add (.t 30) (.c (.int .i64 1)),none⟩,⟨some 30,.mov (.t 45),none⟩])))
def P8:ACode:=.block 1 (.seq (.reg [⟨some 27,.faddr (.t 1) 1,none⟩,⟨some 28,.load none (.t 27),none⟩,⟨some 29,.len 1 (.t 28),none⟩,⟨some 30,.mov (.c (.int .i64 0)),none⟩])
 (.block 2 (.loop VS)))
def a32:AFunc:=⟨56,[.tmp 2,.tmp 3,.tmp 4],
 .seq (.reg [⟨some 1,.box 4 (.t 0),none⟩,⟨some 2,.mov (.c (.lit [] true none)),none⟩,⟨some 3,.mov (.c (.lit [] true none)),none⟩,⟨some 4,.mov (.c (.int .i64 0)),none⟩])
 (.seq (.reg [⟨some 11,.load (some 4) (.t 1),none⟩,⟨some 12,.call (.c (.func 79 [] [])) [(.t 11),(.c (.lit [] true none))],none⟩,⟨some 10,.mov (.t 12),none⟩,⟨some 13,.ext (.t 10) 0,none⟩,⟨some 14,.ext (.t 10) 1,none⟩,⟨some 5,.mov (.t 13),none⟩,⟨some 4,.mov (.t 14),none⟩])
 (.seq (.seq (.reg [⟨some 15,.mov (.t 4),none⟩,⟨some 16,.eql (.one .i) true (.t 15) (.c (.int .i64 0)),none⟩])
 (.cond (.t 16) (.seq (.reg [⟨some 17,.mov (.t 4),none⟩,⟨some 2,.mov (.c (.lit [] true none)),none⟩,⟨some 3,.mov (.c (.lit [] true none)),none⟩,⟨some 4,.mov (.t 17),none⟩])
 (.jump .ret))
 .skip))
 (.seq (.reg [⟨some 18,.faddr (.t 1) 1,none⟩,⟨some 19,.load none (.t 18),none⟩,⟨some 20,.len 1 (.t 19),none⟩,⟨some 21,.bin .shl (.c (.int .i64 1)) (.t 20),none⟩,⟨some 22,.bin .sub (.t 21) (.c (.int .i64 1)),none⟩,⟨some 6,.alloc [.int .i64 0],none⟩,⟨some 7,.alloc [.int .i64 0],none⟩,⟨none,.store 1 (.t 6) (.t 22),none⟩,⟨none,.store 1 (.t 7) (.c (.int .i64 0)),none⟩])
 (.seq (.seq (.reg [⟨some 23,.mov (.t 5),none⟩,⟨some 24,.call (.c (.func 80 [] [])) [.t 23],none⟩])
 (.block 0 (.rangeFunc (.t 24) [25,26] (.reg [⟨some 8,.alloc [.int .i64 0,.int .i64 0,.int .i64 0,.int .i64 0,.int .i64 0],none⟩,⟨none,.store 5 (.t 8) (.t 25),none⟩])
 (P8))))
 (.seq (.dreg [⟨⟨some 46,.load none (.t 6),none⟩,0,0⟩,⟨⟨some 47,.faddr (.t 1) 1,none⟩,0,0⟩,⟨⟨some 48,.load none (.t 47),none⟩,0,0⟩,⟨⟨some 49,.len 1 (.t 48),none⟩,0,0⟩,⟨⟨some 50,.call (.c (.func 85 [] [])) [.t 46,.t 49],none⟩,0,1⟩,⟨⟨some 51,.load none (.t 7),none⟩,0,1⟩,⟨⟨some 52,.faddr (.t 1) 1,none⟩,0,1⟩,⟨⟨some 53,.load none (.t 52),none⟩,0,1⟩,⟨⟨some 54,.len 1 (.t 53),none⟩,0,1⟩,⟨⟨some 55,.call (.c (.func 85 [] [])) [.t 51,.t 54],none⟩,1,2⟩,⟨⟨some 2,.mov (.t 50),none⟩,2,2⟩,⟨⟨some 3,.mov (.t 55),none⟩,2,2⟩,⟨⟨some 4,.mov (.c (.int .i64 0)),none⟩,2,2⟩])
 (.jump .ret))))))⟩
def UZ:ACode:=.seq (.reg [⟨some 34,.bin .lss (.t 33) (.t 32),none⟩])
 (.seq (.cond (.t 34) .skip
 (.jump (.exit 2)))
 (.seq (.block 3 (.seq (.reg [⟨some 35,.iaddr none 5 (.t 31) (.t 33),none⟩,⟨some 36,.load (some 5) (.t 35),none⟩,⟨some 9,.alloc [.str ⟨#[]⟩,.int .i64 0,.int .i64 0,.int .i64 0,.lit [] true none],none⟩,⟨none,.store 5 (.t 9) (.t 36),none⟩])
 (.seq (.reg [⟨some 37,.load (some 4) (.t 1),none⟩,⟨some 38,.faddr (.t 9) 1,none⟩,⟨some 39,.load none (.t 38),none⟩,⟨some 40,.mov (.t 5),none⟩,⟨some 41,.call (.c (.func 77 [] [])) [.t 37,.t 39,.t 40],none⟩,⟨some 42,.len 1 (.t 41),none⟩,⟨some 43,.eql (.one .i) false (.t 42) (.c (.int .i64 0)),none⟩])
 (.cond (.t 43) (.reg [⟨some 44,.mov (.t 7),none⟩,⟨some 45,.bin .add (.t 44) (.c (.int .i64 1)),none⟩,⟨some 7,.mov (.t 45),none⟩])
 .skip))))
 (.reg [⟨some 46,.bin .add (.t 33) (.c (.int .i64 1)),none⟩,⟨some 33,.mov (.t 46),none⟩])))
def V2:ACode:=.seq (.reg [⟨some 23,.bin .lss (.t 22) (.t 21),none⟩])
 (.seq (.cond (.t 23) .skip
 (.jump (.exit 0)))
 (.seq (.block 1 (.seq (.reg [⟨some 24,.mov (.t 22),none⟩,⟨some 25,.iaddr none 5 (.t 20) (.t 22),none⟩,⟨some 26,.load (some 5) (.t 25),none⟩,⟨some 6,.alloc [.int .i64 0,.int .i64 0,.int .i64 0,.int .i64 0,.int .i64 0],none⟩,⟨some 5,.mov (.t 24),none⟩,⟨none,.store 5 (.t 6) (.t 26),none⟩])
 (.seq (.seq (.reg [⟨some 27,.faddr (.t 6) 4,none⟩,⟨some 28,.load none (.t 27),none⟩,⟨some 29,.eql (.one .i) false (.t 28) (.c (.int .i64 1)),none⟩])
 (.cond (.t 29) (.jump (.exit 1))
 .skip))
 (.seq (.reg [⟨some 7,.mov (.c (.int .i64 0)),none⟩])
 (.seq (.seq (.reg [⟨some 30,.faddr (.t 1) 2,none⟩,⟨some 31,.load none (.t 30),none⟩,⟨some 32,.len 1 (.t 31),none⟩,⟨some 33,.mov (.c (.int .i64 0)),none⟩])
 (.block 2 (.loop UZ)))
 (.seq (.reg [⟨some 47,.mov (.t 2),none⟩,⟨some 48,.bin .lss (.t 47) (.c (.int .i64 0)),none⟩,⟨some 49,.mov (.t 48),none⟩,⟨some 50,.mov (.t 7),(some (49,false))⟩,⟨some 51,.mov (.t 3),(some (49,false))⟩,⟨some 52,.bin .gtr (.t 50) (.t 51),(some (49,false))⟩,⟨some 53,.pick (.t 49) (.c (.bool true)) (.t 52),none⟩])
 (.cond (.t 53) (.reg [⟨some 54,.mov (.t 5),none⟩,⟨some 55,.mov (.t 7),none⟩,⟨some 2,.mov (.t 54),none⟩,⟨some 3,.mov (.t 55),none⟩])
 .skip)))))))
 (.reg [⟨some 56,.bin .add (.t 22) (.c (.int .i64 1)),none⟩,⟨some 22,.mov (.t 56),none⟩])))
def a34:AFunc:=⟨61,[.tmp 2,.tmp 3,.tmp 4],
 .seq (.reg [⟨some 1,.box 4 (.t 0),none⟩,⟨some 2,.mov (.c (.int .i64 0)),none⟩,⟨some 3,.mov (.c (.int .i64 0)),none⟩,⟨some 4,.mov (.c (.int .i64 0)),none⟩])
 (.seq (.seq (.reg [⟨some 11,.load (some 4) (.t 1),none⟩,⟨some 12,.call (.c (.func 17 [] [])) [.t 11],none⟩,⟨some 10,.mov (.t 12),none⟩,⟨some 13,.ext (.t 10) 0,none⟩,⟨some 14,.ext (.t 10) 1,none⟩,⟨some 15,.ext (.t 10) 2,none⟩,⟨some 4,.mov (.t 15),none⟩])
 (.seq (.reg [⟨some 16,.mov (.t 4),none⟩,⟨some 17,.eql (.one .i) true (.t 16) (.c (.int .i64 0)),none⟩])
 (.cond (.t 17) (.seq (.reg [⟨some 18,.mov (.t 4),none⟩,⟨some 2,.mov (.c (.int .i64 0)),none⟩,⟨some 3,.mov (.c (.int .i64 0)),none⟩,⟨some 4,.mov (.t 18),none⟩])
 (.jump .ret))
 .skip)))
 (.seq (.reg [⟨some 2,.mov (.c (.int .i64 (-1))),none⟩])
 (.seq (.seq (.reg [⟨some 19,.faddr (.t 1) 1,none⟩,⟨some 20,.load none (.t 19),none⟩,⟨some 21,.len 1 (.t 20),none⟩,⟨some 22,.mov (.c (.int .i64 0)),none⟩])
 (.block 0 (.loop V2)))
 (.seq (.seq (.reg [⟨some 57,.mov (.t 2),none⟩,⟨some 58,.bin .lss (.t 57) (.c (.int .i64 0)),none⟩])
 (.cond (.t 58) (.seq (.reg [⟨some 2,.mov (.c (.int .i64 0)),none⟩,⟨some 3,.mov (.c (.int .i64 0)),none⟩,⟨some 4,.mov (.c (.int .i64 9)),none⟩])
 (.jump .ret))
 .skip))
 (.seq (.reg [⟨some 59,.mov (.t 2),none⟩,⟨some 60,.mov (.t 3),none⟩,⟨some 2,.mov (.t 59),none⟩,⟨some 3,.mov (.t 60),none⟩,⟨some 4,.mov (.c (.int .i64 0)),none⟩])
 (.jump .ret))))))⟩
def U4:ACode:=.seq (.reg [⟨some 21,.bin .lss (.t 20) (.t 19),none⟩])
 (.seq (.cond (.t 21) .skip
 (.jump (.exit 0)))
 (.seq (.block 1 (.seq (.reg [⟨some 22,.mov (.t 20),none⟩,⟨some 5,.mov (.t 22),none⟩])
 (.seq (.reg [⟨some 23,.mov (.t 5),none⟩,⟨some 24,.faddr (.t 1) 3,none⟩,⟨some 25,.load none (.t 24),none⟩,⟨some 26,.len 1 (.t 25),none⟩,⟨some 27,.call (.c (.func 85 [] [])) [.t 23,.t 26],none⟩,⟨some 6,.mov (.t 27),none⟩])
 (.seq (.seq (.reg [⟨some 28,.mov (.t 4),none⟩,⟨some 29,.mov (.t 28),none⟩,⟨some 30,.mov (.t 6),(some (29,true))⟩,⟨some 31,.len 1 (.t 30),(some (29,true))⟩,⟨some 32,.mov (.t 2),(some (29,true))⟩,⟨some 33,.len 1 (.t 32),(some (29,true))⟩,⟨some 34,.bin .gtr (.t 31) (.t 33),(some (29,true))⟩,⟨some 35,.mov (.t 34),(some (29,true))⟩,⟨some 36,.mov (.t 6),(some (35,false))⟩,⟨some 37,.len 1 (.t 36),(some (35,false))⟩,⟨some 38,.mov (.t 2),(some (35,false))⟩,⟨some 39,.len 1 (.t 38),(some (35,false))⟩,⟨some 40,.eql (.one .i) false (.t 37) (.t 39),(some (35,false))⟩,⟨some 41,.mov (.t 40),(some (35,false))⟩,⟨some 42,.mov (.t 6),(some (41,true))⟩,⟨some 43,.mov (.t 2),(some (41,true))⟩,⟨some 44,.call (.c (.func 91 [] [])) [.t 42,.t 43],(some (41,true))⟩,⟨some 45,.bin .gtr (.t 44) (.c (.int .i64 0)),(some (41,true))⟩,⟨some 46,.pick (.t 41) (.t 45) (.c (.bool false)),(some (35,false))⟩,⟨some 47,.pick (.t 35) (.c (.bool true)) (.t 46),(some (29,true))⟩,⟨some 48,.pick (.t 29) (.t 47) (.c (.bool false)),none⟩])
 (.cond (.t 48) (.jump (.exit 1))
 .skip))
 (.seq (.reg [⟨some 49,.load (some 4) (.t 1),none⟩,⟨some 50,.mov (.t 5),none⟩,⟨some 51,.call (.c (.func 92 [] [])) [.t 49,.t 50],none⟩,⟨some 52,.call (.c (.func 93 [] [])) [.t 51],none⟩])
 (.cond (.t 52) (.reg [⟨some 53,.mov (.t 6),none⟩,⟨some 2,.mov (.t 53),none⟩,⟨some 4,.mov (.c (.bool true)),none⟩])
 .skip))))))
 (.reg [⟨some 54,.bin .add (.t 20) (.c (.int .i64 1)),none⟩,⟨some 20,.mov (.t 54),none⟩])))
def a36:AFunc:=⟨56,[.tmp 2,.tmp 3],
 .seq (.reg [⟨some 1,.box 4 (.t 0),none⟩,⟨some 2,.mov (.c (.lit [] true none)),none⟩,⟨some 3,.mov (.c (.int .i64 0)),none⟩])
 (.seq (.seq (.reg [⟨some 8,.load (some 4) (.t 1),none⟩,⟨some 9,.call (.c (.func 17 [] [])) [.t 8],none⟩,⟨some 7,.mov (.t 9),none⟩,⟨some 10,.ext (.t 7) 0,none⟩,⟨some 11,.ext (.t 7) 1,none⟩,⟨some 12,.ext (.t 7) 2,none⟩,⟨some 3,.mov (.t 12),none⟩])
 (.seq (.reg [⟨some 13,.mov (.t 3),none⟩,⟨some 14,.eql (.one .i) true (.t 13) (.c (.int .i64 0)),none⟩])
 (.cond (.t 14) (.seq (.reg [⟨some 15,.mov (.t 3),none⟩,⟨some 2,.mov (.c (.lit [] true none)),none⟩,⟨some 3,.mov (.t 15),none⟩])
 (.jump .ret))
 .skip)))
 (.seq (.reg [⟨some 4,.mov (.c (.bool false)),none⟩])
 (.seq (.seq (.reg [⟨some 16,.faddr (.t 1) 3,none⟩,⟨some 17,.load none (.t 16),none⟩,⟨some 18,.len 1 (.t 17),none⟩,⟨some 19,.bin .shl (.c (.int .i64 1)) (.t 18),none⟩,⟨some 20,.mov (.c (.int .i64 0)),none⟩])
 (.block 0 (.loop U4)))
 (.seq (.reg [⟨some 55,.mov (.t 2),none⟩,⟨some 2,.mov (.t 55),none⟩,⟨some 3,.mov (.c (.int .i64 0)),none⟩])
 (.jump .ret)))))⟩
def a38:AFunc:=⟨32,[.cell 4 (some 4)],
 .seq (.reg [⟨some 4,.alloc [.int .i64 0,.lit [] true none,.lit [] true none,.lit [] true none],none⟩])
 (.seq (.reg [⟨some 6,.call (.c (.func 40 [] [])) [(.c (.int .i64 5)),(.c (.int .i64 6))],none⟩,⟨some 7,.build [.int .i64 0,.int .i64 0,.int .i64 0,.int .i64 0,.int .i64 0] [(0,1,(.c (.int .i64 1))),(1,1,(.c (.int .i64 0))),(2,2,(.t 6))],none⟩,⟨some 8,.call (.c (.func 40 [] [])) [(.c (.int .i64 4)),(.c (.int .i64 4))],none⟩,⟨some 9,.build [.int .i64 0,.int .i64 0,.int .i64 0,.int .i64 0,.int .i64 0] [(0,1,(.c (.int .i64 2))),(1,1,(.c (.int .i64 1))),(2,2,(.t 8))],none⟩,⟨some 10,.call (.c (.func 40 [] [])) [(.c (.int .i64 12)),(.c (.int .i64 12))],none⟩,⟨some 11,.build [.int .i64 0,.int .i64 0,.int .i64 0,.int .i64 0,.int .i64 0] [(0,1,(.c (.int .i64 2))),(1,1,(.c (.int .i64 0))),(2,2,(.t 10)),(4,1,(.c (.int .i64 2)))],none⟩,⟨some 12,.call (.c (.func 40 [] [])) [(.c (.int .i64 3)),(.c (.int .i64 3))],none⟩,⟨some 13,.build [.int .i64 0,.int .i64 0,.int .i64 0,.int .i64 0,.int .i64 0] [(0,1,(.c (.int .i64 3))),(1,1,(.c (.int .i64 2))),(2,2,(.t 12))],none⟩,⟨some 14,.mkref 5 [.t 7,.t 9,.t 11,.t 13],none⟩,⟨some 15,.mkref 1 [(.c (.int .i64 1)),(.c (.int .i64 0))],none⟩,⟨some 16,.build [.str ⟨#[]⟩,.int .i64 0,.int .i64 0,.int .i64 0,.lit [] true none] [(0,1,(.c (.str ⟨#[114,101,100]⟩))),(1,1,(.c (.int .i64 2))),(3,1,(.c (.int .i64 12))),(4,1,(.t 15))],none⟩,⟨some 17,.mkref 1 [(.c (.int .i64 3)),(.c (.int .i64 1)),(.c (.int .i64 0))],none⟩,⟨some 18,.build [.str ⟨#[]⟩,.int .i64 0,.int .i64 0,.int .i64 0,.lit [] true none] [(0,1,(.c (.str ⟨#[98,108,117,101]⟩))),(1,1,(.c (.int .i64 3))),(3,1,(.c (.int .i64 24))),(4,1,(.t 17))],none⟩,⟨some 19,.mkref 5 [.t 16,.t 18],none⟩,⟨some 20,.mov (.t 1),none⟩,⟨some 21,.build [.int .i64 0,.lit [] true none,.lit [] true none,.lit [] true none] [(0,1,(.c (.int .i64 4))),(1,1,(.t 14)),(2,1,(.t 19)),(3,1,(.t 20))],none⟩,⟨some 5,.alloc [.int .i64 0,.lit [] true none,.lit [] true none,.lit [] true none],none⟩,⟨none,.store 4 (.t 5) (.t 21),none⟩])
 (.seq (.seq (.reg [⟨some 22,.mov (.t 0),none⟩])
 (.cond (.t 22) (.dreg [⟨⟨some 23,.faddr (.t 5) 1,none⟩,0,0⟩,⟨⟨some 24,.load none (.t 23),none⟩,0,0⟩,⟨⟨some 25,.faddr (.t 5) 1,none⟩,0,1⟩,⟨⟨some 26,.load none (.t 25),none⟩,0,1⟩,⟨⟨some 27,.iaddr none 5 (.t 24) (.c (.int .i64 0)),none⟩,0,0⟩,⟨⟨some 28,.faddr (.t 27) 4,none⟩,0,0⟩,⟨⟨none,.store 1 (.t 28) (.c (.int .i64 2)),none⟩,0,1⟩,⟨⟨some 29,.iaddr none 5 (.t 26) (.c (.int .i64 2)),none⟩,1,1⟩,⟨⟨some 30,.faddr (.t 29) 4,none⟩,1,1⟩,⟨⟨none,.store 1 (.t 30) (.c (.int .i64 0)),none⟩,1,2⟩])
 .skip))
 (.seq (.reg [⟨some 31,.load (some 4) (.t 5),none⟩,⟨none,.store 4 (.t 4) (.t 31),none⟩])
 (.jump .ret))))⟩
def a39:AFunc:=⟨8,[.cell 4 (some 2)],
 .seq (.reg [⟨some 4,.alloc [.int .i64 0,.int .i64 0],none⟩])
 (.seq (.reg [⟨some 5,.mov (.t 0),none⟩,⟨some 6,.mov (.t 1),none⟩,⟨some 7,.build [.int .i64 0,.int .i64 0] [(0,1,(.t 5)),(1,1,(.t 6))],none⟩,⟨none,.store 2 (.t 4) (.t 7),none⟩])
 (.jump .ret))⟩
def a40:AFunc:=⟨8,[.cell 4 (some 2)],
 .seq (.reg [⟨some 4,.alloc [.int .i64 0,.int .i64 0],none⟩])
 (.seq (.reg [⟨some 5,.mov (.t 0),none⟩,⟨some 6,.mov (.t 1),none⟩,⟨some 7,.build [.int .i64 0,.int .i64 0] [(0,1,(.t 5)),(1,1,(.t 6))],none⟩,⟨none,.store 2 (.t 4) (.t 7),none⟩])
 (.jump .ret))⟩
def a41:AFunc:=⟨14,[.tmp 2],
 .seq (.reg [⟨some 1,.box 4 (.t 0),none⟩,⟨some 2,.mov (.c (.bool false)),none⟩])
 (.seq (.reg [⟨some 7,.load (some 4) (.t 1),none⟩,⟨some 8,.call (.c (.func 18 [] [])) [.t 7],none⟩,⟨some 6,.mov (.t 8),none⟩,⟨some 9,.ext (.t 6) 0,none⟩,⟨some 10,.ext (.t 6) 1,none⟩,⟨some 11,.ext (.t 6) 2,none⟩,⟨some 3,.mov (.t 9),none⟩,⟨some 4,.mov (.t 10),none⟩,⟨some 5,.mov (.t 11),none⟩])
 (.seq (.reg [⟨some 12,.mov (.t 5),none⟩,⟨some 13,.eql (.one .i) false (.t 12) (.c (.int .i64 0)),none⟩,⟨some 2,.mov (.t 13),none⟩])
 (.jump .ret)))⟩
def U2:ACode:=.seq (.seq (.reg [⟨some 7,.mov (.t 6),none⟩,⟨some 8,.mov (.t 0),none⟩,⟨some 9,.len 1 (.t 8),none⟩,⟨some 10,.bin .lss (.t 7) (.t 9),none⟩])
 (.cond (.t 10) .skip
 (.jump (.exit 0))))
 (.seq (.block 1 (.reg [⟨some 13,.mov (.t 5),none⟩,⟨some 14,.mov (.t 13),none⟩,⟨some 15,.mov (.t 0),(some (14,false))⟩,⟨some 16,.mov (.t 6),(some (14,false))⟩,⟨some 17,.iaddr none 1 (.t 15) (.t 16),(some (14,false))⟩,⟨some 18,.load none (.t 17),(some (14,false))⟩,⟨some 19,.mov (.t 1),(some (14,false))⟩,⟨some 20,.eql (.one .i) false (.t 18) (.t 19),(some (14,false))⟩,⟨some 21,.pick (.t 14) (.c (.bool true)) (.t 20),none⟩,⟨some 5,.mov (.t 21),none⟩]))
 (.reg [⟨some 11,.mov (.t 6),none⟩,⟨some 12,.bin .add (.t 11) (.c (.int .i64 1)),none⟩,⟨some 6,.mov (.t 12),none⟩]))
def a43:AFunc:=⟨23,[.tmp 4],
 .seq (.reg [⟨some 4,.mov (.c (.bool false)),none⟩])
 (.seq (.reg [⟨some 5,.mov (.c (.bool false)),none⟩])
 (.seq (.seq (.reg [⟨some 6,.mov (.c (.int .i64 0)),none⟩])
 (.block 0 (.loop U2)))
 (.seq (.reg [⟨some 22,.mov (.t 5),none⟩,⟨some 4,.mov (.t 22),none⟩])
 (.jump .ret))))⟩
def a52:AFunc:=⟨16,[.tmp 4],
 .seq (.reg [⟨some 4,.mov (.c (.int .i64 0)),none⟩])
 (.seq (.seq (.reg [⟨some 5,.mov (.t 0),none⟩,⟨some 6,.len 1 (.t 5),none⟩,⟨some 7,.eql (.one .i) false (.t 6) (.c (.int .i64 0)),none⟩])
 (.cond (.t 7) (.seq (.reg [⟨some 4,.mov (.c (.int .i64 0)),none⟩])
 (.jump .ret))
 .skip))
 (.seq (.reg [⟨some 8,.mov (.t 0),none⟩,⟨some 9,.mov (.t 1),none⟩,⟨some 10,.mov (.t 0),none⟩,⟨some 11,.len 1 (.t 10),none⟩,⟨some 12,.bin .rem (.t 9) (.t 11),none⟩,⟨some 13,.iaddr none 1 (.t 8) (.t 12),none⟩,⟨some 14,.load none (.t 13),none⟩,⟨some 15,.conv .i64 (.t 14),none⟩,⟨some 4,.mov (.t 15),none⟩])
 (.jump .ret)))⟩
def WF:ACode:=.seq (.seq (.dreg [⟨⟨some 6,.mov (.t 5),none⟩,0,0⟩,⟨⟨some 7,.mov (.t 0),none⟩,0,0⟩,⟨⟨some 8,.len 1 (.t 7),none⟩,0,0⟩,⟨⟨some 9,.bin .lss (.t 6) (.t 8),none⟩,0,0⟩,⟨⟨some 10,.mov (.t 9),none⟩,0,0⟩,⟨⟨some 11,.mov (.t 5),(some (10,true))⟩,0,0⟩,⟨⟨some 12,.mov (.t 1),(some (10,true))⟩,0,0⟩,⟨⟨some 13,.len 1 (.t 12),(some (10,true))⟩,0,0⟩,⟨⟨some 14,.bin .lss (.t 11) (.t 13),(some (10,true))⟩,0,0⟩,⟨⟨some 15,.pick (.t 10) (.t 14) (.c (.bool false)),none⟩,0,0⟩,⟨⟨some 16,.mov (.t 15),none⟩,0,0⟩,⟨⟨some 17,.mov (.t 0),(some (16,true))⟩,0,0⟩,⟨⟨some 18,.mov (.t 5),(some (16,true))⟩,0,0⟩,⟨⟨some 19,.iaddr none 1 (.t 17) (.t 18),(some (16,true))⟩,0,0⟩,⟨⟨some 20,.load none (.t 19),(some (16,true))⟩,0,0⟩,⟨⟨some 21,.mov (.t 1),(some (16,true))⟩,0,0⟩,⟨⟨some 22,.mov (.t 5),(some (16,true))⟩,0,0⟩,⟨⟨some 23,.iaddr none 1 (.t 21) (.t 22),(some (16,true))⟩,0,0⟩,⟨⟨some 24,.load none (.t 23),(some (16,true))⟩,0,0⟩,⟨⟨some 25,.eql (.one .i) false (.t 20) (.t 24),(some (16,true))⟩,0,0⟩,⟨⟨some 26,.pick (.t 16) (.t 25) (.c (.bool false)),none⟩,0,0⟩])
 (.cond (.t 26) .skip
 (.jump (.exit 0))))
 (.block 1 (.reg [⟨some 27,.mov (.t 5),none⟩,⟨some 28,.bin .add (.t 27) (.c (.int .i64 1)),none⟩,⟨some 5,.mov (.t 28),none⟩]))
def a56:AFunc:=⟨48,[.tmp 4],
 .seq (.reg [⟨some 4,.mov (.c (.bool false)),none⟩])
 (.seq (.reg [⟨some 5,.mov (.c (.int .i64 0)),none⟩])
 (.seq (.block 0 (.loop WF))
 (.seq (.seq (.reg [⟨some 29,.mov (.t 5),none⟩,⟨some 30,.mov (.t 1),none⟩,⟨some 31,.len 1 (.t 30),none⟩,⟨some 32,.eql (.one .i) false (.t 29) (.t 31),none⟩])
 (.cond (.t 32) (.seq (.reg [⟨some 4,.mov (.c (.bool false)),none⟩])
 (.jump .ret))
 .skip))
 (.seq (.dreg [⟨⟨some 33,.mov (.t 5),none⟩,0,0⟩,⟨⟨some 34,.mov (.t 0),none⟩,0,0⟩,⟨⟨some 35,.len 1 (.t 34),none⟩,0,0⟩,⟨⟨some 36,.eql (.one .i) false (.t 33) (.t 35),none⟩,0,0⟩,⟨⟨some 37,.mov (.t 36),none⟩,0,0⟩,⟨⟨some 38,.mov (.t 0),(some (37,false))⟩,0,0⟩,⟨⟨some 39,.mov (.t 5),(some (37,false))⟩,0,0⟩,⟨⟨some 40,.iaddr none 1 (.t 38) (.t 39),(some (37,false))⟩,0,0⟩,⟨⟨some 41,.load none (.t 40),(some (37,false))⟩,0,0⟩,⟨⟨some 42,.mov (.t 1),(some (37,false))⟩,0,0⟩,⟨⟨some 43,.mov (.t 5),(some (37,false))⟩,0,0⟩,⟨⟨some 44,.iaddr none 1 (.t 42) (.t 43),(some (37,false))⟩,0,0⟩,⟨⟨some 45,.load none (.t 44),(some (37,false))⟩,0,0⟩,⟨⟨some 46,.bin .lss (.t 41) (.t 45),(some (37,false))⟩,0,0⟩,⟨⟨some 47,.pick (.t 37) (.c (.bool true)) (.t 46),none⟩,0,0⟩,⟨⟨some 4,.mov (.t 47),none⟩,0,0⟩])
 (.jump .ret)))))⟩
def UX:ACode:=.seq (.seq (.reg [⟨some 19,.mov (.t 8),none⟩,⟨some 20,.mov (.t 2),none⟩,⟨some 21,.len 1 (.t 20),none⟩,⟨some 22,.bin .lss (.t 19) (.t 21),none⟩])
 (.cond (.t 22) .skip
 (.jump (.exit 0))))
 (.seq (.block 1 (.seq (.dreg [⟨⟨some 25,.faddr (.t 3) 1,none⟩,0,0⟩,⟨⟨some 26,.load none (.t 25),none⟩,0,0⟩,⟨⟨some 27,.mov (.t 2),none⟩,0,0⟩,⟨⟨some 28,.mov (.t 8),none⟩,0,0⟩,⟨⟨some 29,.iaddr none 1 (.t 27) (.t 28),none⟩,0,0⟩,⟨⟨some 30,.load none (.t 29),none⟩,0,0⟩,⟨⟨some 31,.iaddr none 5 (.t 26) (.t 30),none⟩,0,0⟩,⟨⟨some 32,.load (some 5) (.t 31),none⟩,0,0⟩,⟨⟨some 33,.mov (.t 1),none⟩,0,0⟩,⟨⟨some 34,.call (.c (.func 97 [] [])) [.t 32,.t 33],none⟩,0,1⟩,⟨⟨some 1,.mov (.t 34),none⟩,1,1⟩])
 (.seq (.seq (.reg [⟨some 35,.mov (.t 1),none⟩,⟨some 36,.bin .lss (.t 35) (.c (.int .i64 0)),none⟩,⟨some 37,.mov (.t 36),none⟩,⟨some 38,.mov (.t 7),(some (37,false))⟩,⟨some 39,.mov (.t 1),(some (37,false))⟩,⟨some 40,.call (.c (.func 43 [] [])) [.t 38,.t 39],(some (37,false))⟩,⟨some 41,.pick (.t 37) (.c (.bool true)) (.t 40),none⟩,⟨some 42,.mov (.t 41),none⟩,⟨some 43,.mov (.t 1),(some (42,false))⟩,⟨some 44,.eql (.one .i) false (.t 43) (.c (.int .i64 0)),(some (42,false))⟩,⟨some 45,.mov (.t 44),(some (42,false))⟩,⟨some 46,.mov (.t 8),(some (45,true))⟩,⟨some 47,.bin .add (.t 46) (.c (.int .i64 1)),(some (45,true))⟩,⟨some 48,.mov (.t 2),(some (45,true))⟩,⟨some 49,.len 1 (.t 48),(some (45,true))⟩,⟨some 50,.bin .lss (.t 47) (.t 49),(some (45,true))⟩,⟨some 51,.pick (.t 45) (.t 50) (.c (.bool false)),(some (42,false))⟩,⟨some 52,.pick (.t 42) (.c (.bool true)) (.t 51),none⟩])
 (.cond (.t 52) (.seq (.reg [⟨some 6,.mov (.c (.bool false)),none⟩])
 (.jump .ret))
 .skip))
 (.reg [⟨some 53,.mov (.t 7),none⟩,⟨some 54,.mov (.t 1),none⟩,⟨some 55,.mklit 1 [.t 54],none⟩,⟨some 56,.append 1 8 (.t 53) (.t 55),none⟩,⟨some 7,.mov (.t 56),none⟩]))))
 (.reg [⟨some 23,.mov (.t 8),none⟩,⟨some 24,.bin .add (.t 23) (.c (.int .i64 1)),none⟩,⟨some 8,.mov (.t 24),none⟩]))
def a61:AFunc:=⟨59,[.tmp 6],
 .seq (.reg [⟨some 3,.box 4 (.t 0),none⟩,⟨some 6,.mov (.c (.bool false)),none⟩])
 (.seq (.seq (.reg [⟨some 9,.mov (.t 2),none⟩,⟨some 10,.len 1 (.t 9),none⟩,⟨some 11,.call (.c (.func 62 [] [])) [(.t 10),(.c (.int .i64 1)),(.c (.int .i64 4))],none⟩,⟨some 12,.not (.t 11),none⟩,⟨some 13,.mov (.t 12),none⟩,⟨some 14,.mov (.t 1),(some (13,false))⟩,⟨some 15,.eql (.one .i) false (.t 14) (.c (.int .i64 0)),(some (13,false))⟩,⟨some 16,.pick (.t 13) (.c (.bool true)) (.t 15),none⟩])
 (.cond (.t 16) (.seq (.reg [⟨some 6,.mov (.c (.bool false)),none⟩])
 (.jump .ret))
 .skip))
 (.seq (.reg [⟨some 17,.mov (.t 1),none⟩,⟨some 18,.mklit 1 [.t 17],none⟩,⟨some 7,.mov (.t 18),none⟩])
 (.seq (.seq (.reg [⟨some 8,.mov (.c (.int .i64 0)),none⟩])
 (.block 0 (.loop UX)))
 (.seq (.reg [⟨some 57,.mov (.t 1),none⟩,⟨some 58,.eql (.one .i) false (.t 57) (.c (.int .i64 0)),none⟩,⟨some 6,.mov (.t 58),none⟩])
 (.jump .ret)))))⟩
def a62:AFunc:=⟨15,[.tmp 6],
 .seq (.reg [⟨some 6,.mov (.c (.bool false)),none⟩])
 (.seq (.reg [⟨some 7,.mov (.t 0),none⟩,⟨some 8,.mov (.t 1),none⟩,⟨some 9,.bin .geq (.t 7) (.t 8),none⟩,⟨some 10,.mov (.t 9),none⟩,⟨some 11,.mov (.t 0),(some (10,true))⟩,⟨some 12,.mov (.t 2),(some (10,true))⟩,⟨some 13,.bin .leq (.t 11) (.t 12),(some (10,true))⟩,⟨some 14,.pick (.t 10) (.t 13) (.c (.bool false)),none⟩,⟨some 6,.mov (.t 14),none⟩])
 (.jump .ret))⟩
def a63:AFunc:=⟨10,[.tmp 6],
 .seq (.reg [⟨some 3,.box 1 (.t 0),none⟩,⟨some 4,.box 1 (.t 1),none⟩,⟨some 6,.mov (.c (.bool false)),none⟩])
 (.seq (.reg [⟨some 7,.mov (.t 2),none⟩,⟨some 8,.mkfun 99 [] [.t 3,.t 4],none⟩,⟨some 9,.call (.c (.func 98 [] [])) [.t 7,.t 8],none⟩,⟨some 6,.mov (.t 9),none⟩])
 (.jump .ret))⟩
def V0:ACode:=.seq (.reg [⟨some 12,.bin .lss (.t 11) (.t 10),none⟩])
 (.seq (.cond (.t 12) .skip
 (.jump (.exit 0)))
 (.seq (.block 1 (.seq (.reg [⟨some 13,.mov (.t 11),none⟩,⟨some 14,.iaddr none 5 (.t 9) (.t 11),none⟩,⟨some 15,.load (some 5) (.t 14),none⟩,⟨some 7,.alloc [.int .i64 0,.int .i64 0,.int .i64 0,.int .i64 0,.int .i64 0],none⟩,⟨some 6,.mov (.t 13),none⟩,⟨none,.store 5 (.t 7) (.t 15),none⟩])
 (.seq (.reg [⟨some 16,.mov (.t 1),none⟩,⟨some 17,.mov (.t 6),none⟩,⟨some 18,.load (some 5) (.t 7),none⟩,⟨some 19,.call (.t 16) [.t 17,.t 18],none⟩,⟨some 8,.mov (.t 19),none⟩])
 (.seq (.reg [⟨some 20,.mov (.t 8),none⟩,⟨some 21,.eql (.one .i) true (.t 20) (.c (.int .i64 0)),none⟩])
 (.cond (.t 21) (.seq (.reg [⟨some 22,.mov (.t 6),none⟩,⟨some 23,.mov (.t 8),none⟩,⟨some 4,.mov (.t 22),none⟩,⟨some 5,.mov (.t 23),none⟩])
 (.jump .ret))
 .skip)))))
 (.reg [⟨some 24,.bin .add (.t 11) (.c (.int .i64 1)),none⟩,⟨some 11,.mov (.t 24),none⟩])))
def a64:AFunc:=⟨25,[.tmp 4,.tmp 5],
 .seq (.reg [⟨some 4,.mov (.c (.int .i64 0)),none⟩,⟨some 5,.mov (.c (.int .i64 0)),none⟩])
 (.seq (.seq (.reg [⟨some 9,.mov (.t 0),none⟩,⟨some 10,.len 1 (.t 9),none⟩,⟨some 11,.mov (.c (.int .i64 0)),none⟩])
 (.block 0 (.loop V0)))
 (.seq (.reg [⟨some 4,.mov (.c (.int .i64 0)),none⟩,⟨some 5,.mov (.c (.int .i64 0)),none⟩])
 (.jump .ret)))⟩
def a65:AFunc:=⟨45,[.tmp 5],
 .seq (.reg [⟨some 4,.box 5 (.t 1),none⟩,⟨some 5,.mov (.c (.int .i64 0)),none⟩])
 (.seq (.block 0 (.seq (.reg [⟨some 7,.load none (.t 2),none⟩,⟨some 8,.faddr (.t 4) 0,none⟩,⟨some 9,.load none (.t 8),none⟩,⟨some 10,.faddr (.t 4) 1,none⟩,⟨some 11,.load none (.t 10),none⟩,⟨some 12,.mklit 1 [.t 9,.t 11],none⟩,⟨some 13,.call (.c (.func 63 [] [])) [(.c (.int .i64 0)),(.t 7),(.t 12)],none⟩,⟨some 6,.mov (.t 13),none⟩])
 (.cond (.t 6) (.seq (.reg [⟨some 5,.mov (.c (.int .i64 4)),none⟩])
 (.jump .ret))
 (.seq (.reg [⟨some 15,.faddr (.t 4) 0,none⟩,⟨some 16,.load none (.t 15),none⟩,⟨some 17,.faddr (.t 4) 1,none⟩,⟨some 18,.load none (.t 17),none⟩,⟨some 19,.eql (.one .i) false (.t 16) (.t 18),none⟩,⟨some 14,.mov (.t 19),none⟩])
 (.cond (.t 14) (.seq (.reg [⟨some 5,.mov (.c (.int .i64 2)),none⟩])
 (.jump .ret))
 (.seq (.reg [⟨some 21,.faddr (.t 4) 2,none⟩,⟨some 22,.faddr (.t 21) 0,none⟩,⟨some 23,.load none (.t 22),none⟩,⟨some 24,.faddr (.t 4) 2,none⟩,⟨some 25,.faddr (.t 24) 1,none⟩,⟨some 26,.load none (.t 25),none⟩,⟨some 27,.mklit 1 [.t 23,.t 26],none⟩,⟨some 28,.call (.c (.func 63 [] [])) [(.c (.int .i64 1)),(.c (.int .i64 20)),(.t 27)],none⟩,⟨some 29,.mov (.t 28),none⟩,⟨some 30,.faddr (.t 4) 4,(some (29,false))⟩,⟨some 31,.load none (.t 30),(some (29,false))⟩,⟨some 32,.mklit 1 [.t 31],(some (29,false))⟩,⟨some 33,.call (.c (.func 63 [] [])) [(.c (.int .i64 0)),(.c (.int .i64 2)),(.t 32)],(some (29,false))⟩,⟨some 34,.pick (.t 29) (.c (.bool true)) (.t 33),none⟩,⟨some 20,.mov (.t 34),none⟩])
 (.cond (.t 20) (.seq (.reg [⟨some 5,.mov (.c (.int .i64 7)),none⟩])
 (.jump .ret))
 (.seq (.reg [⟨some 36,.faddr (.t 4) 2,none⟩,⟨some 37,.faddr (.t 36) 1,none⟩,⟨some 38,.load none (.t 37),none⟩,⟨some 39,.faddr (.t 4) 2,none⟩,⟨some 40,.faddr (.t 39) 0,none⟩,⟨some 41,.load none (.t 40),none⟩,⟨some 42,.bin .sub (.t 38) (.t 41),none⟩,⟨some 43,.mklit 1 [.t 42],none⟩,⟨some 44,.call (.c (.func 63 [] [])) [(.c (.int .i64 0)),(.c (.int .i64 1)),(.t 43)],none⟩,⟨some 35,.mov (.t 44),none⟩])
 (.cond (.t 35) (.seq (.reg [⟨some 5,.mov (.c (.int .i64 2)),none⟩])
 (.jump .ret))
 .skip)))))))))
 (.seq (.reg [⟨some 5,.mov (.c (.int .i64 0)),none⟩])
 (.jump .ret)))⟩
def V8:ACode:=.seq (.reg [⟨some 12,.bin .lss (.t 11) (.t 10),none⟩])
 (.seq (.cond (.t 12) .skip
 (.jump (.exit 0)))
 (.seq (.block 1 (.seq (.reg [⟨some 13,.mov (.t 11),none⟩,⟨some 14,.iaddr none 5 (.t 9) (.t 11),none⟩,⟨some 15,.load (some 5) (.t 14),none⟩,⟨some 7,.alloc [.str ⟨#[]⟩,.int .i64 0,.int .i64 0,.int .i64 0,.lit [] true none],none⟩,⟨some 6,.mov (.t 13),none⟩,⟨none,.store 5 (.t 7) (.t 15),none⟩])
 (.seq (.reg [⟨some 16,.mov (.t 1),none⟩,⟨some 17,.mov (.t 6),none⟩,⟨some 18,.load (some 5) (.t 7),none⟩,⟨some 19,.call (.t 16) [.t 17,.t 18],none⟩,⟨some 8,.mov (.t 19),none⟩])
 (.seq (.reg [⟨some 20,.mov (.t 8),none⟩,⟨some 21,.eql (.one .i) true (.t 20) (.c (.int .i64 0)),none⟩])
 (.cond (.t 21) (.seq (.reg [⟨some 22,.mov (.t 6),none⟩,⟨some 23,.mov (.t 8),none⟩,⟨some 4,.mov (.t 22),none⟩,⟨some 5,.mov (.t 23),none⟩])
 (.jump .ret))
 .skip)))))
 (.reg [⟨some 24,.bin .add (.t 11) (.c (.int .i64 1)),none⟩,⟨some 11,.mov (.t 24),none⟩])))
def a66:AFunc:=⟨25,[.tmp 4,.tmp 5],
 .seq (.reg [⟨some 4,.mov (.c (.int .i64 0)),none⟩,⟨some 5,.mov (.c (.int .i64 0)),none⟩])
 (.seq (.seq (.reg [⟨some 9,.mov (.t 0),none⟩,⟨some 10,.len 1 (.t 9),none⟩,⟨some 11,.mov (.c (.int .i64 0)),none⟩])
 (.block 0 (.loop V8)))
 (.seq (.reg [⟨some 4,.mov (.c (.int .i64 0)),none⟩,⟨some 5,.mov (.c (.int .i64 0)),none⟩])
 (.jump .ret)))⟩
def a67:AFunc:=⟨63,[.tmp 6],
 .seq (.reg [⟨some 5,.box 5 (.t 1),none⟩,⟨some 6,.mov (.c (.int .i64 0)),none⟩])
 (.seq (.block 0 (.seq (.reg [⟨some 10,.faddr (.t 5) 0,none⟩,⟨some 11,.load none (.t 10),none⟩,⟨some 12,.call (.c (.func 68 [] [])) [.t 11],none⟩,⟨some 13,.not (.t 12),none⟩,⟨some 9,.mov (.t 13),none⟩])
 (.cond (.t 9) (.seq (.reg [⟨some 6,.mov (.c (.int .i64 6)),none⟩])
 (.jump .ret))
 (.seq (.reg [⟨some 15,.faddr (.t 2) 2,none⟩,⟨some 16,.load none (.t 15),none⟩,⟨some 17,.mov (.t 0),none⟩,⟨some 18,.slicev 5 (.t 16) none (some (.t 17)) none,none⟩,⟨some 19,.mkfun 70 [] [.t 5],none⟩,⟨some 20,.call (.c (.func 69 [] [])) [.t 18,.t 19],none⟩,⟨some 14,.mov (.t 20),none⟩])
 (.cond (.t 14) (.seq (.reg [⟨some 6,.mov (.c (.int .i64 5)),none⟩])
 (.jump .ret))
 (.seq (.reg [⟨some 22,.load none (.t 3),none⟩,⟨some 23,.faddr (.t 5) 1,none⟩,⟨some 24,.load none (.t 23),none⟩,⟨some 25,.mklit 1 [.t 24],none⟩,⟨some 26,.call (.c (.func 63 [] [])) [(.c (.int .i64 0)),(.t 22),(.t 25)],none⟩,⟨some 21,.mov (.t 26),none⟩])
 (.cond (.t 21) (.seq (.reg [⟨some 6,.mov (.c (.int .i64 4)),none⟩])
 (.jump .ret))
 (.seq (.reg [⟨some 28,.faddr (.t 5) 2,none⟩,⟨some 29,.load none (.t 28),none⟩,⟨some 30,.mklit 1 [.t 29],none⟩,⟨some 31,.call (.c (.func 63 [] [])) [(.c (.int .i64 0)),(.c (.int .i64 60)),(.t 30)],none⟩,⟨some 32,.mov (.t 31),none⟩,⟨some 33,.faddr (.t 5) 3,(some (32,false))⟩,⟨some 34,.load none (.t 33),(some (32,false))⟩,⟨some 35,.mklit 1 [.t 34],(some (32,false))⟩,⟨some 36,.call (.c (.func 63 [] [])) [(.c (.int .i64 0)),(.c (.int .i64 400)),(.t 35)],(some (32,false))⟩,⟨some 37,.pick (.t 32) (.c (.bool true)) (.t 36),none⟩,⟨some 27,.mov (.t 37),none⟩])
 (.cond (.t 27) (.seq (.reg [⟨some 6,.mov (.c (.int .i64 7)),none⟩])
 (.jump .ret))
 (.seq (.reg [⟨some 39,.faddr (.t 5) 4,none⟩,⟨some 40,.load none (.t 39),none⟩,⟨some 41,.len 1 (.t 40),none⟩,⟨some 42,.mklit 1 [.t 41],none⟩,⟨some 43,.call (.c (.func 63 [] [])) [(.c (.int .i64 1)),(.c (.int .i64 4)),(.t 42)],none⟩,⟨some 38,.mov (.t 43),none⟩])
 (.cond (.t 38) (.seq (.reg [⟨some 6,.mov (.c (.int .i64 3)),none⟩])
 (.jump .ret))
 (.seq (.reg [⟨some 45,.faddr (.t 2) 1,none⟩,⟨some 46,.load none (.t 45),none⟩,⟨some 47,.len 1 (.t 46),none⟩,⟨some 48,.bin .sub (.t 47) (.c (.int .i64 1)),none⟩,⟨some 49,.faddr (.t 5) 4,none⟩,⟨some 50,.load none (.t 49),none⟩,⟨some 51,.call (.c (.func 63 [] [])) [(.c (.int .i64 0)),(.t 48),(.t 50)],none⟩,⟨some 44,.mov (.t 51),none⟩])
 (.cond (.t 44) (.seq (.reg [⟨some 6,.mov (.c (.int .i64 4)),none⟩])
 (.jump .ret))
 .skip)))))))))))))
 (.seq (.seq (.reg [⟨some 53,.load (some 4) (.t 2),none⟩,⟨some 54,.faddr (.t 5) 1,none⟩,⟨some 55,.load none (.t 54),none⟩,⟨some 56,.faddr (.t 5) 4,none⟩,⟨some 57,.load none (.t 56),none⟩,⟨some 58,.call (.c (.func 71 [] [])) [.t 53,.t 55,.t 57],none⟩,⟨some 52,.mov (.t 58),none⟩,⟨some 59,.ext (.t 52) 0,none⟩,⟨some 60,.ext (.t 52) 1,none⟩,⟨some 7,.mov (.t 59),none⟩,⟨some 8,.mov (.t 60),none⟩])
 (.seq (.reg [⟨some 61,.mov (.t 7),none⟩,⟨some 62,.not (.t 61),none⟩])
 (.cond (.t 62) (.seq (.reg [⟨some 6,.mov (.c (.int .i64 2)),none⟩])
 (.jump .ret))
 .skip)))
 (.seq (.reg [⟨some 6,.mov (.c (.int .i64 0)),none⟩])
 (.jump .ret))))⟩
def P1:ACode:=.seq (.reg [⟨some 8,.snext (.t 7),none⟩,⟨some 9,.ext (.t 8) 0,none⟩])
 (.seq (.cond (.t 9) .skip
 (.jump (.exit 0)))
 (.block 1 (.seq (.reg [⟨some 10,.ext (.t 8) 1,none⟩,⟨some 11,.ext (.t 8) 2,none⟩,⟨some 3,.mov (.t 10),none⟩,⟨some 4,.mov (.t 11),none⟩])
 (.seq (.reg [⟨some 12,.mov (.t 4),none⟩,⟨some 13,.bin .geq (.t 12) (.c (.int .i32 97)),none⟩,⟨some 14,.mov (.t 13),none⟩,⟨some 15,.mov (.t 4),(some (14,true))⟩,⟨some 16,.bin .leq (.t 15) (.c (.int .i32 122)),(some (14,true))⟩,⟨some 17,.pick (.t 14) (.t 16) (.c (.bool false)),none⟩,⟨some 5,.mov (.t 17),none⟩])
 (.seq (.reg [⟨some 18,.mov (.t 5),none⟩,⟨some 19,.not (.t 18),none⟩,⟨some 20,.mov (.t 19),none⟩,⟨some 21,.mov (.t 3),(some (20,true))⟩,⟨some 22,.eql (.one .i) false (.t 21) (.c (.int .i64 0)),(some (20,true))⟩,⟨some 23,.mov (.t 22),(some (20,true))⟩,⟨some 24,.mov (.t 4),(some (23,false))⟩,⟨some 25,.eql (.one .i) true (.t 24) (.c (.int .i32 46)),(some (23,false))⟩,⟨some 26,.mov (.t 25),(some (23,false))⟩,⟨some 27,.mov (.t 4),(some (26,true))⟩,⟨some 28,.bin .lss (.t 27) (.c (.int .i32 48)),(some (26,true))⟩,⟨some 29,.mov (.t 28),(some (26,true))⟩,⟨some 30,.mov (.t 4),(some (29,false))⟩,⟨some 31,.bin .gtr (.t 30) (.c (.int .i32 57)),(some (29,false))⟩,⟨some 32,.pick (.t 29) (.c (.bool true)) (.t 31),(some (26,true))⟩,⟨some 33,.pick (.t 26) (.t 32) (.c (.bool false)),(some (23,false))⟩,⟨some 34,.pick (.t 23) (.c (.bool true)) (.t 33),(some (20,true))⟩,⟨some 35,.pick (.t 20) (.t 34) (.c (.bool false)),none⟩])
 (.cond (.t 35) (.seq (.reg [⟨some 2,.mov (.c (.bool false)),none⟩])
 (.jump .ret))
 .skip))))))
def a68:AFunc:=⟨41,[.tmp 2],
 .seq (.reg [⟨some 2,.mov (.c (.bool false)),none⟩])
 (.seq (.seq (.reg [⟨some 6,.mov (.t 0),none⟩,⟨some 7,.srange (.t 6),none⟩])
 (.block 0 (.loop P1)))
 (.seq (.reg [⟨some 36,.mov (.t 0),none⟩,⟨some 37,.len 0 (.t 36),none⟩,⟨some 38,.mklit 1 [.t 37],none⟩,⟨some 39,.call (.c (.func 100 [] [])) [(.c (.int .i64 1)),(.c (.int .i64 16)),(.t 38)],none⟩,⟨some 40,.not (.t 39),none⟩,⟨some 2,.mov (.t 40),none⟩])
 (.jump .ret)))⟩
def a69:AFunc:=⟨9,[.tmp 4],
 .seq (.reg [⟨some 4,.mov (.c (.bool false)),none⟩])
 (.seq (.reg [⟨some 5,.mov (.t 0),none⟩,⟨some 6,.mov (.t 1),none⟩,⟨some 7,.call (.c (.func 101 [] [])) [.t 5,.t 6],none⟩,⟨some 8,.bin .geq (.t 7) (.c (.int .i64 0)),none⟩,⟨some 4,.mov (.t 8),none⟩])
 (.jump .ret))⟩
def a70:AFunc:=⟨9,[.tmp 3],
 .seq (.reg [⟨some 2,.box 5 (.t 0),none⟩,⟨some 3,.mov (.c (.bool false)),none⟩])
 (.seq (.reg [⟨some 4,.faddr (.t 2) 0,none⟩,⟨some 5,.load none (.t 4),none⟩,⟨some 6,.faddr (.t 1) 0,none⟩,⟨some 7,.load none (.t 6),none⟩,⟨some 8,.eql (.one .s) false (.t 5) (.t 7),none⟩,⟨some 3,.mov (.t 8),none⟩])
 (.jump .ret))⟩
def UU:ACode:=.seq (.reg [⟨some 16,.bin .lss (.t 15) (.t 14),none⟩])
 (.seq (.cond (.t 16) .skip
 (.jump (.exit 0)))
 (.seq (.block 1 (.seq (.reg [⟨some 17,.iaddr none 1 (.t 13) (.t 15),none⟩,⟨some 18,.load none (.t 17),none⟩,⟨some 10,.mov (.t 18),none⟩])
 (.seq (.seq (.reg [⟨some 19,.mov (.t 1),none⟩,⟨some 20,.eql (.one .i) true (.t 19) (.c (.int .i64 0)),none⟩])
 (.cond (.t 20) (.seq (.reg [⟨some 21,.faddr (.t 3) 1,none⟩,⟨some 22,.load none (.t 21),none⟩,⟨some 23,.mov (.t 10),none⟩,⟨some 24,.iaddr none 5 (.t 22) (.t 23),none⟩,⟨some 25,.load (some 5) (.t 24),none⟩,⟨some 26,.mov (.t 1),none⟩,⟨some 27,.call (.c (.func 102 [] [])) [.t 25,.t 26],none⟩,⟨some 1,.mov (.t 27),none⟩])
 (.seq (.reg [⟨some 28,.mov (.t 1),none⟩,⟨some 29,.bin .geq (.t 28) (.c (.int .i64 0)),none⟩,⟨some 30,.mov (.t 29),none⟩,⟨some 31,.mov (.t 8),(some (30,true))⟩,⟨some 32,.mov (.t 1),(some (30,true))⟩,⟨some 33,.bin .shr (.t 31) (.t 32),(some (30,true))⟩,⟨some 34,.bin .and (.t 33) (.c (.int .i64 1)),(some (30,true))⟩,⟨some 35,.eql (.one .i) false (.t 34) (.c (.int .i64 0)),(some (30,true))⟩,⟨some 36,.pick (.t 30) (.t 35) (.c (.bool false)),none⟩])
 (.cond (.t 36) (.seq (.reg [⟨some 37,.mov (.t 8),none⟩,⟨some 38,.mov (.t 1),none⟩,⟨some 39,.bin .shl (.c (.int .i64 1)) (.t 38),none⟩,⟨some 40,.bin .or (.t 37) (.t 39),none⟩,⟨some 8,.mov (.t 40),none⟩])
 (.jump (.exit 1)))
 .skip)))
 .skip))
 (.seq (.reg [⟨some 6,.mov (.c (.bool false)),none⟩,⟨some 7,.mov (.c (.bool false)),none⟩])
 (.jump .ret)))))
 (.reg [⟨some 41,.bin .add (.t 15) (.c (.int .i64 1)),none⟩,⟨some 15,.mov (.t 41),none⟩])))
def a71:AFunc:=⟨51,[.tmp 6,.tmp 7],
 .seq (.reg [⟨some 3,.box 4 (.t 0),none⟩,⟨some 6,.mov (.c (.bool false)),none⟩,⟨some 7,.mov (.c (.bool false)),none⟩])
 (.scope (.seq (.reg [⟨some 11,.mov (.t 1),none⟩,⟨some 12,.bin .shl (.c (.int .i64 1)) (.t 11),none⟩,⟨some 8,.mov (.t 12),none⟩])
 (.seq .skip
 (.seq (.seq (.reg [⟨some 13,.mov (.t 2),none⟩,⟨some 14,.len 1 (.t 13),none⟩,⟨some 15,.mov (.c (.int .i64 0)),none⟩])
 (.block 0 (.loop UU)))
 (.seq (.reg [⟨some 42,.mov (.t 1),none⟩,⟨some 43,.eql (.one .i) false (.t 42) (.c (.int .i64 0)),none⟩,⟨some 44,.mov (.t 43),none⟩,⟨some 45,.mov (.t 2),(some (44,true))⟩,⟨some 46,.len 1 (.t 45),(some (44,true))⟩,⟨some 47,.bin .gtr (.t 46) (.c (.int .i64 0)),(some (44,true))⟩,⟨some 48,.pick (.t 44) (.t 47) (.c (.bool false)),none⟩,⟨some 49,.mov (.t 1),none⟩,⟨some 50,.eql (.one .i) true (.t 49) (.c (.int .i64 0)),none⟩,⟨some 6,.mov (.t 48),none⟩,⟨some 7,.mov (.t 50),none⟩])
 (.jump .ret))))))⟩
def VZ:ACode:=.seq (.reg [⟨some 12,.bin .lss (.t 11) (.t 10),none⟩])
 (.seq (.cond (.t 12) .skip
 (.jump (.exit 0)))
 (.seq (.block 1 (.seq (.reg [⟨some 13,.mov (.t 11),none⟩,⟨some 14,.iaddr none 2 (.t 9) (.t 11),none⟩,⟨some 15,.load (some 2) (.t 14),none⟩,⟨some 7,.alloc [.int .i64 0,.int .i64 0],none⟩,⟨some 6,.mov (.t 13),none⟩,⟨none,.store 2 (.t 7) (.t 15),none⟩])
 (.seq (.reg [⟨some 16,.mov (.t 1),none⟩,⟨some 17,.mov (.t 6),none⟩,⟨some 18,.load (some 2) (.t 7),none⟩,⟨some 19,.call (.t 16) [.t 17,.t 18],none⟩,⟨some 8,.mov (.t 19),none⟩])
 (.seq (.reg [⟨some 20,.mov (.t 8),none⟩,⟨some 21,.eql (.one .i) true (.t 20) (.c (.int .i64 0)),none⟩])
 (.cond (.t 21) (.seq (.reg [⟨some 22,.mov (.t 6),none⟩,⟨some 23,.mov (.t 8),none⟩,⟨some 4,.mov (.t 22),none⟩,⟨some 5,.mov (.t 23),none⟩])
 (.jump .ret))
 .skip)))))
 (.reg [⟨some 24,.bin .add (.t 11) (.c (.int .i64 1)),none⟩,⟨some 11,.mov (.t 24),none⟩])))
def a72:AFunc:=⟨25,[.tmp 4,.tmp 5],
 .seq (.reg [⟨some 4,.mov (.c (.int .i64 0)),none⟩,⟨some 5,.mov (.c (.int .i64 0)),none⟩])
 (.seq (.seq (.reg [⟨some 9,.mov (.t 0),none⟩,⟨some 10,.len 1 (.t 9),none⟩,⟨some 11,.mov (.c (.int .i64 0)),none⟩])
 (.block 0 (.loop VZ)))
 (.seq (.reg [⟨some 4,.mov (.c (.int .i64 0)),none⟩,⟨some 5,.mov (.c (.int .i64 0)),none⟩])
 (.jump .ret)))⟩
def a73:AFunc:=⟨20,[.tmp 5],
 .seq (.reg [⟨some 4,.box 2 (.t 1),none⟩,⟨some 5,.mov (.c (.int .i64 0)),none⟩])
 (.seq (.block 0 (.seq (.reg [⟨some 7,.faddr (.t 2) 2,none⟩,⟨some 8,.load none (.t 7),none⟩,⟨some 9,.len 1 (.t 8),none⟩,⟨some 10,.bin .sub (.t 9) (.c (.int .i64 1)),none⟩,⟨some 11,.faddr (.t 4) 0,none⟩,⟨some 12,.load none (.t 11),none⟩,⟨some 13,.mklit 1 [.t 12],none⟩,⟨some 14,.call (.c (.func 63 [] [])) [(.c (.int .i64 0)),(.t 10),(.t 13)],none⟩,⟨some 6,.mov (.t 14),none⟩])
 (.cond (.t 6) (.seq (.reg [⟨some 5,.mov (.c (.int .i64 4)),none⟩])
 (.jump .ret))
 (.seq (.reg [⟨some 16,.faddr (.t 4) 1,none⟩,⟨some 17,.load none (.t 16),none⟩,⟨some 18,.mklit 1 [.t 17],none⟩,⟨some 19,.call (.c (.func 63 [] [])) [(.c (.int .i64 (-1))),(.c (.int .i64 400)),(.t 18)],none⟩,⟨some 15,.mov (.t 19),none⟩])
 (.cond (.t 15) (.seq (.reg [⟨some 5,.mov (.c (.int .i64 7)),none⟩])
 (.jump .ret))
 .skip)))))
 (.seq (.reg [⟨some 5,.mov (.c (.int .i64 0)),none⟩])
 (.jump .ret)))⟩
def a74:AFunc:=⟨46,[.tmp 4],
 .seq (.reg [⟨some 2,.box 4 (.t 0),none⟩,⟨some 3,.box 5 (.t 1),none⟩,⟨some 4,.mov (.c (.int .i64 0)),none⟩])
 (.seq (.seq (.reg [⟨some 6,.load (some 4) (.t 2),none⟩,⟨some 7,.faddr (.t 3) 0,none⟩,⟨some 8,.load none (.t 7),none⟩,⟨some 9,.call (.c (.func 78 [] [])) [.t 6,.t 8],none⟩,⟨some 10,.not (.t 9),none⟩,⟨some 11,.mov (.t 10),none⟩,⟨some 12,.load (some 4) (.t 2),(some (11,false))⟩,⟨some 13,.faddr (.t 3) 1,(some (11,false))⟩,⟨some 14,.load none (.t 13),(some (11,false))⟩,⟨some 15,.call (.c (.func 78 [] [])) [.t 12,.t 14],(some (11,false))⟩,⟨some 16,.not (.t 15),(some (11,false))⟩,⟨some 17,.pick (.t 11) (.c (.bool true)) (.t 16),none⟩])
 (.cond (.t 17) (.seq (.reg [⟨some 4,.mov (.c (.int .i64 4)),none⟩])
 (.jump .ret))
 .skip))
 (.seq (.seq (.reg [⟨some 18,.faddr (.t 3) 0,none⟩,⟨some 19,.load none (.t 18),none⟩,⟨some 20,.faddr (.t 3) 1,none⟩,⟨some 21,.load none (.t 20),none⟩,⟨some 22,.eql (.one .i) false (.t 19) (.t 21),none⟩])
 (.cond (.t 22) (.seq (.reg [⟨some 4,.mov (.c (.int .i64 2)),none⟩])
 (.jump .ret))
 .skip))
 (.seq (.reg [⟨some 23,.faddr (.t 3) 2,none⟩,⟨some 24,.load (some 2) (.t 23),none⟩,⟨some 25,.call (.c (.func 103 [] [])) [(.t 24),(.c (.int .i64 1)),(.c (.int .i64 20))],none⟩,⟨some 5,.mov (.t 25),none⟩])
 (.seq (.seq (.reg [⟨some 26,.mov (.t 5),none⟩,⟨some 27,.eql (.one .i) false (.t 26) (.c (.int .i64 7)),none⟩,⟨some 28,.mov (.t 27),none⟩,⟨some 29,.faddr (.t 3) 4,(some (28,false))⟩,⟨some 30,.load none (.t 29),(some (28,false))⟩,⟨some 31,.call (.c (.func 62 [] [])) [(.t 30),(.c (.int .i64 0)),(.c (.int .i64 2))],(some (28,false))⟩,⟨some 32,.not (.t 31),(some (28,false))⟩,⟨some 33,.pick (.t 28) (.c (.bool true)) (.t 32),none⟩])
 (.cond (.t 33) (.seq (.reg [⟨some 4,.mov (.c (.int .i64 7)),none⟩])
 (.jump .ret))
 .skip))
 (.seq (.seq (.reg [⟨some 34,.mov (.t 5),none⟩,⟨some 35,.eql (.one .i) true (.t 34) (.c (.int .i64 0)),none⟩,⟨some 36,.mov (.t 35),none⟩,⟨some 37,.faddr (.t 3) 2,(some (36,false))⟩,⟨some 38,.faddr (.t 37) 1,(some (36,false))⟩,⟨some 39,.load none (.t 38),(some (36,false))⟩,⟨some 40,.faddr (.t 3) 2,(some (36,false))⟩,⟨some 41,.faddr (.t 40) 0,(some (36,false))⟩,⟨some 42,.load none (.t 41),(some (36,false))⟩,⟨some 43,.bin .add (.t 42) (.c (.int .i64 1)),(some (36,false))⟩,⟨some 44,.bin .gtr (.t 39) (.t 43),(some (36,false))⟩,⟨some 45,.pick (.t 36) (.c (.bool true)) (.t 44),none⟩])
 (.cond (.t 45) (.seq (.reg [⟨some 4,.mov (.c (.int .i64 2)),none⟩])
 (.jump .ret))
 .skip))
 (.seq (.reg [⟨some 4,.mov (.c (.int .i64 0)),none⟩])
 (.jump .ret)))))))⟩
def a75:AFunc:=⟨14,[.tmp 4],
 .seq (.reg [⟨some 4,.mov (.c (.int .i64 0)),none⟩])
 (.seq (.reg [⟨some 5,.mov (.c (.int .i64 0)),none⟩])
 (.seq (.seq (.reg [⟨some 6,.mov (.t 1),none⟩,⟨some 7,.mov (.t 0),none⟩,⟨some 8,.call (.c (.func 104 [] [])) [.t 6,.t 7],none⟩,⟨some 9,.bin .geq (.t 8) (.c (.int .i64 0)),none⟩])
 (.cond (.t 9) (.reg [⟨some 5,.mov (.c (.int .i64 5)),none⟩])
 .skip))
 (.seq (.seq (.reg [⟨some 10,.mov (.t 0),none⟩,⟨some 11,.call (.c (.func 105 [] [])) [.t 10],none⟩,⟨some 12,.not (.t 11),none⟩])
 (.cond (.t 12) (.reg [⟨some 5,.mov (.c (.int .i64 6)),none⟩])
 .skip))
 (.seq (.reg [⟨some 13,.mov (.t 5),none⟩,⟨some 4,.mov (.t 13),none⟩])
 (.jump .ret)))))⟩
def WH:ACode:=.seq (.seq (.reg [⟨some 26,.mov (.t 5),none⟩,⟨some 27,.faddr (.t 3) 4,none⟩,⟨some 28,.load none (.t 27),none⟩,⟨some 29,.len 1 (.t 28),none⟩,⟨some 30,.bin .lss (.t 26) (.t 29),none⟩])
 (.cond (.t 30) .skip
 (.jump (.exit 0))))
 (.seq (.block 1 (.seq (.dreg [⟨⟨some 33,.faddr (.t 3) 4,none⟩,0,0⟩,⟨⟨some 34,.load none (.t 33),none⟩,0,0⟩,⟨⟨some 35,.mov (.t 5),none⟩,0,0⟩,⟨⟨some 36,.iaddr none 1 (.t 34) (.t 35),none⟩,0,0⟩,⟨⟨some 37,.load none (.t 36),none⟩,0,0⟩,⟨⟨some 38,.faddr (.t 2) 1,none⟩,0,0⟩,⟨⟨some 39,.load none (.t 38),none⟩,0,0⟩,⟨⟨some 40,.len 1 (.t 39),none⟩,0,0⟩,⟨⟨some 41,.bin .sub (.t 40) (.c (.int .i64 1)),none⟩,0,0⟩,⟨⟨some 42,.call (.c (.func 62 [] [])) [(.t 37),(.c (.int .i64 0)),(.t 41)],none⟩,0,1⟩,⟨⟨some 43,.not (.t 42),none⟩,1,1⟩])
 (.cond (.t 43) (.seq (.reg [⟨some 4,.mov (.c (.int .i64 4)),none⟩])
 (.jump .ret))
 .skip)))
 (.reg [⟨some 31,.mov (.t 5),none⟩,⟨some 32,.bin .add (.t 31) (.c (.int .i64 1)),none⟩,⟨some 5,.mov (.t 32),none⟩]))
def a76:AFunc:=⟨51,[.tmp 4],
 .seq (.reg [⟨some 2,.box 4 (.t 0),none⟩,⟨some 3,.box 5 (.t 1),none⟩,⟨some 4,.mov (.c (.int .i64 0)),none⟩])
 (.seq (.seq (.reg [⟨some 6,.load (some 4) (.t 2),none⟩,⟨some 7,.faddr (.t 3) 1,none⟩,⟨some 8,.load none (.t 7),none⟩,⟨some 9,.call (.c (.func 78 [] [])) [.t 6,.t 8],none⟩,⟨some 10,.not (.t 9),none⟩])
 (.cond (.t 10) (.seq (.reg [⟨some 4,.mov (.c (.int .i64 4)),none⟩])
 (.jump .ret))
 .skip))
 (.seq (.seq (.reg [⟨some 11,.faddr (.t 3) 2,none⟩,⟨some 12,.load none (.t 11),none⟩,⟨some 13,.call (.c (.func 62 [] [])) [(.t 12),(.c (.int .i64 0)),(.c (.int .i64 60))],none⟩,⟨some 14,.not (.t 13),none⟩,⟨some 15,.mov (.t 14),none⟩,⟨some 16,.faddr (.t 3) 3,(some (15,false))⟩,⟨some 17,.load none (.t 16),(some (15,false))⟩,⟨some 18,.call (.c (.func 62 [] [])) [(.t 17),(.c (.int .i64 0)),(.c (.int .i64 400))],(some (15,false))⟩,⟨some 19,.not (.t 18),(some (15,false))⟩,⟨some 20,.pick (.t 15) (.c (.bool true)) (.t 19),none⟩])
 (.cond (.t 20) (.seq (.reg [⟨some 4,.mov (.c (.int .i64 7)),none⟩])
 (.jump .ret))
 .skip))
 (.seq (.seq (.reg [⟨some 21,.faddr (.t 3) 4,none⟩,⟨some 22,.load none (.t 21),none⟩,⟨some 23,.len 1 (.t 22),none⟩,⟨some 24,.call (.c (.func 62 [] [])) [(.t 23),(.c (.int .i64 1)),(.c (.int .i64 4))],none⟩,⟨some 25,.not (.t 24),none⟩])
 (.cond (.t 25) (.seq (.reg [⟨some 4,.mov (.c (.int .i64 3)),none⟩])
 (.jump .ret))
 .skip))
 (.seq (.seq (.reg [⟨some 5,.mov (.c (.int .i64 0)),none⟩])
 (.block 0 (.loop WH)))
 (.seq (.seq (.reg [⟨some 44,.load (some 4) (.t 2),none⟩,⟨some 45,.faddr (.t 3) 1,none⟩,⟨some 46,.load none (.t 45),none⟩,⟨some 47,.faddr (.t 3) 4,none⟩,⟨some 48,.load none (.t 47),none⟩,⟨some 49,.call (.c (.func 61 [] [])) [.t 44,.t 46,.t 48],none⟩,⟨some 50,.not (.t 49),none⟩])
 (.cond (.t 50) (.seq (.reg [⟨some 4,.mov (.c (.int .i64 2)),none⟩])
 (.jump .ret))
 .skip))
 (.seq (.reg [⟨some 4,.mov (.c (.int .i64 0)),none⟩])
 (.jump .ret)))))))⟩
def VY:ACode:=.seq (.reg [⟨some 32,.bin .lss (.t 31) (.t 30),none⟩])
 (.seq (.cond (.t 32) .skip
 (.jump (.exit 4)))
 (.seq (.block 5 (.seq (.reg [⟨some 33,.mov (.t 31),none⟩,⟨some 34,.iaddr none 5 (.t 29) (.t 31),none⟩,⟨some 35,.load (some 5) (.t 34),none⟩,⟨some 12,.alloc [.int .i64 0,.int .i64 0,.int .i64 0,.int .i64 0,.int .i64 0],none⟩,⟨some 11,.mov (.t 33),none⟩,⟨none,.store 5 (.t 12) (.t 35),none⟩])
 (.seq (.seq (.reg [⟨some 36,.mov (.t 11),none⟩,⟨some 37,.mov (.t 2),none⟩,⟨some 38,.eql (.one .i) false (.t 36) (.t 37),none⟩,⟨some 39,.mov (.t 38),none⟩,⟨some 40,.faddr (.t 12) 4,(some (39,false))⟩,⟨some 41,.load none (.t 40),(some (39,false))⟩,⟨some 42,.eql (.one .i) false (.t 41) (.c (.int .i64 1)),(some (39,false))⟩,⟨some 43,.pick (.t 39) (.c (.bool true)) (.t 42),none⟩,⟨some 44,.mov (.t 43),none⟩,⟨some 45,.mov (.t 10),(some (44,false))⟩,⟨some 46,.len 1 (.t 45),(some (44,false))⟩,⟨some 47,.eql (.one .i) false (.t 46) (.c (.int .i64 4)),(some (44,false))⟩,⟨some 48,.pick (.t 44) (.c (.bool true)) (.t 47),none⟩])
 (.cond (.t 48) (.jump (.exit 5))
 .skip))
 (.seq (.reg [⟨some 49,.mov (.t 10),none⟩,⟨some 50,.len 1 (.t 49),none⟩,⟨some 51,.bin .add (.t 50) (.c (.int .i64 1)),none⟩,⟨some 52,.mkslice [.int .i64 0] 8 (.t 51) (.t 51),none⟩,⟨some 13,.mov (.t 52),none⟩])
 (.seq (.reg [⟨some 53,.mov (.t 13),none⟩,⟨some 54,.mov (.t 10),none⟩,⟨some 55,.copy 1 (.t 53) (.t 54),none⟩])
 (.seq (.reg [⟨some 56,.mov (.t 13),none⟩,⟨some 57,.mov (.t 10),none⟩,⟨some 58,.len 1 (.t 57),none⟩,⟨some 59,.mov (.t 11),none⟩,⟨some 60,.iaddr none 1 (.t 56) (.t 58),none⟩,⟨none,.store 1 (.t 60) (.t 59),none⟩])
 (.seq (.reg [⟨some 62,.load (some 4) (.t 3),none⟩,⟨some 63,.mov (.t 1),none⟩,⟨some 64,.mov (.t 13),none⟩,⟨some 65,.call (.c (.func 71 [] [])) [.t 62,.t 63,.t 64],none⟩,⟨some 61,.mov (.t 65),none⟩,⟨some 66,.ext (.t 61) 0,none⟩,⟨some 67,.ext (.t 61) 1,none⟩,⟨some 14,.mov (.t 66),none⟩,⟨some 15,.mov (.t 67),none⟩])
 (.block 6 (.seq (.reg [⟨some 69,.mov (.t 14),none⟩,⟨some 68,.mov (.t 69),none⟩])
 (.cond (.t 68) (.reg [⟨some 70,.mov (.t 6),none⟩,⟨some 71,.mov (.t 13),none⟩,⟨some 72,.mklit 1 [.t 71],none⟩,⟨some 73,.append 1 24 (.t 70) (.t 72),none⟩,⟨some 6,.mov (.t 73),none⟩])
 (.seq (.reg [⟨some 75,.mov (.t 15),none⟩,⟨some 74,.mov (.t 75),none⟩])
 (.cond (.t 74) (.reg [⟨some 76,.mov (.t 8),none⟩,⟨some 77,.mov (.t 13),none⟩,⟨some 78,.mklit 1 [.t 77],none⟩,⟨some 79,.append 1 24 (.t 76) (.t 78),none⟩,⟨some 8,.mov (.t 79),none⟩])
 .skip))))))))))))
 (.reg [⟨some 80,.bin .add (.t 31) (.c (.int .i64 1)),none⟩,⟨some 31,.mov (.t 80),none⟩])))
def WL:ACode:=.seq (.reg [⟨some 25,.bin .lss (.t 24) (.t 23),none⟩])
 (.seq (.cond (.t 25) .skip
 (.jump (.exit 2)))
 (.seq (.block 3 (.seq (.reg [⟨some 26,.iaddr none 1 (.t 22) (.t 24),none⟩,⟨some 27,.load none (.t 26),none⟩,⟨some 10,.mov (.t 27),none⟩])
 (.seq (.reg [⟨some 28,.faddr (.t 3) 1,none⟩,⟨some 29,.load none (.t 28),none⟩,⟨some 30,.len 1 (.t 29),none⟩,⟨some 31,.mov (.c (.int .i64 0)),none⟩])
 (.block 4 (.loop VY)))))
 (.reg [⟨some 81,.bin .add (.t 24) (.c (.int .i64 1)),none⟩,⟨some 24,.mov (.t 81),none⟩])))
def UY:ACode:=.seq (.seq (.reg [⟨some 19,.mov (.t 7),none⟩,⟨some 20,.len 1 (.t 19),none⟩,⟨some 21,.bin .gtr (.t 20) (.c (.int .i64 0)),none⟩])
 (.cond (.t 21) .skip
 (.jump (.exit 0))))
 (.block 1 (.seq (.reg [⟨some 8,.mov (.c (.lit [] true none)),none⟩])
 (.seq (.seq (.reg [⟨some 22,.mov (.t 7),none⟩,⟨some 23,.len 1 (.t 22),none⟩,⟨some 24,.mov (.c (.int .i64 0)),none⟩])
 (.block 2 (.loop WL)))
 (.reg [⟨some 82,.mov (.t 8),none⟩,⟨some 7,.mov (.t 82),none⟩]))))
def a77:AFunc:=⟨84,[.tmp 6],
 .seq (.reg [⟨some 3,.box 4 (.t 0),none⟩,⟨some 6,.mov (.c (.lit [] true none)),none⟩])
 (.seq (.seq (.reg [⟨some 16,.mov (.t 1),none⟩,⟨some 17,.eql (.one .i) false (.t 16) (.c (.int .i64 0)),none⟩])
 (.cond (.t 17) (.seq (.reg [⟨some 6,.mov (.c (.lit [] true none)),none⟩])
 (.jump .ret))
 .skip))
 (.seq (.seq (.reg [⟨some 18,.mklit 1 [(.c (.lit [] true none))],none⟩,⟨some 7,.mov (.t 18),none⟩])
 (.block 0 (.loop UY)))
 (.seq (.reg [⟨some 83,.mov (.t 6),none⟩,⟨some 6,.mov (.t 83),none⟩])
 (.jump .ret))))⟩
def a78:AFunc:=⟨10,[.tmp 4],
 .seq (.reg [⟨some 2,.box 4 (.t 0),none⟩,⟨some 4,.mov (.c (.bool false)),none⟩])
 (.seq (.reg [⟨some 5,.mov (.t 1),none⟩,⟨some 6,.faddr (.t 2) 0,none⟩,⟨some 7,.load none (.t 6),none⟩,⟨some 8,.bin .sub (.t 7) (.c (.int .i64 1)),none⟩,⟨some 9,.call (.c (.func 62 [] [])) [(.t 5),(.c (.int .i64 0)),(.t 8)],none⟩,⟨some 4,.mov (.t 9),none⟩])
 (.jump .ret))⟩
def JN:ACode:=.seq (.seq (.reg [⟨some 20,.mov (.t 9),none⟩,⟨some 21,.bin .add (.t 20) (.c (.int .i64 1)),none⟩,⟨some 22,.mov (.t 1),none⟩,⟨some 23,.len 1 (.t 22),none⟩,⟨some 24,.bin .lss (.t 21) (.t 23),none⟩])
 (.cond (.t 24) .skip
 (.jump (.exit 0))))
 (.seq (.block 1 (.seq (.dreg [⟨⟨some 27,.mov (.t 1),none⟩,0,0⟩,⟨⟨some 28,.mov (.t 9),none⟩,0,0⟩,⟨⟨some 29,.bin .add (.t 28) (.c (.int .i64 1)),none⟩,0,0⟩,⟨⟨some 30,.iaddr none 1 (.t 27) (.t 29),none⟩,0,0⟩,⟨⟨some 31,.load none (.t 30),none⟩,0,0⟩,⟨⟨some 32,.bin .sub (.t 31) (.c (.int .i64 1)),none⟩,0,0⟩,⟨⟨some 33,.mov (.t 1),none⟩,0,0⟩,⟨⟨some 34,.mov (.t 9),none⟩,0,0⟩,⟨⟨some 35,.iaddr none 1 (.t 33) (.t 34),none⟩,0,0⟩,⟨⟨some 36,.load none (.t 35),none⟩,0,0⟩,⟨⟨some 37,.mklit 1 [.t 36],none⟩,0,0⟩,⟨⟨some 38,.call (.c (.func 63 [] [])) [(.c (.int .i64 0)),(.t 32),(.t 37)],none⟩,0,1⟩])
 (.cond (.t 38) (.seq (.reg [⟨some 4,.mov (.c (.nilPtr)),none⟩,⟨some 5,.mov (.c (.int .i64 4)),none⟩])
 (.jump .ret))
 .skip)))
 (.reg [⟨some 25,.mov (.t 9),none⟩,⟨some 26,.bin .add (.t 25) (.c (.int .i64 2)),none⟩,⟨some 9,.mov (.t 26),none⟩]))
def a79:AFunc:=⟨45,[.tmp 4,.tmp 5],
 .seq (.reg [⟨some 2,.box 4 (.t 0),none⟩,⟨some 4,.mov (.c (.nilPtr)),none⟩,⟨some 5,.mov (.c (.int .i64 0)),none⟩])
 (.seq (.seq (.reg [⟨some 12,.load (some 4) (.t 2),none⟩,⟨some 13,.call (.c (.func 17 [] [])) [.t 12],none⟩,⟨some 11,.mov (.t 13),none⟩,⟨some 14,.ext (.t 11) 0,none⟩,⟨some 15,.ext (.t 11) 1,none⟩,⟨some 16,.ext (.t 11) 2,none⟩,⟨some 6,.mov (.t 14),none⟩,⟨some 7,.mov (.t 15),none⟩,⟨some 8,.mov (.t 16),none⟩])
 (.seq (.reg [⟨some 17,.mov (.t 8),none⟩,⟨some 18,.eql (.one .i) true (.t 17) (.c (.int .i64 0)),none⟩])
 (.cond (.t 18) (.seq (.reg [⟨some 19,.mov (.t 8),none⟩,⟨some 4,.mov (.c (.nilPtr)),none⟩,⟨some 5,.mov (.t 19),none⟩])
 (.jump .ret))
 .skip)))
 (.seq (.seq (.reg [⟨some 9,.mov (.c (.int .i64 0)),none⟩])
 (.block 0 (.loop JN)))
 (.seq (.reg [⟨some 39,.load (some 4) (.t 2),none⟩,⟨some 40,.call (.c (.func 92 [] [])) [(.t 39),(.c (.int .i64 0))],none⟩,⟨some 10,.mov (.t 40),none⟩])
 (.seq (.seq (.reg [⟨some 41,.mov (.t 10),none⟩,⟨some 42,.call (.c (.func 93 [] [])) [.t 41],none⟩,⟨some 43,.not (.t 42),none⟩])
 (.cond (.t 43) (.seq (.reg [⟨some 4,.mov (.c (.nilPtr)),none⟩,⟨some 5,.mov (.c (.int .i64 8)),none⟩])
 (.jump .ret))
 .skip))
 (.seq (.reg [⟨some 44,.mov (.t 10),none⟩,⟨some 4,.mov (.t 44),none⟩,⟨some 5,.mov (.c (.int .i64 0)),none⟩])
 (.jump .ret))))))⟩
def a80:AFunc:=⟨4,[.tmp 2],
 .seq (.reg [⟨some 1,.box 1 (.t 0),none⟩,⟨some 2,.mov (.c (.nilFunc)),none⟩])
 (.seq (.reg [⟨some 3,.mkfun 106 [] [.t 1],none⟩,⟨some 2,.mov (.t 3),none⟩])
 (.jump .ret))⟩
def UV:ACode:=.seq (.reg [⟨some 29,.bin .lss (.t 28) (.t 27),none⟩])
 (.seq (.cond (.t 29) .skip
 (.jump (.exit 2)))
 (.seq (.block 3 (.seq (.reg [⟨some 30,.mov (.t 28),none⟩,⟨some 7,.mov (.t 30),none⟩])
 (.seq (.dreg [⟨⟨some 31,.load none (.t 4),none⟩,0,0⟩,⟨⟨some 32,.mov (.t 7),none⟩,0,0⟩,⟨⟨some 33,.mov (.t 7),none⟩,0,0⟩,⟨⟨some 34,.iaddr (some 3) 1 (.t 6) (.t 33),none⟩,0,0⟩,⟨⟨some 35,.load none (.t 34),none⟩,0,0⟩,⟨⟨some 36,.call (.t 31) [.t 32,.t 35],none⟩,0,1⟩])
 (.cond (.t 36) (.dreg [⟨⟨some 37,.load none (.t 2),none⟩,0,0⟩,⟨⟨some 38,.mov (.t 7),none⟩,0,0⟩,⟨⟨some 39,.bin .shl (.c (.int .i64 1)) (.t 38),none⟩,0,0⟩,⟨⟨some 40,.bin .andNot (.t 37) (.t 39),none⟩,0,0⟩,⟨⟨none,.store 1 (.t 2) (.t 40),none⟩,0,1⟩])
 (.dreg [⟨⟨some 41,.load none (.t 3),none⟩,0,0⟩,⟨⟨some 42,.mov (.t 7),none⟩,0,0⟩,⟨⟨some 43,.bin .shl (.c (.int .i64 1)) (.t 42),none⟩,0,0⟩,⟨⟨some 44,.bin .or (.t 41) (.t 43),none⟩,0,0⟩,⟨⟨none,.store 1 (.t 3) (.t 44),none⟩,0,1⟩])))))
 (.reg [⟨some 45,.bin .add (.t 28) (.c (.int .i64 1)),none⟩,⟨some 28,.mov (.t 45),none⟩])))
def M0:ACode:=.block 1 (.seq (.reg [⟨some 22,.load none (.t 1),none⟩,⟨some 23,.nilCheck (.t 22),none⟩,⟨some 24,.faddr (.t 23) 0,none⟩,⟨some 25,.faddr (.t 24) 2,none⟩,⟨some 26,.load none (.t 25),none⟩,⟨some 27,.len 1 (.t 26),none⟩,⟨some 28,.mov (.c (.int .i64 0)),none⟩])
 (.block 2 (.loop UV)))
def a84:AFunc:=⟨48,[.cell 2 none,.cell 3 none],
 .seq (.reg [⟨some 1,.box 1 (.t 0),none⟩,⟨some 2,.alloc [.int .i64 0],none⟩,⟨some 3,.alloc [.int .i64 0],none⟩])
 (.seq (.reg [⟨some 8,.load none (.t 1),none⟩,⟨some 9,.mkfun 111 [.t 8] [],none⟩,⟨some 4,.alloc [.nilFunc],none⟩,⟨none,.store 1 (.t 4) (.t 9),none⟩])
 (.seq (.reg [⟨some 10,.load none (.t 1),none⟩,⟨some 11,.nilCheck (.t 10),none⟩,⟨some 12,.faddr (.t 11) 0,none⟩,⟨some 13,.faddr (.t 12) 2,none⟩,⟨some 14,.load none (.t 13),none⟩,⟨some 15,.len 1 (.t 14),none⟩,⟨some 16,.bin .shl (.c (.int .i64 1)) (.t 15),none⟩,⟨some 17,.bin .sub (.t 16) (.c (.int .i64 1)),none⟩,⟨none,.store 1 (.t 2) (.t 17),none⟩])
 (.seq (.seq (.reg [⟨some 18,.load none (.t 1),none⟩,⟨some 19,.call (.c (.func 80 [] [])) [.t 18],none⟩])
 (.block 0 (.rangeFunc (.t 19) [20,21] (.reg [⟨some 6,.alloc [.int .i64 0,.int .i64 0,.int .i64 0],none⟩,⟨none,.store 3 (.t 6) (.t 21),none⟩])
 (M0))))
 (.seq (.dreg [⟨⟨some 46,.load none (.t 2),none⟩,0,0⟩,⟨⟨some 47,.load none (.t 3),none⟩,0,1⟩,⟨⟨none,.store 1 (.t 2) (.t 46),none⟩,0,1⟩,⟨⟨none,.store 1 (.t 3) (.t 47),none⟩,1,2⟩])
 (.jump .ret)))))⟩
def U8:ACode:=.seq (.reg [⟨some 8,.bin .lss (.t 7) (.t 6),none⟩])
 (.seq (.cond (.t 8) .skip
 (.jump (.exit 0)))
 (.seq (.block 1 (.seq (.reg [⟨some 9,.mov (.t 7),none⟩,⟨some 5,.mov (.t 9),none⟩])
 (.seq (.reg [⟨some 10,.mov (.t 0),none⟩,⟨some 11,.mov (.t 5),none⟩,⟨some 12,.bin .shr (.t 10) (.t 11),none⟩,⟨some 13,.bin .and (.t 12) (.c (.int .i64 1)),none⟩,⟨some 14,.eql (.one .i) false (.t 13) (.c (.int .i64 1)),none⟩])
 (.cond (.t 14) (.reg [⟨some 15,.mov (.t 4),none⟩,⟨some 16,.mov (.t 5),none⟩,⟨some 17,.mklit 1 [.t 16],none⟩,⟨some 18,.append 1 8 (.t 15) (.t 17),none⟩,⟨some 4,.mov (.t 18),none⟩])
 .skip))))
 (.reg [⟨some 19,.bin .add (.t 7) (.c (.int .i64 1)),none⟩,⟨some 7,.mov (.t 19),none⟩])))
def a85:AFunc:=⟨21,[.tmp 4],
 .seq (.reg [⟨some 4,.mov (.c (.lit [] true none)),none⟩])
 (.seq (.seq (.reg [⟨some 6,.mov (.t 1),none⟩,⟨some 7,.mov (.c (.int .i64 0)),none⟩])
 (.block 0 (.loop U8)))
 (.seq (.reg [⟨some 20,.mov (.t 4),none⟩,⟨some 4,.mov (.t 20),none⟩])
 (.jump .ret)))⟩
def U7:ACode:=.seq (.reg [⟨some 30,.bin .lss (.t 29) (.t 28),none⟩])
 (.seq (.cond (.t 30) .skip
 (.jump (.exit 0)))
 (.seq (.block 1 (.seq (.reg [⟨some 31,.iaddr none 1 (.t 27) (.t 29),none⟩,⟨some 32,.load none (.t 31),none⟩,⟨some 11,.mov (.t 32),none⟩])
 (.seq (.reg [⟨some 12,.mov (.c (.int .i64 0)),none⟩])
 (.seq (.seq (.reg [⟨some 33,.mov (.t 11),none⟩,⟨some 34,.faddr (.t 5) 2,none⟩,⟨some 35,.load none (.t 34),none⟩,⟨some 36,.mov (.t 0),none⟩,⟨some 37,.iaddr none 5 (.t 35) (.t 36),none⟩,⟨some 38,.faddr (.t 37) 4,none⟩,⟨some 39,.load none (.t 38),none⟩,⟨some 40,.call (.c (.func 88 [] [])) [.t 33,.t 39],none⟩,⟨some 41,.not (.t 40),none⟩])
 (.cond (.t 41) (.reg [⟨some 12,.mov (.c (.int .i64 1)),none⟩])
 .skip))
 (.seq (.reg [⟨some 42,.load none (.t 2),none⟩,⟨some 43,.mov (.t 0),none⟩,⟨some 44,.mov (.t 11),none⟩,⟨some 45,.iaddr none 1 (.t 42) (.t 43),none⟩,⟨none,.store 1 (.t 45) (.t 44),none⟩])
 (.seq (.reg [⟨some 46,.mov (.t 12),none⟩,⟨some 47,.mov (.t 1),none⟩,⟨some 48,.bin .leq (.t 46) (.t 47),none⟩,⟨some 49,.mov (.t 48),none⟩,⟨some 50,.load none (.t 6),(some (49,true))⟩,⟨some 51,.mov (.t 0),(some (49,true))⟩,⟨some 52,.bin .add (.t 51) (.c (.int .i64 1)),(some (49,true))⟩,⟨some 53,.mov (.t 1),(some (49,true))⟩,⟨some 54,.mov (.t 12),(some (49,true))⟩,⟨some 55,.bin .sub (.t 53) (.t 54),(some (49,true))⟩,⟨some 56,.call (.t 50) [.t 52,.t 55],(some (49,true))⟩,⟨some 57,.pick (.t 49) (.t 56) (.c (.bool false)),none⟩])
 (.cond (.t 57) (.seq (.reg [⟨some 9,.mov (.c (.bool true)),none⟩])
 (.jump .ret))
 .skip)))))))
 (.reg [⟨some 58,.bin .add (.t 29) (.c (.int .i64 1)),none⟩,⟨some 29,.mov (.t 58),none⟩])))
def a86:AFunc:=⟨59,[.tmp 9],
 .seq (.reg [⟨some 9,.mov (.c (.bool false)),none⟩])
 (.seq (.seq (.reg [⟨some 13,.mov (.t 0),none⟩,⟨some 14,.load none (.t 2),none⟩,⟨some 15,.len 1 (.t 14),none⟩,⟨some 16,.eql (.one .i) false (.t 13) (.t 15),none⟩])
 (.cond (.t 16) (.seq (.reg [⟨some 17,.mov (.t 1),none⟩,⟨some 18,.eql (.one .i) false (.t 17) (.c (.int .i64 0)),none⟩,⟨some 19,.mov (.t 18),none⟩,⟨some 20,.load none (.t 3),(some (19,true))⟩,⟨some 21,.load none (.t 2),(some (19,true))⟩,⟨some 22,.call (.c (.func 87 [] [])) [.t 20,.t 21],(some (19,true))⟩,⟨some 23,.pick (.t 19) (.t 22) (.c (.bool false)),none⟩,⟨some 9,.mov (.t 23),none⟩])
 (.jump .ret))
 .skip))
 (.seq (.seq (.reg [⟨some 24,.load none (.t 4),none⟩,⟨some 25,.mov (.t 0),none⟩,⟨some 26,.iaddr none 1 (.t 24) (.t 25),none⟩,⟨some 27,.load none (.t 26),none⟩,⟨some 28,.len 1 (.t 27),none⟩,⟨some 29,.mov (.c (.int .i64 0)),none⟩])
 (.block 0 (.loop U7)))
 (.seq (.reg [⟨some 9,.mov (.c (.bool false)),none⟩])
 (.jump .ret))))⟩
def VQ:ACode:=.seq (.reg [⟨some 23,.bin .lss (.t 22) (.t 21),none⟩])
 (.seq (.cond (.t 23) .skip
 (.jump (.exit 2)))
 (.seq (.block 3 (.seq (.reg [⟨some 24,.mov (.t 22),none⟩,⟨some 7,.mov (.t 24),none⟩])
 (.seq (.dreg [⟨⟨some 25,.load none (.t 2),none⟩,0,0⟩,⟨⟨some 26,.mov (.t 7),none⟩,0,0⟩,⟨⟨some 27,.mov (.t 7),none⟩,0,0⟩,⟨⟨some 28,.iaddr (some 3) 1 (.t 6) (.t 27),none⟩,0,0⟩,⟨⟨some 29,.load none (.t 28),none⟩,0,0⟩,⟨⟨some 30,.call (.c (.func 111 [] [])) [.t 25,.t 26,.t 29],none⟩,0,1⟩,⟨⟨some 31,.not (.t 30),none⟩,1,1⟩])
 (.cond (.t 31) (.seq (.reg [⟨none,.store 1 (.t 4) (.c (.bool false)),none⟩])
 (.jump .ret))
 .skip))))
 (.reg [⟨some 32,.bin .add (.t 22) (.c (.int .i64 1)),none⟩,⟨some 22,.mov (.t 32),none⟩])))
def PH:ACode:=.block 1 (.seq (.reg [⟨some 12,.load none (.t 2),none⟩,⟨some 13,.load (some 5) (.t 5),none⟩,⟨some 14,.mkfun 112 [] [.t 3],none⟩,⟨some 15,.call (.c (.func 109 [] [])) [.t 12,.t 13,.t 14],none⟩,⟨some 6,.alloc [.int .i64 0,.int .i64 0,.int .i64 0],none⟩,⟨none,.store 3 (.t 6) (.t 15),none⟩])
 (.seq (.reg [⟨some 16,.load none (.t 2),none⟩,⟨some 17,.nilCheck (.t 16),none⟩,⟨some 18,.faddr (.t 17) 0,none⟩,⟨some 19,.faddr (.t 18) 2,none⟩,⟨some 20,.load none (.t 19),none⟩,⟨some 21,.len 1 (.t 20),none⟩,⟨some 22,.mov (.c (.int .i64 0)),none⟩])
 (.block 2 (.loop VQ))))
def a87:AFunc:=⟨33,[.cell 4 none],
 .seq (.reg [⟨some 2,.box 1 (.t 0),none⟩,⟨some 3,.box 1 (.t 1),none⟩,⟨some 4,.alloc [.bool false],none⟩])
 (.seq (.seq (.reg [⟨some 8,.load none (.t 2),none⟩,⟨some 9,.call (.c (.func 80 [] [])) [.t 8],none⟩])
 (.block 0 (.rangeFunc (.t 9) [10,11] (.reg [⟨some 5,.alloc [.int .i64 0,.int .i64 0,.int .i64 0,.int .i64 0,.int .i64 0],none⟩,⟨none,.store 5 (.t 5) (.t 10),none⟩])
 (PH))))
 (.seq (.reg [⟨none,.store 1 (.t 4) (.c (.bool true)),none⟩])
 (.jump .ret)))⟩
def VD:ACode:=.seq (.reg [⟨some 14,.bin .lss (.t 13) (.t 12),none⟩])
 (.seq (.cond (.t 14) .skip
 (.jump (.exit 0)))
 (.seq (.block 1 (.seq (.reg [⟨some 15,.mov (.t 13),none⟩,⟨some 5,.mov (.t 15),none⟩])
 (.seq (.dreg [⟨⟨some 16,.mov (.t 0),none⟩,0,0⟩,⟨⟨some 17,.mov (.t 5),none⟩,0,0⟩,⟨⟨some 18,.iaddr none 1 (.t 16) (.t 17),none⟩,0,0⟩,⟨⟨some 19,.load none (.t 18),none⟩,0,0⟩,⟨⟨some 20,.mov (.t 1),none⟩,0,0⟩,⟨⟨some 21,.mov (.t 5),none⟩,0,0⟩,⟨⟨some 22,.iaddr none 1 (.t 20) (.t 21),none⟩,0,0⟩,⟨⟨some 23,.load none (.t 22),none⟩,0,0⟩,⟨⟨some 24,.eql (.one .i) true (.t 19) (.t 23),none⟩,0,0⟩])
 (.cond (.t 24) (.seq (.reg [⟨some 4,.mov (.c (.bool false)),none⟩])
 (.jump .ret))
 .skip))))
 (.reg [⟨some 25,.bin .add (.t 13) (.c (.int .i64 1)),none⟩,⟨some 13,.mov (.t 25),none⟩])))
def a88:AFunc:=⟨26,[.tmp 4],
 .seq (.reg [⟨some 4,.mov (.c (.bool false)),none⟩])
 (.seq (.seq (.reg [⟨some 6,.mov (.t 0),none⟩,⟨some 7,.len 1 (.t 6),none⟩,⟨some 8,.mov (.t 1),none⟩,⟨some 9,.len 1 (.t 8),none⟩,⟨some 10,.eql (.one .i) true (.t 7) (.t 9),none⟩])
 (.cond (.t 10) (.seq (.reg [⟨some 4,.mov (.c (.bool false)),none⟩])
 (.jump .ret))
 .skip))
 (.seq (.seq (.reg [⟨some 11,.mov (.t 0),none⟩,⟨some 12,.len 1 (.t 11),none⟩,⟨some 13,.mov (.c (.int .i64 0)),none⟩])
 (.block 0 (.loop VD)))
 (.seq (.reg [⟨some 4,.mov (.c (.bool true)),none⟩])
 (.jump .ret))))⟩
def VV:ACode:=.seq (.reg [⟨some 12,.bin .lss (.t 11) (.t 10),none⟩])
 (.seq (.cond (.t 12) .skip
 (.jump (.exit 0)))
 (.seq (.block 1 (.seq (.reg [⟨some 13,.mov (.t 11),none⟩,⟨some 14,.iaddr none 1 (.t 9) (.t 11),none⟩,⟨some 15,.load none (.t 14),none⟩,⟨some 5,.mov (.t 13),none⟩,⟨some 6,.mov (.t 15),none⟩])
 (.seq (.seq (.reg [⟨some 16,.mov (.t 5),none⟩,⟨some 17,.mov (.t 1),none⟩,⟨some 18,.len 1 (.t 17),none⟩,⟨some 19,.bin .geq (.t 16) (.t 18),none⟩])
 (.cond (.t 19) (.seq (.reg [⟨some 4,.mov (.c (.int .i64 1)),none⟩])
 (.jump .ret))
 .skip))
 (.seq (.reg [⟨some 20,.mov (.t 1),none⟩,⟨some 21,.mov (.t 5),none⟩,⟨some 22,.iaddr none 1 (.t 20) (.t 21),none⟩,⟨some 23,.load none (.t 22),none⟩,⟨some 7,.mov (.t 23),none⟩])
 (.seq (.reg [⟨some 24,.mov (.t 6),none⟩,⟨some 25,.mov (.t 7),none⟩,⟨some 26,.call (.c (.func 113 [] [])) [.t 24,.t 25],none⟩,⟨some 8,.mov (.t 26),none⟩])
 (.seq (.reg [⟨some 27,.mov (.t 8),none⟩,⟨some 28,.eql (.one .i) true (.t 27) (.c (.int .i64 0)),none⟩])
 (.cond (.t 28) (.seq (.reg [⟨some 29,.mov (.t 8),none⟩,⟨some 4,.mov (.t 29),none⟩])
 (.jump .ret))
 .skip)))))))
 (.reg [⟨some 30,.bin .add (.t 11) (.c (.int .i64 1)),none⟩,⟨some 11,.mov (.t 30),none⟩])))
def a91:AFunc:=⟨36,[.tmp 4],
 .seq (.reg [⟨some 4,.mov (.c (.int .i64 0)),none⟩])
 (.seq (.seq (.reg [⟨some 9,.mov (.t 0),none⟩,⟨some 10,.len 1 (.t 9),none⟩,⟨some 11,.mov (.c (.int .i64 0)),none⟩])
 (.block 0 (.loop VV)))
 (.seq (.seq (.reg [⟨some 31,.mov (.t 0),none⟩,⟨some 32,.len 1 (.t 31),none⟩,⟨some 33,.mov (.t 1),none⟩,⟨some 34,.len 1 (.t 33),none⟩,⟨some 35,.bin .lss (.t 32) (.t 34),none⟩])
 (.cond (.t 35) (.seq (.reg [⟨some 4,.mov (.c (.int .i64 (-1))),none⟩])
 (.jump .ret))
 .skip))
 (.seq (.reg [⟨some 4,.mov (.c (.int .i64 0)),none⟩])
 (.jump .ret))))⟩
def a92:AFunc:=⟨10,[.tmp 4],
 .seq (.reg [⟨some 2,.box 4 (.t 0),none⟩,⟨some 4,.mov (.c (.nilPtr)),none⟩])
 (.seq (.reg [⟨some 5,.load (some 4) (.t 2),none⟩,⟨some 6,.mov (.t 1),none⟩,⟨some 7,.mkmap,none⟩,⟨some 8,.build [.int .i64 0,.lit [] true none,.lit [] true none,.lit [] true none,.int .i64 0,.nilMap] [(0,4,(.t 5)),(4,1,(.t 6)),(5,1,(.t 7))],none⟩,⟨some 9,.box 6 (.t 8),none⟩,⟨some 4,.mov (.t 9),none⟩])
 (.jump .ret))⟩
def V9:ACode:=.block 1 (.seq (.reg [⟨none,.store 1 (.t 2) (.c (.bool true)),none⟩])
 (.jump .ret))
def a93:AFunc:=⟨7,[.cell 2 none],
 .seq (.reg [⟨some 2,.alloc [.bool false],none⟩])
 (.seq (.seq (.reg [⟨some 3,.mov (.t 0),none⟩,⟨some 4,.call (.c (.func 80 [] [])) [.t 3],none⟩])
 (.block 0 (.rangeFunc (.t 4) [5,6] .skip
 (V9))))
 (.seq (.reg [⟨none,.store 1 (.t 2) (.c (.bool false)),none⟩])
 (.jump .ret)))⟩
def a97:AFunc:=⟨18,[.tmp 4],
 .seq (.reg [⟨some 2,.box 5 (.t 0),none⟩,⟨some 4,.mov (.c (.int .i64 0)),none⟩])
 (.seq (.seq (.reg [⟨some 5,.mov (.t 1),none⟩])
 (.block 0 (.seq (.reg [⟨some 7,.faddr (.t 2) 0,none⟩,⟨some 8,.load none (.t 7),none⟩,⟨some 9,.eql (.one .i) false (.t 5) (.t 8),none⟩,⟨some 6,.mov (.t 9),none⟩])
 (.cond (.t 6) (.seq (.reg [⟨some 10,.faddr (.t 2) 1,none⟩,⟨some 11,.load none (.t 10),none⟩,⟨some 4,.mov (.t 11),none⟩])
 (.jump .ret))
 (.seq (.reg [⟨some 13,.faddr (.t 2) 1,none⟩,⟨some 14,.load none (.t 13),none⟩,⟨some 15,.eql (.one .i) false (.t 5) (.t 14),none⟩,⟨some 12,.mov (.t 15),none⟩])
 (.cond (.t 12) (.seq (.reg [⟨some 16,.faddr (.t 2) 0,none⟩,⟨some 17,.load none (.t 16),none⟩,⟨some 4,.mov (.t 17),none⟩])
 (.jump .ret))
 .skip))))))
 (.seq (.reg [⟨some 4,.mov (.c (.int .i64 (-1))),none⟩])
 (.jump .ret)))⟩
def a98:AFunc:=⟨9,[.tmp 4],
 .seq (.reg [⟨some 4,.mov (.c (.bool false)),none⟩])
 (.seq (.reg [⟨some 5,.mov (.t 0),none⟩,⟨some 6,.mov (.t 1),none⟩,⟨some 7,.call (.c (.func 114 [] [])) [.t 5,.t 6],none⟩,⟨some 8,.bin .geq (.t 7) (.c (.int .i64 0)),none⟩,⟨some 4,.mov (.t 8),none⟩])
 (.jump .ret))⟩
def a99:AFunc:=⟨13,[.tmp 4],
 .seq (.reg [⟨some 4,.mov (.c (.bool false)),none⟩])
 (.seq (.reg [⟨some 5,.mov (.t 0),none⟩,⟨some 6,.load none (.t 1),none⟩,⟨some 7,.bin .lss (.t 5) (.t 6),none⟩,⟨some 8,.mov (.t 7),none⟩,⟨some 9,.mov (.t 0),(some (8,false))⟩,⟨some 10,.load none (.t 2),(some (8,false))⟩,⟨some 11,.bin .gtr (.t 9) (.t 10),(some (8,false))⟩,⟨some 12,.pick (.t 8) (.c (.bool true)) (.t 11),none⟩,⟨some 4,.mov (.t 12),none⟩])
 (.jump .ret))⟩
def a100:AFunc:=⟨10,[.tmp 6],
 .seq (.reg [⟨some 3,.box 1 (.t 0),none⟩,⟨some 4,.box 1 (.t 1),none⟩,⟨some 6,.mov (.c (.bool false)),none⟩])
 (.seq (.reg [⟨some 7,.mov (.t 2),none⟩,⟨some 8,.mkfun 115 [] [.t 3,.t 4],none⟩,⟨some 9,.call (.c (.func 98 [] [])) [.t 7,.t 8],none⟩,⟨some 6,.mov (.t 9),none⟩])
 (.jump .ret))⟩
def NK:ACode:=.seq (.reg [⟨some 9,.bin .lss (.t 8) (.t 7),none⟩])
 (.seq (.cond (.t 9) .skip
 (.jump (.exit 0)))
 (.seq (.block 1 (.seq (.reg [⟨some 10,.mov (.t 8),none⟩,⟨some 5,.mov (.t 10),none⟩])
 (.seq (.reg [⟨some 11,.mov (.t 1),none⟩,⟨some 12,.mov (.t 0),none⟩,⟨some 13,.mov (.t 5),none⟩,⟨some 14,.iaddr none 5 (.t 12) (.t 13),none⟩,⟨some 15,.load (some 5) (.t 14),none⟩,⟨some 16,.call (.t 11) [.t 15],none⟩])
 (.cond (.t 16) (.seq (.reg [⟨some 17,.mov (.t 5),none⟩,⟨some 4,.mov (.t 17),none⟩])
 (.jump .ret))
 .skip))))
 (.reg [⟨some 18,.bin .add (.t 8) (.c (.int .i64 1)),none⟩,⟨some 8,.mov (.t 18),none⟩])))
def a101:AFunc:=⟨19,[.tmp 4],
 .seq (.reg [⟨some 4,.mov (.c (.int .i64 0)),none⟩])
 (.seq (.seq (.reg [⟨some 6,.mov (.t 0),none⟩,⟨some 7,.len 1 (.t 6),none⟩,⟨some 8,.mov (.c (.int .i64 0)),none⟩])
 (.block 0 (.loop NK)))
 (.seq (.reg [⟨some 4,.mov (.c (.int .i64 (-1))),none⟩])
 (.jump .ret)))⟩
def a102:AFunc:=⟨18,[.tmp 4],
 .seq (.reg [⟨some 2,.box 5 (.t 0),none⟩,⟨some 4,.mov (.c (.int .i64 0)),none⟩])
 (.seq (.seq (.reg [⟨some 5,.mov (.t 1),none⟩])
 (.block 0 (.seq (.reg [⟨some 7,.faddr (.t 2) 0,none⟩,⟨some 8,.load none (.t 7),none⟩,⟨some 9,.eql (.one .i) false (.t 5) (.t 8),none⟩,⟨some 6,.mov (.t 9),none⟩])
 (.cond (.t 6) (.seq (.reg [⟨some 10,.faddr (.t 2) 1,none⟩,⟨some 11,.load none (.t 10),none⟩,⟨some 4,.mov (.t 11),none⟩])
 (.jump .ret))
 (.seq (.reg [⟨some 13,.faddr (.t 2) 1,none⟩,⟨some 14,.load none (.t 13),none⟩,⟨some 15,.eql (.one .i) false (.t 5) (.t 14),none⟩,⟨some 12,.mov (.t 15),none⟩])
 (.cond (.t 12) (.seq (.reg [⟨some 16,.faddr (.t 2) 0,none⟩,⟨some 17,.load none (.t 16),none⟩,⟨some 4,.mov (.t 17),none⟩])
 (.jump .ret))
 .skip))))))
 (.seq (.reg [⟨some 4,.mov (.c (.int .i64 (-1))),none⟩])
 (.jump .ret)))⟩
def a103:AFunc:=⟨26,[.tmp 6],
 .seq (.reg [⟨some 3,.box 2 (.t 0),none⟩,⟨some 6,.mov (.c (.int .i64 0)),none⟩])
 (.seq (.seq (.reg [⟨some 7,.faddr (.t 3) 0,none⟩,⟨some 8,.load none (.t 7),none⟩,⟨some 9,.mov (.t 1),none⟩,⟨some 10,.mov (.t 2),none⟩,⟨some 11,.call (.c (.func 62 [] [])) [.t 8,.t 9,.t 10],none⟩,⟨some 12,.not (.t 11),none⟩,⟨some 13,.mov (.t 12),none⟩,⟨some 14,.faddr (.t 3) 1,(some (13,false))⟩,⟨some 15,.load none (.t 14),(some (13,false))⟩,⟨some 16,.mov (.t 1),(some (13,false))⟩,⟨some 17,.mov (.t 2),(some (13,false))⟩,⟨some 18,.call (.c (.func 62 [] [])) [.t 15,.t 16,.t 17],(some (13,false))⟩,⟨some 19,.not (.t 18),(some (13,false))⟩,⟨some 20,.pick (.t 13) (.c (.bool true)) (.t 19),none⟩])
 (.cond (.t 20) (.seq (.reg [⟨some 6,.mov (.c (.int .i64 7)),none⟩])
 (.jump .ret))
 .skip))
 (.seq (.seq (.reg [⟨some 21,.faddr (.t 3) 1,none⟩,⟨some 22,.load none (.t 21),none⟩,⟨some 23,.faddr (.t 3) 0,none⟩,⟨some 24,.load none (.t 23),none⟩,⟨some 25,.bin .lss (.t 22) (.t 24),none⟩])
 (.cond (.t 25) (.seq (.reg [⟨some 6,.mov (.c (.int .i64 2)),none⟩])
 (.jump .ret))
 .skip))
 (.seq (.reg [⟨some 6,.mov (.c (.int .i64 0)),none⟩])
 (.jump .ret))))⟩
def PT:ACode:=.seq (.seq (.reg [⟨some 6,.mov (.t 5),none⟩,⟨some 7,.mov (.t 0),none⟩,⟨some 8,.len 1 (.t 7),none⟩,⟨some 9,.bin .lss (.t 6) (.t 8),none⟩,⟨some 10,.mov (.t 9),none⟩,⟨some 11,.mov (.t 0),(some (10,true))⟩,⟨some 12,.mov (.t 5),(some (10,true))⟩,⟨some 13,.iaddr none 1 (.t 11) (.t 12),(some (10,true))⟩,⟨some 14,.load none (.t 13),(some (10,true))⟩,⟨some 15,.mov (.t 1),(some (10,true))⟩,⟨some 16,.eql (.one .s) true (.t 14) (.t 15),(some (10,true))⟩,⟨some 17,.pick (.t 10) (.t 16) (.c (.bool false)),none⟩])
 (.cond (.t 17) .skip
 (.jump (.exit 0))))
 (.block 1 (.reg [⟨some 18,.mov (.t 5),none⟩,⟨some 19,.bin .add (.t 18) (.c (.int .i64 1)),none⟩,⟨some 5,.mov (.t 19),none⟩]))
def a104:AFunc:=⟨25,[.tmp 4],
 .seq (.reg [⟨some 4,.mov (.c (.int .i64 0)),none⟩])
 (.seq (.reg [⟨some 5,.mov (.c (.int .i64 0)),none⟩])
 (.seq (.block 0 (.loop PT))
 (.seq (.seq (.reg [⟨some 20,.mov (.t 5),none⟩,⟨some 21,.mov (.t 0),none⟩,⟨some 22,.len 1 (.t 21),none⟩,⟨some 23,.eql (.one .i) false (.t 20) (.t 22),none⟩])
 (.cond (.t 23) (.seq (.reg [⟨some 4,.mov (.c (.int .i64 (-1))),none⟩])
 (.jump .ret))
 .skip))
 (.seq (.reg [⟨some 24,.mov (.t 5),none⟩,⟨some 4,.mov (.t 24),none⟩])
 (.jump .ret)))))⟩
def NQ:ACode:=.seq (.seq (.reg [⟨some 9,.mov (.t 4),none⟩,⟨some 10,.mov (.t 0),none⟩,⟨some 11,.len 0 (.t 10),none⟩,⟨some 12,.bin .lss (.t 9) (.t 11),none⟩])
 (.cond (.t 12) .skip
 (.jump (.exit 0))))
 (.seq (.block 1 (.seq (.reg [⟨some 15,.mov (.t 4),none⟩,⟨some 16,.bin .gtr (.t 15) (.c (.int .i64 0)),none⟩,⟨some 17,.mov (.t 16),none⟩,⟨some 18,.mov (.t 0),(some (17,true))⟩,⟨some 19,.mov (.t 4),(some (17,true))⟩,⟨some 20,.sindex (.t 18) (.t 19),(some (17,true))⟩,⟨some 21,.eql (.one .i) false (.t 20) (.c (.int .u8 46)),(some (17,true))⟩,⟨some 22,.mov (.t 21),(some (17,true))⟩,⟨some 23,.mov (.t 0),(some (22,false))⟩,⟨some 24,.mov (.t 4),(some (22,false))⟩,⟨some 25,.sindex (.t 23) (.t 24),(some (22,false))⟩,⟨some 26,.conv .i64 (.t 25),(some (22,false))⟩,⟨some 27,.call (.c (.func 62 [] [])) [(.t 26),(.c (.int .i64 48)),(.c (.int .i64 57))],(some (22,false))⟩,⟨some 28,.pick (.t 22) (.c (.bool true)) (.t 27),(some (17,true))⟩,⟨some 29,.pick (.t 17) (.t 28) (.c (.bool false)),none⟩,⟨some 5,.mov (.t 29),none⟩])
 (.reg [⟨some 30,.mov (.t 3),none⟩,⟨some 31,.mov (.t 30),none⟩,⟨some 32,.mov (.t 0),(some (31,true))⟩,⟨some 33,.mov (.t 4),(some (31,true))⟩,⟨some 34,.sindex (.t 32) (.t 33),(some (31,true))⟩,⟨some 35,.conv .i64 (.t 34),(some (31,true))⟩,⟨some 36,.call (.c (.func 62 [] [])) [(.t 35),(.c (.int .i64 97)),(.c (.int .i64 122))],(some (31,true))⟩,⟨some 37,.mov (.t 36),(some (31,true))⟩,⟨some 38,.mov (.t 5),(some (37,false))⟩,⟨some 39,.pick (.t 37) (.c (.bool true)) (.t 38),(some (31,true))⟩,⟨some 40,.pick (.t 31) (.t 39) (.c (.bool false)),none⟩,⟨some 3,.mov (.t 40),none⟩])))
 (.reg [⟨some 13,.mov (.t 4),none⟩,⟨some 14,.bin .add (.t 13) (.c (.int .i64 1)),none⟩,⟨some 4,.mov (.t 14),none⟩]))
def a105:AFunc:=⟨42,[.tmp 2],
 .seq (.reg [⟨some 2,.mov (.c (.bool false)),none⟩])
 (.seq (.reg [⟨some 6,.mov (.t 0),none⟩,⟨some 7,.len 0 (.t 6),none⟩,⟨some 8,.call (.c (.func 62 [] [])) [(.t 7),(.c (.int .i64 1)),(.c (.int .i64 16))],none⟩,⟨some 3,.mov (.t 8),none⟩])
 (.seq (.seq (.reg [⟨some 4,.mov (.c (.int .i64 0)),none⟩])
 (.block 0 (.loop NQ)))
 (.seq (.reg [⟨some 41,.mov (.t 3),none⟩,⟨some 2,.mov (.t 41),none⟩])
 (.jump .ret))))⟩
def a106:AFunc:=⟨12,[],
 .seq (.reg [⟨some 2,.box 1 (.t 0),none⟩])
 (.seq (.reg [⟨some 3,.alloc [.int .i64 0,.int .i64 0,.int .i64 0,.int .i64 0,.int .i64 0],none⟩,⟨some 4,.alloc [.int .i64 0,.int .i64 0,.int .i64 0,.int .i64 0,.int .i64 0],none⟩])
 (.seq (.reg [⟨some 5,.alloc [.bool false],none⟩,⟨none,.store 1 (.t 5) (.c (.bool true)),none⟩])
 (.seq (.reg [⟨some 8,.call (.c (.func 107 [] [])) [],none⟩,⟨some 6,.alloc [.nilFunc,.nilFunc,.nilFunc],none⟩,⟨none,.store 3 (.t 6) (.t 8),none⟩])
 (.seq (.reg [⟨some 7,.alloc [.nilFunc],none⟩])
 (.seq (.reg [⟨some 9,.mkfun 108 [] [.t 1,.t 3,.t 4,.t 5,.t 2,.t 6,.t 7],none⟩,⟨none,.store 1 (.t 7) (.t 9),none⟩])
 (.reg [⟨some 10,.load none (.t 7),none⟩,⟨some 11,.call (.t 10) [(.c (.int .i64 0))],none⟩]))))))⟩
def a107:AFunc:=⟨8,[.cell 0 (some 3)],
 .seq (.reg [⟨some 0,.alloc [.nilFunc,.nilFunc,.nilFunc],none⟩])
 (.seq (.reg [⟨some 1,.build [.nilFunc] [(0,1,(.c (.func 116 [] [])))],none⟩,⟨some 2,.iaddr (some 3) 1 (.t 0) (.c (.int .i64 0)),none⟩,⟨none,.store 1 (.t 2) (.t 1),none⟩])
 (.seq (.reg [⟨some 3,.build [.nilFunc] [(0,1,(.c (.func 117 [] [])))],none⟩,⟨some 4,.iaddr (some 3) 1 (.t 0) (.c (.int .i64 1)),none⟩,⟨none,.store 1 (.t 4) (.t 3),none⟩])
 (.seq (.reg [⟨some 5,.build [.nilFunc] [(0,1,(.c (.func 118 [] [])))],none⟩,⟨some 6,.iaddr (some 3) 1 (.t 0) (.c (.int .i64 2)),none⟩,⟨none,.store 1 (.t 6) (.t 5),none⟩])
 (.seq (.reg [⟨some 7,.load (some 3) (.t 0),none⟩,⟨none,.store 3 (.t 0) (.t 7),none⟩])
 (.jump .ret)))))⟩
def CA:ACode:=.seq (.reg [⟨some 61,.bin .lss (.t 60) (.t 59),none⟩])
 (.seq (.cond (.t 61) .skip
 (.jump (.exit 0)))
 (.seq (.block 1 (.seq (.reg [⟨some 62,.mov (.t 60),none⟩,⟨some 63,.iaddr none 2 (.t 58) (.t 60),none⟩,⟨some 64,.load (some 2) (.t 63),none⟩,⟨some 13,.alloc [.int .i64 0,.int .i64 0],none⟩,⟨some 12,.mov (.t 62),none⟩,⟨none,.store 2 (.t 13) (.t 64),none⟩])
 (.seq (.dreg [⟨⟨some 65,.load none (.t 1),none⟩,0,0⟩,⟨⟨some 66,.nilCheck (.t 65),none⟩,0,0⟩,⟨⟨some 67,.faddr (.t 66) 4,none⟩,0,0⟩,⟨⟨some 68,.load none (.t 67),none⟩,0,0⟩,⟨⟨some 69,.mov (.t 12),none⟩,0,0⟩,⟨⟨some 70,.bin .shr (.t 68) (.t 69),none⟩,0,0⟩,⟨⟨some 71,.bin .and (.t 70) (.c (.int .i64 1)),none⟩,0,0⟩,⟨⟨some 72,.eql (.one .i) false (.t 71) (.c (.int .i64 0)),none⟩,0,0⟩,⟨⟨some 73,.mov (.t 72),none⟩,0,0⟩,⟨⟨some 74,.faddr (.t 13) 0,(some (73,true))⟩,0,0⟩,⟨⟨some 75,.load none (.t 74),(some (73,true))⟩,0,0⟩,⟨⟨some 76,.iaddr (some 3) 1 (.t 10) (.t 75),(some (73,true))⟩,0,0⟩,⟨⟨some 77,.load none (.t 76),(some (73,true))⟩,0,0⟩,⟨⟨some 78,.faddr (.t 13) 1,(some (73,true))⟩,0,0⟩,⟨⟨some 79,.load none (.t 78),(some (73,true))⟩,0,0⟩,⟨⟨some 80,.eql (.one .i) true (.t 77) (.t 79),(some (73,true))⟩,0,0⟩,⟨⟨some 81,.pick (.t 73) (.t 80) (.c (.bool false)),none⟩,0,0⟩])
 (.cond (.t 81) (.seq (.reg [⟨some 9,.mov (.c (.bool true)),none⟩])
 (.jump .ret))
 .skip))))
 (.reg [⟨some 82,.bin .add (.t 60) (.c (.int .i64 1)),none⟩,⟨some 60,.mov (.t 82),none⟩])))
def y3:ACode:=.seq (.seq (.reg [⟨some 111,.mov (.t 15),none⟩,⟨some 112,.faddr (.t 14) 2,none⟩,⟨some 113,.faddr (.t 112) 1,none⟩,⟨some 114,.load none (.t 113),none⟩,⟨some 115,.bin .leq (.t 111) (.t 114),none⟩,⟨some 116,.mov (.t 115),none⟩,⟨some 117,.faddr (.t 14) 4,(some (116,true))⟩,⟨some 118,.load none (.t 117),(some (116,true))⟩,⟨some 119,.iaddr (some 3) 1 (.t 6) (.t 118),(some (116,true))⟩,⟨some 120,.faddr (.t 119) 0,(some (116,true))⟩,⟨some 121,.load none (.t 120),(some (116,true))⟩,⟨some 122,.call (.t 121) [(.c (.bool false))],(some (116,true))⟩,⟨some 123,.pick (.t 116) (.t 122) (.c (.bool false)),none⟩])
 (.cond (.t 123) .skip
 (.jump (.exit 2))))
 (.seq (.block 3 (.seq (.reg [⟨some 126,.mov (.t 0),none⟩,⟨some 127,.mov (.t 15),none⟩,⟨some 128,.iaddr (some 5) 1 (.t 2) (.t 126),none⟩,⟨none,.store 1 (.t 128) (.t 127),none⟩])
 (.seq (.reg [⟨some 129,.load none (.t 7),none⟩,⟨some 130,.mov (.t 0),none⟩,⟨some 131,.bin .add (.t 130) (.c (.int .i64 1)),none⟩,⟨some 132,.call (.t 129) [.t 131],none⟩,⟨some 133,.not (.t 132),none⟩])
 (.cond (.t 133) (.seq (.reg [⟨some 9,.mov (.c (.bool false)),none⟩])
 (.jump .ret))
 .skip))))
 (.reg [⟨some 124,.mov (.t 15),none⟩,⟨some 125,.bin .add (.t 124) (.c (.int .i64 1)),none⟩,⟨some 15,.mov (.t 125),none⟩]))
def a108:AFunc:=⟨136,[.tmp 9],
 .seq (.reg [⟨some 9,.mov (.c (.bool false)),none⟩])
 (.seq (.seq (.reg [⟨some 16,.mov (.t 0),none⟩,⟨some 17,.load none (.t 1),none⟩,⟨some 18,.nilCheck (.t 17),none⟩,⟨some 19,.faddr (.t 18) 0,none⟩,⟨some 20,.faddr (.t 19) 1,none⟩,⟨some 21,.load none (.t 20),none⟩,⟨some 22,.len 1 (.t 21),none⟩,⟨some 23,.eql (.one .i) false (.t 16) (.t 22),none⟩])
 (.cond (.t 23) (.seq (.seq (.reg [⟨some 24,.load (some 5) (.t 2),none⟩,⟨some 25,.load (some 5) (.t 3),none⟩,⟨some 26,.eql (.agg [.i,.i,.i,.i,.i]) false (.t 24) (.t 25),none⟩,⟨some 27,.mov (.t 26),none⟩,⟨some 28,.load none (.t 4),(some (27,true))⟩,⟨some 29,.not (.t 28),(some (27,true))⟩,⟨some 30,.pick (.t 27) (.t 29) (.c (.bool false)),none⟩])
 (.cond (.t 30) (.seq (.reg [⟨some 9,.mov (.c (.bool true)),none⟩])
 (.jump .ret))
 .skip))
 (.seq (.dreg [⟨⟨some 31,.load (some 5) (.t 2),none⟩,0,1⟩,⟨⟨none,.store 1 (.t 4) (.c (.bool false)),none⟩,0,1⟩,⟨⟨none,.store 5 (.t 3) (.t 31),none⟩,1,2⟩])
 (.seq (.dreg [⟨⟨some 33,.load none (.t 1),none⟩,0,0⟩,⟨⟨some 34,.nilCheck (.t 33),none⟩,0,0⟩,⟨⟨some 35,.faddr (.t 34) 5,none⟩,0,0⟩,⟨⟨some 36,.load none (.t 35),none⟩,0,0⟩,⟨⟨some 37,.load (some 5) (.t 2),none⟩,0,0⟩,⟨⟨some 38,.lookup (.agg [.i,.i,.i,.i,.i]) true (.agg [.int .i64 0,.int .i64 0,.int .i64 0]) (.t 36) (.t 37),none⟩,0,0⟩,⟨⟨some 32,.mov (.t 38),none⟩,0,0⟩,⟨⟨some 39,.ext (.t 32) 0,none⟩,0,0⟩,⟨⟨some 40,.ext (.t 32) 1,none⟩,0,1⟩,⟨⟨some 10,.alloc [.int .i64 0,.int .i64 0,.int .i64 0],none⟩,0,0⟩,⟨⟨none,.store 3 (.t 10) (.t 39),none⟩,0,1⟩,⟨⟨some 11,.mov (.t 40),none⟩,1,1⟩])
 (.seq (.seq (.reg [⟨some 41,.mov (.t 11),none⟩,⟨some 42,.not (.t 41),none⟩])
 (.cond (.t 42) (.seq (.reg [⟨some 43,.load none (.t 1),none⟩,⟨some 44,.load (some 5) (.t 2),none⟩,⟨some 45,.load none (.t 1),none⟩,⟨some 46,.mkfun 110 [.t 45] [],none⟩,⟨some 47,.call (.c (.func 109 [] [])) [.t 43,.t 44,.t 46],none⟩,⟨none,.store 3 (.t 10) (.t 47),none⟩])
 (.dreg [⟨⟨some 48,.load none (.t 1),none⟩,0,0⟩,⟨⟨some 49,.nilCheck (.t 48),none⟩,0,0⟩,⟨⟨some 50,.faddr (.t 49) 5,none⟩,0,0⟩,⟨⟨some 51,.load none (.t 50),none⟩,0,0⟩,⟨⟨some 52,.load (some 5) (.t 2),none⟩,0,0⟩,⟨⟨some 53,.load (some 3) (.t 10),none⟩,0,0⟩,⟨⟨none,.mapset (.agg [.i,.i,.i,.i,.i]) (.t 51) (.t 52) (.t 53),none⟩,0,1⟩]))
 .skip))
 (.seq (.seq (.reg [⟨some 54,.load none (.t 1),none⟩,⟨some 55,.nilCheck (.t 54),none⟩,⟨some 56,.faddr (.t 55) 0,none⟩,⟨some 57,.faddr (.t 56) 3,none⟩,⟨some 58,.load none (.t 57),none⟩,⟨some 59,.len 1 (.t 58),none⟩,⟨some 60,.mov (.c (.int .i64 0)),none⟩])
 (.block 0 (.loop CA)))
 (.seq (.reg [⟨some 83,.load none (.t 5),none⟩,⟨some 84,.load (some 5) (.t 2),none⟩,⟨some 85,.load (some 3) (.t 10),none⟩,⟨some 86,.call (.t 83) [.t 84,.t 85],none⟩,⟨some 9,.mov (.t 86),none⟩])
 (.jump .ret)))))))
 .skip))
 (.seq (.reg [⟨some 87,.load none (.t 1),none⟩,⟨some 88,.nilCheck (.t 87),none⟩,⟨some 89,.faddr (.t 88) 0,none⟩,⟨some 90,.faddr (.t 89) 1,none⟩,⟨some 91,.load none (.t 90),none⟩,⟨some 92,.mov (.t 0),none⟩,⟨some 93,.iaddr none 5 (.t 91) (.t 92),none⟩,⟨some 94,.load (some 5) (.t 93),none⟩,⟨some 14,.alloc [.int .i64 0,.int .i64 0,.int .i64 0,.int .i64 0,.int .i64 0],none⟩,⟨none,.store 5 (.t 14) (.t 94),none⟩])
 (.seq (.seq (.reg [⟨some 95,.faddr (.t 14) 4,none⟩,⟨some 96,.load none (.t 95),none⟩,⟨some 97,.iaddr (some 3) 1 (.t 6) (.t 96),none⟩,⟨some 98,.faddr (.t 97) 0,none⟩,⟨some 99,.load none (.t 98),none⟩,⟨some 100,.call (.t 99) [(.c (.bool true))],none⟩])
 (.cond (.t 100) (.seq (.reg [⟨some 101,.mov (.t 0),none⟩,⟨some 102,.iaddr (some 5) 1 (.t 2) (.t 101),none⟩,⟨none,.store 1 (.t 102) (.c (.int .i64 0)),none⟩])
 (.seq (.reg [⟨some 103,.load none (.t 7),none⟩,⟨some 104,.mov (.t 0),none⟩,⟨some 105,.bin .add (.t 104) (.c (.int .i64 1)),none⟩,⟨some 106,.call (.t 103) [.t 105],none⟩,⟨some 107,.not (.t 106),none⟩])
 (.cond (.t 107) (.seq (.reg [⟨some 9,.mov (.c (.bool false)),none⟩])
 (.jump .ret))
 .skip)))
 .skip))
 (.seq (.seq (.reg [⟨some 108,.faddr (.t 14) 2,none⟩,⟨some 109,.faddr (.t 108) 0,none⟩,⟨some 110,.load none (.t 109),none⟩,⟨some 15,.mov (.t 110),none⟩])
 (.block 2 (.loop y3)))
 (.seq (.reg [⟨some 134,.mov (.t 0),none⟩,⟨some 135,.iaddr (some 5) 1 (.t 2) (.t 134),none⟩,⟨none,.store 1 (.t 135) (.c (.int .i64 0)),none⟩])
 (.seq (.reg [⟨some 9,.mov (.c (.bool true)),none⟩])
 (.jump .ret)))))))⟩
def GW:ACode:=.seq (.reg [⟨some 40,.bin .lss (.t 39) (.t 38),none⟩])
 (.seq (.cond (.t 40) .skip
 (.jump (.exit 2)))
 (.seq (.block 3 (.seq (.reg [⟨some 41,.iaddr none 1 (.t 37) (.t 39),none⟩,⟨some 42,.load none (.t 41),none⟩,⟨some 12,.mov (.t 42),none⟩])
 (.seq (.dreg [⟨⟨some 43,.mov (.t 7),none⟩,0,0⟩,⟨⟨some 44,.mov (.t 12),none⟩,0,0⟩,⟨⟨some 45,.mov (.t 8),none⟩,0,0⟩,⟨⟨some 46,.iaddr (some 3) 1 (.t 6) (.t 45),none⟩,0,0⟩,⟨⟨some 47,.load none (.t 46),none⟩,0,0⟩,⟨⟨some 48,.mov (.t 8),none⟩,0,0⟩,⟨⟨some 49,.iaddr (some 3) 1 (.t 6) (.t 48),none⟩,0,0⟩,⟨⟨some 50,.load none (.t 49),none⟩,0,0⟩,⟨⟨some 51,.mov (.t 12),none⟩,0,0⟩,⟨⟨some 52,.iaddr (some 5) 1 (.t 4) (.t 51),none⟩,0,0⟩,⟨⟨some 53,.load none (.t 52),none⟩,0,0⟩,⟨⟨some 54,.bin .add (.t 50) (.t 53),none⟩,0,0⟩,⟨⟨some 55,.build [.int .i64 0,.int .i64 0,.int .i64 0] [(0,1,(.t 44)),(1,1,(.t 47)),(2,1,(.t 54))],none⟩,0,0⟩,⟨⟨some 56,.call (.c (.func 120 [] [])) [.t 43,.t 55],none⟩,0,1⟩,⟨⟨some 13,.mov (.t 56),none⟩,1,1⟩])
 (.seq (.reg [⟨some 57,.mov (.t 8),none⟩,⟨some 58,.mov (.t 13),none⟩,⟨some 59,.mov (.t 12),none⟩,⟨some 60,.iaddr (some 5) 1 (.t 4) (.t 59),none⟩,⟨some 61,.load none (.t 60),none⟩,⟨some 62,.bin .add (.t 58) (.t 61),none⟩,⟨some 63,.iaddr (some 3) 1 (.t 6) (.t 57),none⟩,⟨none,.store 1 (.t 63) (.t 62),none⟩])
 (.reg [⟨some 64,.mov (.t 7),none⟩,⟨some 65,.mov (.t 12),none⟩,⟨some 66,.mov (.t 13),none⟩,⟨some 67,.mov (.t 8),none⟩,⟨some 68,.iaddr (some 3) 1 (.t 6) (.t 67),none⟩,⟨some 69,.load none (.t 68),none⟩,⟨some 70,.build [.int .i64 0,.int .i64 0,.int .i64 0] [(0,1,(.t 65)),(1,1,(.t 66)),(2,1,(.t 69))],none⟩,⟨some 71,.mklit 3 [.t 70],none⟩,⟨some 72,.append 3 24 (.t 64) (.t 71),none⟩,⟨some 7,.mov (.t 72),none⟩])))))
 (.reg [⟨some 73,.bin .add (.t 39) (.c (.int .i64 1)),none⟩,⟨some 39,.mov (.t 73),none⟩])))
def QI:ACode:=.seq (.reg [⟨some 21,.bin .lss (.t 20) (.t 19),none⟩])
 (.seq (.cond (.t 21) .skip
 (.jump (.exit 0)))
 (.seq (.block 1 (.seq (.reg [⟨some 22,.mov (.t 20),none⟩,⟨some 23,.iaddr none 5 (.t 18) (.t 20),none⟩,⟨some 24,.load (some 5) (.t 23),none⟩,⟨some 9,.alloc [.str ⟨#[]⟩,.int .i64 0,.int .i64 0,.int .i64 0,.lit [] true none],none⟩,⟨some 8,.mov (.t 22),none⟩,⟨none,.store 5 (.t 9) (.t 24),none⟩])
 (.seq (.reg [⟨some 25,.mov (.t 8),none⟩,⟨some 26,.faddr (.t 9) 2,none⟩,⟨some 27,.load none (.t 26),none⟩,⟨some 28,.iaddr (some 3) 1 (.t 6) (.t 25),none⟩,⟨none,.store 1 (.t 28) (.t 27),none⟩])
 (.seq (.reg [⟨some 29,.mov (.t 2),none⟩,⟨some 30,.mov (.t 8),none⟩,⟨some 31,.call (.t 29) [.t 30],none⟩,⟨some 10,.mov (.t 31),none⟩])
 (.seq (.seq (.reg [⟨some 32,.mov (.t 10),none⟩,⟨some 33,.mkfun 119 [] [.t 4],none⟩,⟨some 34,.call (.c (.func 98 [] [])) [.t 32,.t 33],none⟩])
 (.cond (.t 34) (.seq (.reg [⟨some 35,.mov (.t 8),none⟩,⟨some 36,.iaddr (some 3) 1 (.t 6) (.t 35),none⟩,⟨none,.store 1 (.t 36) (.c (.int .i64 (-1))),none⟩])
 (.jump (.exit 1)))
 .skip))
 (.seq (.reg [⟨some 37,.mov (.t 10),none⟩,⟨some 38,.len 1 (.t 37),none⟩,⟨some 39,.mov (.c (.int .i64 0)),none⟩])
 (.block 2 (.loop GW))))))))
 (.reg [⟨some 74,.bin .add (.t 20) (.c (.int .i64 1)),none⟩,⟨some 20,.mov (.t 74),none⟩])))
def a109:AFunc:=⟨76,[.cell 6 (some 3)],
 .seq (.reg [⟨some 4,.box 5 (.t 1),none⟩,⟨some 6,.alloc [.int .i64 0,.int .i64 0,.int .i64 0],none⟩])
 (.seq (.reg [⟨some 7,.mov (.c (.lit [] true none)),none⟩])
 (.seq (.seq (.reg [⟨some 14,.mov (.t 0),none⟩,⟨some 15,.nilCheck (.t 14),none⟩,⟨some 16,.faddr (.t 15) 0,none⟩,⟨some 17,.faddr (.t 16) 2,none⟩,⟨some 18,.load none (.t 17),none⟩,⟨some 19,.len 1 (.t 18),none⟩,⟨some 20,.mov (.c (.int .i64 0)),none⟩])
 (.block 0 (.loop QI)))
 (.seq (.reg [⟨some 75,.load (some 3) (.t 6),none⟩,⟨none,.store 3 (.t 6) (.t 75),none⟩])
 (.jump .ret))))⟩
def a110:AFunc:=⟨14,[.tmp 4],
 .seq (.reg [⟨some 4,.mov (.c (.lit [] true none)),none⟩])
 (.seq (.reg [⟨some 5,.mov (.t 0),none⟩,⟨some 6,.nilCheck (.t 5),none⟩,⟨some 7,.faddr (.t 6) 0,none⟩,⟨some 8,.faddr (.t 7) 2,none⟩,⟨some 9,.load none (.t 8),none⟩,⟨some 10,.mov (.t 1),none⟩,⟨some 11,.iaddr none 5 (.t 9) (.t 10),none⟩,⟨some 12,.faddr (.t 11) 4,none⟩,⟨some 13,.load none (.t 12),none⟩,⟨some 4,.mov (.t 13),none⟩])
 (.jump .ret))⟩
def a111:AFunc:=⟨22,[.tmp 6],
 .seq (.reg [⟨some 6,.mov (.c (.bool false)),none⟩])
 (.seq (.reg [⟨some 7,.mov (.t 2),none⟩,⟨some 8,.eql (.one .i) true (.t 7) (.c (.int .i64 (-1))),none⟩,⟨some 9,.mov (.t 8),none⟩,⟨some 10,.mov (.t 2),(some (9,true))⟩,⟨some 11,.mov (.t 0),(some (9,true))⟩,⟨some 12,.nilCheck (.t 11),(some (9,true))⟩,⟨some 13,.faddr (.t 12) 0,(some (9,true))⟩,⟨some 14,.faddr (.t 13) 2,(some (9,true))⟩,⟨some 15,.load none (.t 14),(some (9,true))⟩,⟨some 16,.mov (.t 1),(some (9,true))⟩,⟨some 17,.iaddr none 5 (.t 15) (.t 16),(some (9,true))⟩,⟨some 18,.faddr (.t 17) 3,(some (9,true))⟩,⟨some 19,.load none (.t 18),(some (9,true))⟩,⟨some 20,.bin .leq (.t 10) (.t 19),(some (9,true))⟩,⟨some 21,.pick (.t 9) (.t 20) (.c (.bool false)),none⟩,⟨some 6,.mov (.t 21),none⟩])
 (.jump .ret))⟩
def a112:AFunc:=⟨8,[.tmp 3],
 .seq (.reg [⟨some 3,.mov (.c (.lit [] true none)),none⟩])
 (.seq (.reg [⟨some 4,.load none (.t 1),none⟩,⟨some 5,.mov (.t 0),none⟩,⟨some 6,.iaddr none 1 (.t 4) (.t 5),none⟩,⟨some 7,.load none (.t 6),none⟩,⟨some 3,.mov (.t 7),none⟩])
 (.jump .ret))⟩
def a113:AFunc:=⟨20,[.tmp 4],
 .seq (.reg [⟨some 4,.mov (.c (.int .i64 0)),none⟩])
 (.seq (.reg [⟨some 7,.mov (.t 0),none⟩,⟨some 8,.call (.c (.func 121 [] [])) [.t 7],none⟩,⟨some 5,.mov (.t 8),none⟩])
 (.seq (.reg [⟨some 9,.mov (.t 1),none⟩,⟨some 10,.call (.c (.func 121 [] [])) [.t 9],none⟩,⟨some 6,.mov (.t 10),none⟩])
 (.seq (.seq (.reg [⟨some 11,.mov (.t 5),none⟩])
 (.cond (.t 11) (.seq (.seq (.reg [⟨some 12,.mov (.t 6),none⟩])
 (.cond (.t 12) (.seq (.reg [⟨some 4,.mov (.c (.int .i64 0)),none⟩])
 (.jump .ret))
 .skip))
 (.seq (.reg [⟨some 4,.mov (.c (.int .i64 (-1))),none⟩])
 (.jump .ret)))
 .skip))
 (.seq (.seq (.reg [⟨some 13,.mov (.t 6),none⟩])
 (.cond (.t 13) (.seq (.reg [⟨some 4,.mov (.c (.int .i64 1)),none⟩])
 (.jump .ret))
 .skip))
 (.seq (.seq (.reg [⟨some 14,.mov (.t 0),none⟩,⟨some 15,.mov (.t 1),none⟩,⟨some 16,.bin .lss (.t 14) (.t 15),none⟩])
 (.cond (.t 16) (.seq (.reg [⟨some 4,.mov (.c (.int .i64 (-1))),none⟩])
 (.jump .ret))
 .skip))
 (.seq (.seq (.reg [⟨some 17,.mov (.t 0),none⟩,⟨some 18,.mov (.t 1),none⟩,⟨some 19,.bin .gtr (.t 17) (.t 18),none⟩])
 (.cond (.t 19) (.seq (.reg [⟨some 4,.mov (.c (.int .i64 1)),none⟩])
 (.jump .ret))
 .skip))
 (.seq (.reg [⟨some 4,.mov (.c (.int .i64 0)),none⟩])
 (.jump .ret))))))))⟩
def PG:ACode:=.seq (.reg [⟨some 9,.bin .lss (.t 8) (.t 7),none⟩])
 (.seq (.cond (.t 9) .skip
 (.jump (.exit 0)))
 (.seq (.block 1 (.seq (.reg [⟨some 10,.mov (.t 8),none⟩,⟨some 5,.mov (.t 10),none⟩])
 (.seq (.reg [⟨some 11,.mov (.t 1),none⟩,⟨some 12,.mov (.t 0),none⟩,⟨some 13,.mov (.t 5),none⟩,⟨some 14,.iaddr none 1 (.t 12) (.t 13),none⟩,⟨some 15,.load none (.t 14),none⟩,⟨some 16,.call (.t 11) [.t 15],none⟩])
 (.cond (.t 16) (.seq (.reg [⟨some 17,.mov (.t 5),none⟩,⟨some 4,.mov (.t 17),none⟩])
 (.jump .ret))
 .skip))))
 (.reg [⟨some 18,.bin .add (.t 8) (.c (.int .i64 1)),none⟩,⟨some 8,.mov (.t 18),none⟩])))
def a114:AFunc:=⟨19,[.tmp 4],
 .seq (.reg [⟨some 4,.mov (.c (.int .i64 0)),none⟩])
 (.seq (.seq (.reg [⟨some 6,.mov (.t 0),none⟩,⟨some 7,.len 1 (.t 6),none⟩,⟨some 8,.mov (.c (.int .i64 0)),none⟩])
 (.block 0 (.loop PG)))
 (.seq (.reg [⟨some 4,.mov (.c (.int .i64 (-1))),none⟩])
 (.jump .ret)))⟩
def a115:AFunc:=⟨13,[.tmp 4],
 .seq (.reg [⟨some 4,.mov (.c (.bool false)),none⟩])
 (.seq (.reg [⟨some 5,.mov (.t 0),none⟩,⟨some 6,.load none (.t 1),none⟩,⟨some 7,.bin .lss (.t 5) (.t 6),none⟩,⟨some 8,.mov (.t 7),none⟩,⟨some 9,.mov (.t 0),(some (8,false))⟩,⟨some 10,.load none (.t 2),(some (8,false))⟩,⟨some 11,.bin .gtr (.t 9) (.t 10),(some (8,false))⟩,⟨some 12,.pick (.t 8) (.c (.bool true)) (.t 11),none⟩,⟨some 4,.mov (.t 12),none⟩])
 (.jump .ret))⟩
def a116:AFunc:=⟨5,[.tmp 2],
 .seq (.reg [⟨some 2,.mov (.c (.bool false)),none⟩])
 (.seq (.reg [⟨some 3,.mov (.t 0),none⟩,⟨some 4,.not (.t 3),none⟩,⟨some 2,.mov (.t 4),none⟩])
 (.jump .ret))⟩
def a117:AFunc:=⟨4,[.tmp 2],
 .seq (.reg [⟨some 2,.mov (.c (.bool false)),none⟩])
 (.seq (.reg [⟨some 3,.mov (.t 0),none⟩,⟨some 2,.mov (.t 3),none⟩])
 (.jump .ret))⟩
def a118:AFunc:=⟨3,[.tmp 2],
 .seq (.reg [⟨some 2,.mov (.c (.bool false)),none⟩])
 (.seq (.reg [⟨some 2,.mov (.c (.bool true)),none⟩])
 (.jump .ret))⟩
def a119:AFunc:=⟨8,[.tmp 3],
 .seq (.reg [⟨some 3,.mov (.c (.bool false)),none⟩])
 (.seq (.reg [⟨some 4,.mov (.t 0),none⟩,⟨some 5,.iaddr (some 5) 1 (.t 1) (.t 4),none⟩,⟨some 6,.load none (.t 5),none⟩,⟨some 7,.eql (.one .i) false (.t 6) (.c (.int .i64 0)),none⟩,⟨some 3,.mov (.t 7),none⟩])
 (.jump .ret))⟩
def M5:ACode:=.seq (.reg [⟨some 13,.bin .lss (.t 12) (.t 11),none⟩])
 (.seq (.cond (.t 13) .skip
 (.jump (.exit 2)))
 (.seq (.block 3 (.seq (.reg [⟨some 14,.iaddr none 3 (.t 10) (.t 12),none⟩,⟨some 15,.load (some 3) (.t 14),none⟩,⟨some 7,.alloc [.int .i64 0,.int .i64 0,.int .i64 0],none⟩,⟨none,.store 3 (.t 7) (.t 15),none⟩])
 (.seq (.reg [⟨some 16,.faddr (.t 7) 0,none⟩,⟨some 17,.load none (.t 16),none⟩,⟨some 18,.faddr (.t 3) 0,none⟩,⟨some 19,.load none (.t 18),none⟩,⟨some 20,.eql (.one .i) false (.t 17) (.t 19),none⟩,⟨some 21,.mov (.t 20),none⟩,⟨some 22,.faddr (.t 7) 1,(some (21,true))⟩,⟨some 23,.load none (.t 22),(some (21,true))⟩,⟨some 24,.faddr (.t 3) 2,(some (21,true))⟩,⟨some 25,.load none (.t 24),(some (21,true))⟩,⟨some 26,.bin .lss (.t 23) (.t 25),(some (21,true))⟩,⟨some 27,.pick (.t 21) (.t 26) (.c (.bool false)),none⟩,⟨some 28,.mov (.t 27),none⟩,⟨some 29,.faddr (.t 7) 2,(some (28,true))⟩,⟨some 30,.load none (.t 29),(some (28,true))⟩,⟨some 31,.faddr (.t 3) 1,(some (28,true))⟩,⟨some 32,.load none (.t 31),(some (28,true))⟩,⟨some 33,.bin .gtr (.t 30) (.t 32),(some (28,true))⟩,⟨some 34,.pick (.t 28) (.t 33) (.c (.bool false)),none⟩])
 (.cond (.t 34) (.seq (.reg [⟨some 35,.faddr (.t 3) 2,none⟩,⟨some 36,.load none (.t 35),none⟩,⟨some 37,.faddr (.t 3) 1,none⟩,⟨some 38,.load none (.t 37),none⟩,⟨some 39,.bin .sub (.t 36) (.t 38),none⟩,⟨some 8,.mov (.t 39),none⟩])
 (.dreg [⟨⟨some 40,.faddr (.t 7) 2,none⟩,0,0⟩,⟨⟨some 41,.load none (.t 40),none⟩,0,0⟩,⟨⟨some 42,.faddr (.t 7) 2,none⟩,0,1⟩,⟨⟨some 43,.load none (.t 42),none⟩,0,1⟩,⟨⟨some 44,.mov (.t 8),none⟩,0,1⟩,⟨⟨some 45,.bin .add (.t 43) (.t 44),none⟩,0,1⟩,⟨⟨some 46,.faddr (.t 3) 1,none⟩,0,0⟩,⟨⟨none,.store 1 (.t 46) (.t 41),none⟩,0,1⟩,⟨⟨some 47,.faddr (.t 3) 2,none⟩,1,1⟩,⟨⟨none,.store 1 (.t 47) (.t 45),none⟩,1,2⟩]))
 .skip))))
 (.reg [⟨some 48,.bin .add (.t 12) (.c (.int .i64 1)),none⟩,⟨some 12,.mov (.t 48),none⟩])))
def PI:ACode:=.block 1 (.seq (.reg [⟨some 9,.load (some 3) (.t 3),none⟩,⟨some 5,.alloc [.int .i64 0,.int .i64 0,.int .i64 0],none⟩,⟨none,.store 3 (.t 5) (.t 9),none⟩])
 (.seq (.seq (.reg [⟨some 10,.mov (.t 0),none⟩,⟨some 11,.len 1 (.t 10),none⟩,⟨some 12,.mov (.c (.int .i64 0)),none⟩])
 (.block 2 (.loop M5)))
 (.seq (.reg [⟨some 49,.load (some 3) (.t 3),none⟩,⟨some 50,.load (some 3) (.t 5),none⟩,⟨some 51,.eql (.agg [.i,.i,.i]) false (.t 49) (.t 50),none⟩])
 (.cond (.t 51) (.seq (.reg [⟨some 52,.faddr (.t 3) 1,none⟩,⟨some 53,.load none (.t 52),none⟩,⟨some 4,.mov (.t 53),none⟩])
 (.jump .ret))
 .skip))))
def a120:AFunc:=⟨54,[.tmp 4],
 .seq (.reg [⟨some 3,.box 3 (.t 1),none⟩,⟨some 4,.mov (.c (.int .i64 0)),none⟩])
 (.block 0 (.loop PI))⟩
def a121:AFunc:=⟨6,[.tmp 2],
 .seq (.reg [⟨some 2,.mov (.c (.bool false)),none⟩])
 (.seq (.reg [⟨some 3,.mov (.t 0),none⟩,⟨some 4,.mov (.t 0),none⟩,⟨some 5,.eql (.one .i) true (.t 3) (.t 4),none⟩,⟨some 2,.mov (.t 5),none⟩])
 (.jump .ret))⟩
def T (f:FuncId):Option AFunc:=cond (Nat.ble f 72) (cond (Nat.ble f 34) (cond (Nat.ble f 18) (cond (Nat.ble f 6) (cond (Nat.ble f 3) (cond (Nat.ble f 2) (cond (Nat.beq f 2) (some a2) none) (cond (Nat.beq f 3) (some a3) none)) (cond (Nat.ble f 4) (cond (Nat.beq f 4) (some a4) none) (cond (Nat.ble f 5) (cond (Nat.beq f 5) (some a5) none) (cond (Nat.beq f 6) (some a6) none)))) (cond (Nat.ble f 8) (cond (Nat.ble f 7) (cond (Nat.beq f 7) (some a7) none) (cond (Nat.beq f 8) (some a8) none)) (cond (Nat.ble f 14) (cond (Nat.beq f 14) (some a14) none) (cond (Nat.ble f 17) (cond (Nat.beq f 17) (some a17) none) (cond (Nat.beq f 18) (some a18) none))))) (cond (Nat.ble f 25) (cond (Nat.ble f 21) (cond (Nat.ble f 19) (cond (Nat.beq f 19) (some a19) none) (cond (Nat.beq f 21) (some a21) none)) (cond (Nat.ble f 22) (cond (Nat.beq f 22) (some a22) none) (cond (Nat.ble f 23) (cond (Nat.beq f 23) (some a23) none) (cond (Nat.beq f 25) (some a25) none)))) (cond (Nat.ble f 28) (cond (Nat.ble f 27) (cond (Nat.beq f 27) (some a27) none) (cond (Nat.beq f 28) (some a28) none)) (cond (Nat.ble f 30) (cond (Nat.beq f 30) (some a30) none) (cond (Nat.ble f 32) (cond (Nat.beq f 32) (some a32) none) (cond (Nat.beq f 34) (some a34) none)))))) (cond (Nat.ble f 62) (cond (Nat.ble f 41) (cond (Nat.ble f 38) (cond (Nat.ble f 36) (cond (Nat.beq f 36) (some a36) none) (cond (Nat.beq f 38) (some a38) none)) (cond (Nat.ble f 39) (cond (Nat.beq f 39) (some a39) none) (cond (Nat.ble f 40) (cond (Nat.beq f 40) (some a40) none) (cond (Nat.beq f 41) (some a41) none)))) (cond (Nat.ble f 52) (cond (Nat.ble f 43) (cond (Nat.beq f 43) (some a43) none) (cond (Nat.beq f 52) (some a52) none)) (cond (Nat.ble f 56) (cond (Nat.beq f 56) (some a56) none) (cond (Nat.ble f 61) (cond (Nat.beq f 61) (some a61) none) (cond (Nat.beq f 62) (some a62) none))))) (cond (Nat.ble f 67) (cond (Nat.ble f 64) (cond (Nat.ble f 63) (cond (Nat.beq f 63) (some a63) none) (cond (Nat.beq f 64) (some a64) none)) (cond (Nat.ble f 65) (cond (Nat.beq f 65) (some a65) none) (cond (Nat.ble f 66) (cond (Nat.beq f 66) (some a66) none) (cond (Nat.beq f 67) (some a67) none)))) (cond (Nat.ble f 69) (cond (Nat.ble f 68) (cond (Nat.beq f 68) (some a68) none) (cond (Nat.beq f 69) (some a69) none)) (cond (Nat.ble f 70) (cond (Nat.beq f 70) (some a70) none) (cond (Nat.ble f 71) (cond (Nat.beq f 71) (some a71) none) (cond (Nat.beq f 72) (some a72) none))))))) (cond (Nat.ble f 100) (cond (Nat.ble f 85) (cond (Nat.ble f 77) (cond (Nat.ble f 74) (cond (Nat.ble f 73) (cond (Nat.beq f 73) (some a73) none) (cond (Nat.beq f 74) (some a74) none)) (cond (Nat.ble f 75) (cond (Nat.beq f 75) (some a75) none) (cond (Nat.ble f 76) (cond (Nat.beq f 76) (some a76) none) (cond (Nat.beq f 77) (some a77) none)))) (cond (Nat.ble f 79) (cond (Nat.ble f 78) (cond (Nat.beq f 78) (some a78) none) (cond (Nat.beq f 79) (some a79) none)) (cond (Nat.ble f 80) (cond (Nat.beq f 80) (some a80) none) (cond (Nat.ble f 84) (cond (Nat.beq f 84) (some a84) none) (cond (Nat.beq f 85) (some a85) none))))) (cond (Nat.ble f 92) (cond (Nat.ble f 87) (cond (Nat.ble f 86) (cond (Nat.beq f 86) (some a86) none) (cond (Nat.beq f 87) (some a87) none)) (cond (Nat.ble f 88) (cond (Nat.beq f 88) (some a88) none) (cond (Nat.ble f 91) (cond (Nat.beq f 91) (some a91) none) (cond (Nat.beq f 92) (some a92) none)))) (cond (Nat.ble f 97) (cond (Nat.ble f 93) (cond (Nat.beq f 93) (some a93) none) (cond (Nat.beq f 97) (some a97) none)) (cond (Nat.ble f 98) (cond (Nat.beq f 98) (some a98) none) (cond (Nat.ble f 99) (cond (Nat.beq f 99) (some a99) none) (cond (Nat.beq f 100) (some a100) none)))))) (cond (Nat.ble f 110) (cond (Nat.ble f 105) (cond (Nat.ble f 102) (cond (Nat.ble f 101) (cond (Nat.beq f 101) (some a101) none) (cond (Nat.beq f 102) (some a102) none)) (cond (Nat.ble f 103) (cond (Nat.beq f 103) (some a103) none) (cond (Nat.ble f 104) (cond (Nat.beq f 104) (some a104) none) (cond (Nat.beq f 105) (some a105) none)))) (cond (Nat.ble f 107) (cond (Nat.ble f 106) (cond (Nat.beq f 106) (some a106) none) (cond (Nat.beq f 107) (some a107) none)) (cond (Nat.ble f 108) (cond (Nat.beq f 108) (some a108) none) (cond (Nat.ble f 109) (cond (Nat.beq f 109) (some a109) none) (cond (Nat.beq f 110) (some a110) none))))) (cond (Nat.ble f 115) (cond (Nat.ble f 112) (cond (Nat.ble f 111) (cond (Nat.beq f 111) (some a111) none) (cond (Nat.beq f 112) (some a112) none)) (cond (Nat.ble f 113) (cond (Nat.beq f 113) (some a113) none) (cond (Nat.ble f 114) (cond (Nat.beq f 114) (some a114) none) (cond (Nat.beq f 115) (some a115) none)))) (cond (Nat.ble f 118) (cond (Nat.ble f 116) (cond (Nat.beq f 116) (some a116) none) (cond (Nat.ble f 117) (cond (Nat.beq f 117) (some a117) none) (cond (Nat.beq f 118) (some a118) none))) (cond (Nat.ble f 119) (cond (Nat.beq f 119) (some a119) none) (cond (Nat.ble f 120) (cond (Nat.beq f 120) (some a120) none) (cond (Nat.beq f 121) (some a121) none)))))))
end Go.Am.Room
namespace Go.Am
def tZ:Value→Option AV
 |.bool b=>some (.bool b)
 |.int k n=>some (.int k n)
 |.string s=>some (.str s)
 |.pointer none=>some .nilPtr
 |.slice none 0 0=>some (.lit [] true none)
 |.map none=>some .nilMap
 |.nilFunc=>some .nilFunc
 |_=>none
def nX:List Value→Option (List AV)
 |[]=>some []
 |v::vs=>match tZ v,nX vs with|some a,some b=>some (a::b)|_,_=>none
def ofValue:Value→Option AV
 |.agg cs=>match nX cs.toList with|some l=>some (.agg l)|none=>none
 |.tuple vs=>if vs.size=0 then some (.tuple []) else none
 |v=>tZ v
def opd:Operand→Option AOpd
 |.tmp t=>some (.t t)
 |.const v=>match ofValue v with|some a=>some (.c a)|none=>none
 |.func f=>some (.c (.func f [] []))
 |.global _=>none
def yU:List Operand→Option (List AOpd)
 |[]=>some []
 |x::xs=>match opd x,yU xs with|some a,some b=>some (a::b)|_,_=>none
def gZ:Option Operand→Option (Option AOpd)
 |none=>some none
 |some x=>match opd x with|some a=>some (some a)|none=>none
section
variable (P:Program) (h:String→Bool)
def eL (t:TypeId):Option Bool :=
 match P.underlying t with
 |some (.struct _)|some (.array _ _)=>some true
 |some _=>some false
 |none=>none
def eK (t:TypeId):Option Nat :=
 match P.info? t with
 |some i=>if i.size=0 then none else some i.size
 |none=>none
def mB (t:TypeId):Option (Option Nat) :=
 match eL P t,eK P t with
 |some true,some n=>some (some n)
 |some false,some 1=>some none
 |_,_=>none
def E2 (t:TypeId):Option AV :=
 match P.info? t with
 |some i=>match i.zero with|some v=>ofValue v|none=>none
 |none=>none
def eU (t:TypeId):Option (List AV) :=
 match E2 P t,eK P t with
 |some z,some n=>if z.cells.length=n∧z.cells.all (·.cell)=true then some z.cells else none
 |_,_=>none
mutual
def plainT:Nat→TypeId→Option (List SK)
 |0,_=>none
 |d+1,t =>
  match P.underlying t with
  |some .bool=>some [.b]
  |some (.int _)=>some [.i]
  |some .string=>some [.s]
  |some (.struct fs)=>if P.stoodInHeld t then none else plainFields d fs.toList 0
  |some (.array n e) =>
   match plainT d e,P.info? e with
   |some ks,some i=>if i.size=ks.length then some (List.replicate n ks).flatten else none
   |_,_=>none
  |_=>none
def plainFields:Nat→List Field→Nat→Option (List SK)
 |0,_,_=>none
 |_+1,[],_=>some []
 |d+1,f::fs,n =>
  if f.name = "_"∨f.offset≠n then none else
  match plainT d f.type,P.info? f.type with
  |some ks,some i=>if i.size=ks.length then (match plainFields d fs (n+ks.length) with|some r=>some (ks++r)|none=>none) else none
  |_,_=>none
end
def qT:Nat:=60
def eqT (t:TypeId):Option EqTy :=
 match plainT P qT t,eL P t with
 |some [k],some false=>some (.one k)
 |some ks,some true=>if P.eqGuardType P.depth t then none else some (.agg ks)
 |_,_=>none
def sX (s:TypeId) (f:Nat):Option Field :=
 match P.underlying s with
 |some (.struct fs) =>
  match fs[f]? with
  |some f=>match eK P f.type with|some _=>some f|none=>none
  |none=>none
 |_=>none
def zH (t:TypeId):Bool :=
 match P.underlying t with
 |some (.struct fs)=>fs.toList.all fun f=>(P.info? f.type).isSome
 |some (.array _ e)=>(P.info? e).isSome
 |_=>false
def jX (t:TypeId):List (Nat×Operand)→Option (List (Nat×Nat×AOpd))
 |[]=>some []
 |(i,x)::rest =>
  let place:Option (Nat×Nat):=match P.underlying t with
   |some (.struct fs)=>match fs[i]? with|some f=>(match eK P f.type with|some n=>some (f.offset,n)|none=>none)|none=>none
   |some (.array n e)=>if i<n then (match eK P e with|some m=>some (i*m,m)|none=>none) else none
   |_=>none
  match place,opd x,jX t rest with
  |some (off,n),some a,some r=>some ((off,n,a)::r)
  |_,_,_=>none
def j3:Nat→List (Nat×Operand)→Option (List AOpd)
 |_,[]=>some []
 |k,(i,x)::rest=>if i=k then (match opd x,j3 (k+1) rest with|some a,some b=>some (a::b)|_,_=>none) else none
def iP (t:TypeId):Option (TypeId×Nat) :=
 match P.underlying t with
 |some (.slice e)=>match eK P e with|some n=>some (e,n)|none=>none
 |_=>none
def nJ (pos:String) (c:Call):Option AOp :=
 match c.callee,yU c.args.toList with
 |.value f,some args=>match opd f with|some g=>some (.call g args)|none=>none
 |.builtin .len,some [x] =>
  match c.argTypes[0]? with
  |some t =>
   match P.underlying t with
   |some .string=>some (.len 0 x)
   |some (.slice _)=>some (.len 1 x)
   |some (.map _ _)=>some (.len 2 x)
   |some (.array n _)=>some (.mov (.c (.int .i64 n)))
   |_=>none
  |none=>none
 |.builtin .append,some [x,y] =>
  match c.argTypes[0]?,c.argTypes[1]? with
  |some t,some u =>
   match iP P t,iP P u,P.info? (match P.underlying t with|some (.slice e)=>e|_=>0) with
   |some (e,sz),some (e',_),some i=>if t=u∧e=e'∧0<i.bytes then (match eU P e with|some _=>some (if h pos then .apref sz i.bytes x y else .append sz i.bytes x y)|none=>none) else none
   |_,_,_=>none
  |_,_=>none
 |.builtin .copy,some [x,y] =>
  match c.argTypes[0]?,c.argTypes[1]? with
  |some t,some u =>
   match iP P t,iP P u with
   |some (e,sz),some (e',_)=>if e=e' then some (.copy sz x y) else none
   |_,_=>none
  |_,_=>none
 |.builtin .min,some xs=>some (.min xs)
 |.builtin .max,some xs=>some (.max xs)
 |_,_=>none
def bJ (pos:String):Op→Option AOp
 |.move x|.assign x=>match opd x with|some a=>some (.mov a)|none=>none
 |.pick c a b=>match opd c,opd a,opd b with|some c,some a,some b=>some (.pick c a b)|_,_,_=>none
 |.alloc t=>match eU P t with|some z=>some (.alloc z)|none=>none
 |.box t x=>match opd x,mB P t,eK P t with|some a,some _,some n=>some (.box n a)|_,_,_=>none
 |.build t parts =>
  match eU P t,zH P t,jX P t parts.toList with
  |some z,true,some ps=>some (.build z ps)
  |_,_,_=>none
 |.buildSlice t n parts =>
  match iP P t,j3 0 parts.toList with
  |some (e,sz),some xs=>if xs.length=n∧n*sz≤2^24 then (match eU P e with|some _=>some (if (h pos&&n != 0)=true then .mkref sz xs else .mklit sz xs)|none=>none) else none
  |_,_=>none
 |.load t a=>match mB P t,opd a with|some sh,some x=>some (.load sh x)|_,_=>none
 |.store t a x=>match eK P t,opd a,opd x with|some n,some a,some x=>some (.store n a x)|_,_,_=>none
 |.nilCheck x=>match opd x with|some a=>some (.nilCheck a)|none=>none
 |.binOp op t x y _ =>
  match opd x,opd y with
  |some a,some b =>
   match op with
   |.eql=>match eqT P t with|some sh=>some (.eql sh false a b)|none=>none
   |.neq=>match eqT P t with|some sh=>some (.eql sh true a b)|none=>none
   |op =>
    match P.underlying t with
    |some (.int _)=>some (.bin op a b)
    |_=>none
  |_,_=>none
 |.unOp op _ x =>
  match op,opd x with
  |.not,some a=>some (.not a)
  |.neg,some a=>some (.neg a)
  |_,_=>none
 |.convert s d x =>
  match P.underlying s,P.underlying d,opd x with
  |some (.int _),some (.int k),some a=>some (.conv k a)
  |_,_,_=>none
 |.makeFunc fn first cap =>
  match fn,yU first.toList,yU cap.toList with
  |.func f,some a,some b=>some (.mkfun f a b)
  |_,_,_=>none
 |.makeMap t none=>match P.underlying t with|some (.map _ _)=>some .mkmap|_=>none
 |.makeSlice t l c =>
  match iP P t,opd l,opd c with
  |some (e,_),some l,some c =>
   match eU P e,P.info? e with
   |some z,some i=>if 0<i.bytes then some (.mkslice z i.bytes l c) else none
   |_,_=>none
  |_,_,_=>none
 |.slice t x lo hi mx =>
  match opd x,gZ lo,gZ hi,gZ mx with
  |some x,some lo,some hi,some mx =>
   match P.underlying t with
   |some (.slice e)=>match eK P e with|some sz=>some (.slicev sz x lo hi mx)|none=>none
   |some (.array n e)=>match eK P e,mx with|some sz,none=>some (.slicea n sz x lo hi)|_,_=>none
   |_=>none
  |_,_,_,_=>none
 |.fieldAddr t x f=>match sX P t f,opd x with|some f,some a=>some (.faddr a f.offset)|_,_=>none
 |.field t x f =>
  match sX P t f,opd x with
  |some f,some a=>match mB P f.type with|some sh=>some (.field a f.offset sh)|none=>none
  |_,_=>none
 |.indexAddr t x i =>
  match opd x,opd i with
  |some x,some i =>
   match P.underlying t with
   |some (.array n e)=>match eK P e with|some sz=>some (.iaddr (some n) sz x i)|none=>none
   |some (.slice e)=>match eK P e with|some sz=>some (.iaddr none sz x i)|none=>none
   |_=>none
  |_,_=>none
 |.index t x i =>
  match opd x,opd i with
  |some x,some i =>
   match P.underlying t with
   |some .string=>some (.sindex x i)
   |some (.array n e)=>match eK P e,mB P e with|some sz,some sh=>some (.index n sz sh x i)|_,_=>none
   |_=>none
  |_,_=>none
 |.lookup t m k ok =>
  match opd m,opd k with
  |some m,some k =>
   match P.underlying t with
   |some (.map key elem)=>(match eqT P key,E2 P elem with|some sh,some z=>some (.lookup sh ok z m k)|_,_=>none)
   |_=>none
  |_,_=>none
 |.mapUpdate t m k v =>
  match opd m,opd k,opd v with
  |some m,some k,some v =>
   match P.underlying t with
   |some (.map key _)=>(match eqT P key with|some sh=>some (.mapset sh m k v)|none=>none)
   |_=>none
  |_,_,_=>none
 |.range t x =>
  match opd x with
  |some x =>
   match P.underlying t with
   |some .string=>some (.srange x)
   |some (.map _ _)=>some (.mrange x)
   |_=>none
  |none=>none
 |.next x s=>match opd x with|some a=>if s then some (.snext a) else some (.mnext a)|none=>none
 |.entry x=>match opd x with|some a=>some (.entry a)|none=>none
 |.extract x i=>match opd x with|some a=>some (.ext a i)|none=>none
 |.call c=>nJ P h pos c
 |_=>none
def kE (n:Nat) (ops:Array Oper) (o:Oper):Option AOper :=
 let d:Bool:=match o.dst with|some d=>decide (d<n)|none=>true
 let g:Option (Option (Nat×Bool)):=match o.guard with
  |none=>some none
  |some (j,want)=>match (ops[j]?).bind (·.dst) with|some t=>some (some (t,want))|none=>none
 match bJ P h o.pos o.op,g with
 |some op,some g=>if d then some { dst:=o.dst,op,guard:=g } else none
 |_,_=>none
def fD (n:Nat) (ops:Array Oper):List Oper→Option (List AOper)
 |[]=>some []
 |o::os=>match kE P h n ops o,fD n ops os with|some a,some b=>some (a::b)|_,_=>none
def AOpd.tmps:AOpd→List Nat
 |.t n=>[n]
 |.c _=>[]
def AOp.tmps:AOp→List Nat
 |.mov x|.box _ x|.load _ x|.nilCheck x|.not x|.neg x|.conv _ x|.faddr x _|.field x _ _|.srange x|.snext x|.mrange x|.mnext x|.entry x|.ext x _|.len _ x=>x.tmps
 |.pick c a b|.mapset _ c a b=>c.tmps++a.tmps++b.tmps
 |.alloc _|.mkmap=>[]
 |.build _ ps=>ps.flatMap fun p=>p.2.2.tmps
 |.mklit _ xs|.mkref _ xs|.min xs|.max xs=>xs.flatMap AOpd.tmps
 |.store _ a b|.bin _ a b|.eql _ _ a b|.append _ _ a b|.apref _ _ a b|.copy _ a b|.mkslice _ _ a b|.iaddr _ _ a b|.index _ _ _ a b|.sindex a b|.lookup _ _ _ a b=>a.tmps++b.tmps
 |.mkfun _ a b=>a.flatMap AOpd.tmps++b.flatMap AOpd.tmps
 |.slicev _ x l h m=>x.tmps++(l.toList++h.toList++m.toList).flatMap AOpd.tmps
 |.slicea _ _ x l h=>x.tmps++(l.toList++h.toList).flatMap AOpd.tmps
 |.call f xs=>f.tmps++xs.flatMap AOpd.tmps
def AOper.tmps (o:AOper):List Nat:=o.op.tmps++(match o.guard with|some (t,_)=>[t]|none=>[])
def bZ (os:List AOper):List Nat:=(os.zipIdx.filter fun p=>p.1.op.acts).map (·.2)
def IC (md:Region.Mode) (ops:Array Oper) (i:Nat):Nat :=
 match ops[i]? with
 |none=>0
 |some o =>
  let j:=o.after.toList.foldl (fun m e=>if Region.binds md e&&decide (m<e.on) then e.on else m) i
  if j=i then i*(ops.size+1) else j*(ops.size+1)+1+i
def oN (md:Region.Mode) (ops:Array Oper):Bool :=
 (List.range ops.size).all fun i=>((ops[i]?).map fun o=>o.after.toList.all fun e=>!Region.binds md e||(decide (e.on<ops.size)&&decide (IC md ops e.on<IC md ops i))).getD false
def wP (ops:Array Oper):Bool:=oN .any ops&&oN .text ops&&oN .gc ops
def mM:Code→Bool
 |.seq a b|.cond _ a b=>mM a&&mM b
 |.block _ b|.loop b|.scope b=>mM b
 |.rangeFunc ..=>false
 |_=>true
def y2 (before:Array Nat) (os:List AOper):Bool :=
 let ps:=os.zipIdx
 let acts:=bZ os
 (ps.all fun (o,i)=>ps.all fun (o',j)=>i==j||!(o.dst.isSome&&o.dst==o'.dst)) &&
 (ps.all fun (o,i)=>o.tmps.all fun t=>ps.all fun (o',j)=>o'.dst != some t||(decide (j<i)&&(before.getD i 0).testBit j)||(decide (i<j)&&(before.getD j 0).testBit i)) &&
 (acts.all fun i=>acts.all fun j=>!(decide (i<j))||(before.getD j 0).testBit i)
def gI (before:Array Nat) (os:List AOper):List ADOper :=
 let acts:=bZ os
 os.zipIdx.map fun (o,i) =>
  { o,lo:=(acts.filter fun a=>(before.getD i 0).testBit a).length,hi:=(acts.takeWhile fun a=>!(before.getD a 0).testBit i).length }
def comp (n:Nat):Code→Option ACode
 |.skip|.label _=>some .skip
 |.region _ ops draw =>
  match fD P h n ops ops.toList with
  |some os=>if draw then (if wP ops&&y2 (Region.before ops) os then some (.dreg (gI (Region.before ops) os)) else none) else some (.reg os)
  |none=>none
 |.seq a b=>match comp n a,comp n b with|some x,some y=>some (.seq x y)|_,_=>none
 |.cond c a b=>match opd c,comp n a,comp n b with|some c,some x,some y=>some (.cond c x y)|_,_,_=>none
 |.block id b=>match comp n b with|some x=>some (.block id x)|none=>none
 |.loop b=>match comp n b with|some x=>some (.loop x)|none=>none
 |.rangeFunc f ps a b=>match opd f,comp n a,comp n b with|some f,some x,some y=>if ps.toList.all (fun p=>decide (p<n))&&mM a&&mM b then some (.rangeFunc f ps.toList x y) else none|_,_,_=>none
 |.exit id=>some (.jump (.exit id))
 |.ret=>some (.jump .ret)
 |.scope b=>match comp n b with|some x=>some (.scope x)|none=>none
 |.goto _|.refuse _=>none
def lK:List ResultVar→Option (List ARes)
 |[]=>some []
 |.tmp t::rs=>match lK rs with|some l=>some (.tmp t::l)|none=>none
 |.cell a t::rs=>match mB P t,lK rs with|some sh,some l=>some (.cell a sh::l)|_,_=>none
def aC (fn:Func):Option AFunc :=
 match fn.body with
 |none=>none
 |some c =>
  match comp P h fn.ntmps c,lK P fn.results.toList with
  |some b,some rs=>if fn.name== "runtime.NumGoroutine" then none else some { ntmps:=fn.ntmps,results:=rs,body:=b }
  |_,_=>none
end
end Go.Am
namespace Go.Am
structure Gh where
 loc:Nat→Option Nat
 lim:Nat→Option Nat
 tok:Nat→Option (Option Addr×Nat×Nat)
 own:Nat→Option Nat
 defs:Nat→Prop
 B0:Nat
 h0:Array Obj
 /-- blocks that have no place,and get none;and what they hold -/
 res:Nat→Option (Option (List AV))
structure LitAt (G:Gh) (w:World) (xs:List AV) (tk:Option Nat) (b off sz:Nat):Prop where
 lim:∃ L,G.lim b=some L∧off+xs.length*sz≤L
 own:∀ t,G.own b=some t→tk=some t
 size:∀ (i:Nat) (x:AV),xs[i]? = some x→x.cells.length=sz
 cells:∀ k,k<xs.length*sz→(w.cell? ⟨b,off+k,none⟩).isSome=true
def kQ (G:Gh) (full:Bool) (tk:Option Nat) (n:Nat) (base:Option Addr) (cap:Nat):Prop :=
 n≤cap∧(full=true→cap=n) ∧
 ∀ t,tk=some t→∃ b m c,G.tok t=some (b,m,c)∧n≤m∧(full=false→m=n→b=base∧c=cap)
inductive RelV (G:Gh) (w:World):AV→Value→Prop where
 |undef (v:Value):RelV G w .undef v
 |int (k:IntKind) (n:Int):RelV G w (.int k n) (.int k n)
 |bool (b:Bool):RelV G w (.bool b) (.bool b)
 |str (s:ByteArray):RelV G w (.str s) (.string s)
 |func {f first cap first' cap'} (h1:first'.size=first.length) (h2:cap'.size=cap.length)
   (h3:∀ (i:Nat) (a:AV) (v:Value),first[i]? = some a→first'[i]? = some v→RelV G w a v) (h4:∀ (i:Nat) (a:AV) (v:Value),cap[i]? = some a→cap'[i]? = some v→RelV G w a v) :
   RelV G w (.func f first cap) (.func (.func f) first' cap')
 |nilFunc:RelV G w .nilFunc .nilFunc
 |yield {id b} (h:G.loc id=some b):RelV G w (.yield id) (.func (.yield b) #[] #[])
 |ptr {id off b} (h:G.loc id=some b):RelV G w (.ptr id off) (.pointer (some ⟨b,off,none⟩))
 |nilPtr:RelV G w .nilPtr (.pointer none)
 |lptr {xs i off tk b o sz} (ht:∀ t,tk=some t→∃ p,G.tok t=some p) (hi:i<xs.length) (hl:LitAt G w xs tk b o sz)
   (hc:∀ (i:Nat) (x:AV) (j:Nat) (c:AV) (u:Value),xs[i]? = some x→x.cells[j]? = some c→w.cell? ⟨b,o+(i*sz+j),none⟩=some u→RelV G w c u) :
   RelV G w (.lptr xs i off tk) (.pointer (some ⟨b,o+i*sz+off,none⟩))
 |nil {full tk base cap} (ht:kQ G full tk 0 base cap) (hb:base=none→cap=0):RelV G w (.lit [] full tk) (.slice base 0 cap)
 |lit {xs full tk b o sz cap} (ht:kQ G full tk xs.length (some ⟨b,o,none⟩) cap) (hl:LitAt G w xs tk b o sz)
   (hc:∀ (i:Nat) (x:AV) (j:Nat) (c:AV) (u:Value),xs[i]? = some x→x.cells[j]? = some c→w.cell? ⟨b,o+(i*sz+j),none⟩=some u→RelV G w c u) :
   RelV G w (.lit xs full tk) (.slice (some ⟨b,o,none⟩) xs.length cap)
 |ref {id off len sz b base cap} (h:G.loc id=some b) (hb:len≠0→base=some ⟨b,off,none⟩) (hc:len≤cap) (hn:base=none→cap=0) :
   RelV G w (.ref id off len sz) (.slice base len cap)
 |map {id b} (h:G.loc id=some b):RelV G w (.map id) (.map (some b))
 |nilMap:RelV G w .nilMap (.map none)
 |agg {cs vs} (h:vs.size=cs.length) (hc:∀ (i:Nat) (a:AV) (v:Value),cs[i]? = some a→vs[i]? = some v→RelV G w a v):RelV G w (.agg cs) (.agg vs)
 |tuple {cs vs} (h:vs.size=cs.length) (hc:∀ (i:Nat) (a:AV) (v:Value),cs[i]? = some a→vs[i]? = some v→RelV G w a v):RelV G w (.tuple cs) (.tuple vs)
def YA:LS→LoopState
 |.ready=>.ready
 |.busy=>.busy
 |.done=>.done
def GM:AJump→Code
 |.ret=>.ret
 |.exit id=>.exit id
def eE (G:Gh) (w:World) (n:Nat) (env:Env) (tmps:Array Value):Prop :=
 tmps.size=n∧∀ t,RelV G w (Env.get env t) (tmps.getD t Go.undef)
def fP (P:Program) (h:String→Bool) (G:Gh) (w:World):ABlk→Nat→Prop
 |.cells cs,b=>∃ vs T,w.heap[b]? = some (.cells vs T (0,0))∧cs.length≤vs.size∧∀ (i:Nat) (a:AV) (v:Value),cs[i]? = some a→vs[i]? = some v→RelV G w a v
 |.map es,b=>∃ ents,w.heap[b]? = some (.map ents es.length)∧ents.size=es.length ∧
   (∀ (i:Nat) (e:MapEntry),ents[i]? = some e→e.born=i)∧∀ (i:Nat) (p:AV×AV) (e:MapEntry),es[i]? = some p→ents[i]? = some e→RelV G w p.1 e.key∧RelV G w p.2 e.val
 |.tok _ _ _,_=>False
 |.siter s pos,b=>w.heap[b]? = some (.stringIter s pos)
 |.miter m n left last,b=>∃ bm seen stepped,G.loc m=some bm∧w.heap[b]? = some (.mapIter (some bm) n seen stepped) ∧
   left=(List.range n).filter (fun i=>!seen.contains i)∧seen.back? = last∧(seen.isEmpty=false→stepped=n)
 |.loop st pend env ps a c,b=>∃ l n,w.heap[b]? = some (.loop l)∧l.state=YA st∧l.pending=pend.map GM∧l.params.toList=ps ∧
   comp P h n l.assign=some a∧comp P h n l.body=some c∧(∀ p∈ps,p<n)∧eE G w n env l.tmps∧mM l.assign=true∧mM l.body=true
 |.dead,_=>True
def CB:Obj:=.deferred none
structure RelS (P:Program) (h:String→Bool) (G:Gh) (w:World) (σ:St):Prop where
 lt:∀ id b,G.loc id=some b→id<σ.length
 blk:∀ id b x,G.loc id=some b→σ[id]? = some x→fP P h G w x b
 inj:∀ i j b,G.loc i=some b→G.loc j=some b→i=j
 fresh:∀ id b,G.loc id=some b→G.B0≤b∧b<w.heap.size∧G.lim b=none∧¬G.defs b
 lim:∀ b L,G.lim b=some L→∃ vs T fr,w.heap[b]? = some (.cells vs T fr)∧L≤vs.size∧(b<G.B0→G.h0[G.B0+b]? = some CB)
 tok:∀ t b n c,G.tok t=some (b,n,c)→∃ sz ex,σ[t]? = some (.tok sz n ex)∧n≤c∧(ex=false→c=n) ∧
  (ex=true→∃ bb vs T,b=some ⟨bb,0,none⟩∧G.own bb=some t∧G.lim bb=some (n*sz)∧G.B0≤bb ∧
   w.heap[bb]? = some (.cells vs T (0,0))∧c*sz≤vs.size)
 own:∀ b t,G.own b=some t→b<w.heap.size∧∃ p,G.tok t=some p
 defs:∀ r,G.defs r→w.heap[r]? = some (.deferred (some []))∧G.B0≤r∧G.lim r=none
 base:∀ b,b<G.B0→w.heap[b]? = G.h0[b]?
 size:G.B0≤w.heap.size
 res:∀ id r,G.res id=some r→G.loc id=none∧id<σ.length∧∀ cs,r=some cs→σ[id]? = some (.cells cs)
structure Evo (G:Gh) (w:World) (G':Gh) (w':World):Prop where
 loc:∀ id b,G.loc id=some b→G'.loc id=some b
 lim:∀ b L,G.lim b=some L→∃ L',G'.lim b=some L'∧L≤L'∧∀ k,k<L→w'.cell? ⟨b,k,none⟩=w.cell? ⟨b,k,none⟩
 tok:∀ t b n c,G.tok t=some (b,n,c)→∃ b' n' c',G'.tok t=some (b',n',c')∧n≤n'∧(n'=n→b'=b∧c'=c)
 own:∀ b L t,G.lim b=some L→G'.own b=some t→G.own b=some t
 defs:∀ r,G.defs r→G'.defs r
 B0:G'.B0=G.B0
 h0:G'.h0=G.h0
 os:w'.os=w.os
 tape:w'.tape=w.tape
 output:w'.output=w.output
 size:w.heap.size≤w'.heap.size
 res:∀ id r,G.res id=some r→G'.res id=some r
theorem Evo.refl (G:Gh) (w:World):Evo G w G w :=
 ⟨fun _ _ h=>h,fun b L h=>⟨L,h,Nat.le_refl _,fun _ _=>rfl⟩,fun t b n c h=>⟨b,n,c,h,Nat.le_refl _,fun _=>⟨rfl,rfl⟩⟩,
  fun _ _ _ _ h=>h,fun _ h=>h,rfl,rfl,rfl,rfl,rfl,Nat.le_refl _,fun _ _ h=>h⟩
theorem Evo.trans {G1 w1 G2 w2 G3 w3} (h:Evo G1 w1 G2 w2) (k:Evo G2 w2 G3 w3):Evo G1 w1 G3 w3 where
 loc id b e:=k.loc _ _ (h.loc _ _ e)
 lim b L e:=by
  obtain ⟨L2,e2,l2,c2⟩:=h.lim _ _ e
  obtain ⟨L3,e3,l3,c3⟩:=k.lim _ _ e2
  exact ⟨L3,e3,Nat.le_trans l2 l3,fun i hi=>(c3 i (Nat.lt_of_lt_of_le hi l2)).trans (c2 i hi)⟩
 tok t b n c e:=by
  obtain ⟨b2,n2,c2,e2,l2,q2⟩:=h.tok _ _ _ _ e
  obtain ⟨b3,n3,c3,e3,l3,q3⟩:=k.tok _ _ _ _ e2
  refine ⟨b3,n3,c3,e3,Nat.le_trans l2 l3,fun hn=>?_⟩
  have:n2=n:=by omega
  obtain ⟨a1,a2⟩:=q2 this
  obtain ⟨a3,a4⟩:=q3 (by omega)
  exact ⟨a3.trans a1,a4.trans a2⟩
 own b L t e e3:=by
  obtain ⟨L2,e2,_,_⟩:=h.lim _ _ e
  exact h.own _ _ _ e (k.own _ _ _ e2 e3)
 defs r e:=k.defs _ (h.defs _ e)
 B0:=k.B0.trans h.B0
 h0:=k.h0.trans h.h0
 os:=k.os.trans h.os
 tape:=k.tape.trans h.tape
 output:=k.output.trans h.output
 size:=Nat.le_trans h.size k.size
 res id r e:=k.res _ _ (h.res _ _ e)
theorem kQ.mono {G w G' w' full tk n base cap} (he:Evo G w G' w') (h:kQ G full tk n base cap):kQ G' full tk n base cap:=by
 obtain ⟨h1,h2,h3⟩:=h
 refine ⟨h1,h2,fun t ht=>?_⟩
 obtain ⟨b,m,c,e1,e2,e3⟩:=h3 t ht
 obtain ⟨b',m',c',e1',l,q⟩:=he.tok _ _ _ _ e1
 refine ⟨b',m',c',e1',Nat.le_trans e2 l,fun hf hm=>?_⟩
 have:m=n:=by omega
 obtain ⟨q1,q2⟩:=q (by omega)
 obtain ⟨r1,r2⟩:=e3 hf this
 exact ⟨q1.trans r1,q2.trans r2⟩
theorem LitAt.cellOf {G w xs tk b o sz} (h:LitAt G w xs tk b o sz) {i:Nat} {x:AV} {j:Nat} {c:AV} (hx:xs[i]? = some x) (hc:x.cells[j]? = some c) :
  i*sz+j<xs.length*sz:=by
 have hi:i<xs.length:=(List.getElem?_eq_some_iff.1 hx).1
 have hj:j<sz:=by rw [←h.size i x hx];exact (List.getElem?_eq_some_iff.1 hc).1
 calc i*sz+j<i*sz+sz:=by omega
  _=(i+1)*sz:=by rw [Nat.add_mul];omega
  _≤xs.length*sz:=Nat.mul_le_mul_right _ hi
theorem LitAt.mono {G w G' w' xs tk b o sz} (he:Evo G w G' w') (h:LitAt G w xs tk b o sz):LitAt G' w' xs tk b o sz:=by
 obtain ⟨L,hL,hle⟩:=h.lim
 obtain ⟨L',hL',hle',hcell⟩:=he.lim _ _ hL
 refine ⟨⟨L',hL',by omega⟩,fun t ht=>h.own t (he.own _ _ _ hL ht),h.size,fun k hk=>?_⟩
 rw [hcell _ (by omega)]
 exact h.cells k hk
theorem LitAt.same {G w G' w' xs tk b o sz} (he:Evo G w G' w') (h:LitAt G w xs tk b o sz) {i:Nat} {x:AV} {j:Nat} {c:AV} {u:Value} (hx:xs[i]? = some x) (hc:x.cells[j]? = some c)
  (hu:w'.cell? ⟨b,o+(i*sz+j),none⟩=some u):w.cell? ⟨b,o+(i*sz+j),none⟩=some u:=by
 obtain ⟨L,hL,hle⟩:=h.lim
 obtain ⟨L',hL',hle',hcell⟩:=he.lim _ _ hL
 have:=h.cellOf hx hc
 rw [←hcell _ (by omega)]
 exact hu
theorem RelV.mono {G w G' w' a v} (he:Evo G w G' w') (h:RelV G w a v):RelV G' w' a v:=by
 induction h with
 |undef v=>exact .undef v
 |int k n=>exact .int k n
 |bool b=>exact .bool b
 |str s=>exact .str s
 |func h1 h2 _ _ h3 h4=>exact .func h1 h2 h3 h4
 |nilFunc=>exact .nilFunc
 |yield h=>exact .yield (he.loc _ _ h)
 |ptr h=>exact .ptr (he.loc _ _ h)
 |nilPtr=>exact .nilPtr
 |lptr ht hi hl _ ih =>
  refine .lptr (fun t e=>?_) hi (hl.mono he) fun i x j c u hx hc hu=>ih i x j c u hx hc (hl.same he hx hc hu)
  obtain ⟨⟨b,n,c⟩,hp⟩:=ht t e
  obtain ⟨b',n',c',e',_⟩:=he.tok _ _ _ _ hp
  exact ⟨_,e'⟩
 |nil ht hb=>exact .nil (ht.mono he) hb
 |lit ht hl _ ih=>exact .lit (ht.mono he) (hl.mono he) fun i x j c u hx hc hu=>ih i x j c u hx hc (hl.same he hx hc hu)
 |ref h hb hc hn=>exact .ref (he.loc _ _ h) hb hc hn
 |map h=>exact .map (he.loc _ _ h)
 |nilMap=>exact .nilMap
 |agg h _ ih=>exact .agg h ih
 |tuple h _ ih=>exact .tuple h ih
theorem eE.mono {G w G' w' n env tmps} (he:Evo G w G' w') (h:eE G w n env tmps):eE G' w' n env tmps :=
 ⟨h.1,fun t=>(h.2 t).mono he⟩
theorem fP.mono {P h G w G' w' x b} (he:Evo G w G' w') (hb:w'.heap[b]? = w.heap[b]?) (hx:fP P h G w x b):fP P h G' w' x b:=by
 cases x with
 |cells cs =>
  obtain ⟨vs,T,e,l,r⟩:=hx
  exact ⟨vs,T,hb.trans e,l,fun i a v h1 h2=>(r i a v h1 h2).mono he⟩
 |map es =>
  obtain ⟨ents,e,l,q,r⟩:=hx
  exact ⟨ents,hb.trans e,l,q,fun i p e h1 h2=>⟨(r i p e h1 h2).1.mono he,(r i p e h1 h2).2.mono he⟩⟩
 |tok _ _ _=>exact hx
 |siter s pos=>exact hb.trans hx
 |miter m n left last =>
  obtain ⟨bm,seen,stepped,h1,h2,h3⟩:=hx
  exact ⟨bm,seen,stepped,he.loc _ _ h1,hb.trans h2,h3⟩
 |loop st pend env ps a c =>
  obtain ⟨l,n,h1,h2,h3,h4,h5,h6,h7,h8,h9⟩:=hx
  exact ⟨l,n,hb.trans h1,h2,h3,h4,h5,h6,h7,h8.mono he,h9⟩
 |dead=>trivial
variable {P:Program} {hh:String→Bool} {G:Gh} {w:World} {σ:St}
theorem RelV.cell {a:AV} {v:Value} (h:RelV G w a v) (hc:a.cell=true):v.oneCell'=true∧v.cells = #[v]:=by
 cases h<;>first|(simp [AV.cell] at hc;done)|exact ⟨rfl,rfl⟩
theorem RelV.cells {a:AV} {v:Value} (h:RelV G w a v) (hc:a.cells.all (·.cell)=true) :
  v.cells.size=a.cells.length∧(∀ (i:Nat) (x:AV) (u:Value),a.cells[i]? = some x→v.cells[i]? = some u→RelV G w x u)∧∀ u∈v.cells.toList,u.oneCell'=true:=by
 have one:∀ {a:AV} {v:Value},RelV G w a v→a.cells=[a]→a.cell=true →
   v.cells.size=a.cells.length∧(∀ (i:Nat) (x:AV) (u:Value),a.cells[i]? = some x→v.cells[i]? = some u→RelV G w x u)∧∀ u∈v.cells.toList,u.oneCell'=true:=by
  intro a v h hs hc
  obtain ⟨h1,h2⟩:=h.cell hc
  refine ⟨by rw [h2,hs];rfl,fun i x u hx hu=>?_,fun u hu=>?_⟩
  ·rw [hs] at hx
   rw [h2] at hu
   cases i with
   |zero=>simp at hx hu;subst hx;subst hu;exact h
   |succ i=>simp at hx
  ·rw [h2] at hu
   simp at hu
   subst hu
   exact h1
 cases h with
 |agg hs hr =>
  refine ⟨hs,hr,fun u hu=>?_⟩
  obtain ⟨i,hi,rfl⟩:=List.getElem_of_mem hu
  simp only [AV.cells,List.all_eq_true] at hc
  simp only [Value.cells,Array.length_toList] at hi
  have hi':i<(_:List AV).length:=hs▸hi
  have hx:=hr i _ _ (List.getElem?_eq_getElem hi') (Array.getElem?_eq_getElem hi)
  simpa [Value.cells] using (hx.cell (hc _ (List.getElem_mem hi'))).1
 |tuple hs hr=>simp [AV.cells,AV.cell] at hc
 |undef v=>simp [AV.cells,AV.cell] at hc
 |int=>exact one (.int _ _) rfl rfl
 |bool=>exact one (.bool _) rfl rfl
 |str=>exact one (.str _) rfl rfl
 |func h1 h2 h3 h4=>exact one (.func h1 h2 h3 h4) rfl rfl
 |nilFunc=>exact one .nilFunc rfl rfl
 |yield h=>exact one (.yield h) rfl rfl
 |ptr h=>exact one (.ptr h) rfl rfl
 |nilPtr=>exact one .nilPtr rfl rfl
 |lptr h1 h2 h3 h4=>exact one (.lptr h1 h2 h3 h4) rfl rfl
 |nil h hb=>exact one (.nil h hb) rfl rfl
 |lit h1 h2 h3=>exact one (.lit h1 h2 h3) rfl rfl
 |ref h1 h2 h3 h4=>exact one (.ref h1 h2 h3 h4) rfl rfl
 |map h=>exact one (.map h) rfl rfl
 |nilMap=>exact one .nilMap rfl rfl
theorem dM (w:World) (o:Obj) (k:Nat):(w.alloc o).heap[k]? = if k=w.heap.size then some o else w.heap[k]?:=by
 show (w.heap.push o)[k]? = _
 rw [Array.getElem?_push]
theorem xN (w:World) (o:Obj) (a:Addr) (h:a.block<w.heap.size):(w.alloc o).cell? a=w.cell? a:=World.cell?_alloc_lt w o a h
theorem oE (h:RelS P hh G w σ) {b L:Nat} (e:G.lim b=some L):b<w.heap.size:=by
 obtain ⟨vs,T,fr,hb,_⟩:=h.lim _ _ e
 exact (Array.getElem?_eq_some_iff.1 hb).1
theorem lX:Evo G w G w.drew :=
 ⟨fun _ _ h=>h,fun b L h=>⟨L,h,Nat.le_refl _,fun _ _=>rfl⟩,fun t b n c h=>⟨b,n,c,h,Nat.le_refl _,fun _=>⟨rfl,rfl⟩⟩,
  fun _ _ _ _ h=>h,fun _ h=>h,rfl,rfl,rfl,rfl,rfl,Nat.le_refl _,fun _ _ h=>h⟩
theorem RelS.drew (h:RelS P hh G w σ):RelS P hh G w.drew σ where
 lt:=h.lt
 blk id b x e1 e2:=(h.blk id b x e1 e2).mono lX rfl
 inj:=h.inj
 fresh:=h.fresh
 lim:=h.lim
 tok:=h.tok
 own:=h.own
 defs:=h.defs
 base:=h.base
 size:=h.size
 res:=h.res
theorem i6 (h:RelS P hh G w σ) (o:Obj):Evo G w G (w.alloc o) where
 loc _ _ h:=h
 lim b L e:=⟨L,e,Nat.le_refl _,fun k _=>xN w o _ (oE h e)⟩
 tok t b n c h:=⟨b,n,c,h,Nat.le_refl _,fun _=>⟨rfl,rfl⟩⟩
 own _ _ _ _ h:=h
 defs _ h:=h
 B0:=rfl
 h0:=rfl
 os:=rfl
 tape:=rfl
 output:=rfl
 size:=by simp
 res _ _ h:=h
theorem RelS.alloc (h:RelS P hh G w σ) (o:Obj):RelS P hh G (w.alloc o) σ where
 lt:=h.lt
 blk id b x e1 e2:=(h.blk id b x e1 e2).mono (i6 h o) (by rw [dM,if_neg];have:=(h.fresh _ _ e1).2.1;omega)
 inj:=h.inj
 fresh id b e:=by
  obtain ⟨a,b,c⟩:=h.fresh id b e
  exact ⟨a,by simp;omega,c⟩
 lim b L e:=by
  obtain ⟨vs,T,fr,hb,l⟩:=h.lim _ _ e
  exact ⟨vs,T,fr,by rw [dM,if_neg (by have:=oE h e;omega)];exact hb,l⟩
 tok t b n c e:=by
  obtain ⟨sz,ex,h1,h2,h3,h4⟩:=h.tok _ _ _ _ e
  refine ⟨sz,ex,h1,h2,h3,fun hx=>?_⟩
  obtain ⟨bb,vs,T,q1,q2,q3,q4,q5,q6⟩:=h4 hx
  exact ⟨bb,vs,T,q1,q2,q3,q4,by rw [dM,if_neg (by have:=oE h q3;omega)];exact q5,q6⟩
 own b t e:=by
  obtain ⟨h1,h2⟩:=h.own b t e
  exact ⟨by simp;omega,h2⟩
 defs r e:=by
  obtain ⟨h1,h2,h3⟩:=h.defs r e
  refine ⟨?_,h2,h3⟩
  rw [dM,if_neg]
  ·exact h1
  ·have:=(Array.getElem?_eq_some_iff.1 h1).1;omega
 base b hb:=by rw [dM,if_neg (by have:=h.size;omega)];exact h.base b hb
 size:=by have:=h.size;simp;omega
 res:=h.res
def Gh.withLoc (G:Gh) (id b:Nat):Gh:={ G with loc:=fun i=>if i=id then some b else G.loc i }
theorem kJ {id b:Nat} (hid:G.loc id=none):Evo G w (G.withLoc id b) w where
 loc i c e:=by
  have:i≠id:=fun h=>by rw [h,hid] at e;cases e
  simp [Gh.withLoc,this,e]
 lim b L e:=⟨L,e,Nat.le_refl _,fun _ _=>rfl⟩
 tok t b n c h:=⟨b,n,c,h,Nat.le_refl _,fun _=>⟨rfl,rfl⟩⟩
 own _ _ _ _ h:=h
 defs _ h:=h
 B0:=rfl
 h0:=rfl
 os:=rfl
 tape:=rfl
 output:=rfl
 size:=Nat.le_refl _
 res _ _ h:=h
theorem RelS.withLoc {id b:Nat} {x:ABlk} (h:RelS P hh G w σ) (hres:G.res id=none) (hid:G.loc id=none) (hx:σ[id]? = some x) (hr:fP P hh (G.withLoc id b) w x b)
  (h1:G.B0≤b) (h2:b<w.heap.size) (h3:G.lim b=none) (h4:¬G.defs b) (h5:∀ i,G.loc i≠some b):RelS P hh (G.withLoc id b) w σ where
 lt i c e:=by
  by_cases hi:i=id
  ·subst hi;exact (List.getElem?_eq_some_iff.1 hx).1
  ·simp [Gh.withLoc,hi] at e;exact h.lt i c e
 blk i c y e1 e2:=by
  by_cases hi:i=id
  ·subst hi
   simp [Gh.withLoc] at e1
   subst e1
   rw [hx] at e2
   cases e2
   exact hr
  ·simp [Gh.withLoc,hi] at e1
   exact (h.blk i c y e1 e2).mono (kJ hid) rfl
 inj i j c e1 e2:=by
  by_cases hi:i=id<;>by_cases hj:j=id
  ·rw [hi,hj]
  ·simp [Gh.withLoc,hi] at e1
   simp [Gh.withLoc,hj] at e2
   subst e1
   exact absurd e2 (h5 j)
  ·simp [Gh.withLoc,hi] at e1
   simp [Gh.withLoc,hj] at e2
   subst e2
   exact absurd e1 (h5 i)
  ·simp [Gh.withLoc,hi] at e1
   simp [Gh.withLoc,hj] at e2
   exact h.inj i j c e1 e2
 fresh i c e:=by
  by_cases hi:i=id
  ·simp [Gh.withLoc,hi] at e;subst e;exact ⟨h1,h2,h3,h4⟩
  ·simp [Gh.withLoc,hi] at e;exact h.fresh i c e
 lim:=h.lim
 tok:=h.tok
 own:=h.own
 defs:=h.defs
 base:=h.base
 size:=h.size
 res i r e:=by
  have hi:i≠id:=fun hi=>by subst hi;rw [show (G.withLoc i b).res i=G.res i from rfl,hres] at e;cases e
  have:=h.res i r e
  simpa [Gh.withLoc,hi] using this
theorem RelS.more (h:RelS P hh G w σ) (τ:St):RelS P hh G w (σ++τ) where
 lt i c e:=by have:=h.lt i c e;simp;omega
 blk i c y e1 e2:=h.blk i c y e1 (by rw [List.getElem?_append_left (h.lt i c e1)] at e2;exact e2)
 inj:=h.inj
 fresh:=h.fresh
 lim:=h.lim
 tok t b n c e:=by
  obtain ⟨sz,ex,h1,rest⟩:=h.tok t b n c e
  exact ⟨sz,ex,by rw [List.getElem?_append_left (List.getElem?_eq_some_iff.1 h1).1];exact h1,rest⟩
 own:=h.own
 defs:=h.defs
 base:=h.base
 size:=h.size
 res i r e:=by
  obtain ⟨q1,q2,q3⟩:=h.res i r e
  exact ⟨q1,by simp;omega,fun cs hc=>by rw [List.getElem?_append_left q2];exact q3 cs hc⟩
theorem qO (h:RelS P hh G w σ) {id:Nat} (hid:σ.length≤id):G.loc id=none:=by
 cases e:G.loc id with
 |none=>rfl
 |some b=>have:=h.lt _ _ e;omega
theorem DF (h:RelS P hh G w σ) {id:Nat} (hid:σ.length≤id):G.res id=none:=by
 cases e:G.res id with
 |none=>rfl
 |some b=>have:=(h.res _ _ e).2.1;omega
theorem NM (h:RelS P hh G w σ) {b:Nat} (hb:w.heap.size≤b) (i:Nat):G.loc i≠some b:=fun e=>by
 have:=(h.fresh _ _ e).2.1;omega
theorem RelS.new {x:ABlk} {o:Obj} (h:RelS P hh G w σ) (hr:fP P hh (G.withLoc σ.length w.heap.size) (w.alloc o) x w.heap.size) :
  RelS P hh (G.withLoc σ.length w.heap.size) (w.alloc o) (σ++[x])∧Evo G w (G.withLoc σ.length w.heap.size) (w.alloc o):=by
 have h1:=(h.alloc o).more [x]
 have hl:G.loc σ.length=none:=qO h (Nat.le_refl _)
 refine ⟨h1.withLoc (DF h (Nat.le_refl _)) hl (by simp) hr h.size (by simp) ?_ ?_ (fun i=>NM h (Nat.le_refl _) i),(i6 h o).trans (kJ hl)⟩
 ·cases e:G.lim w.heap.size with
  |none=>rfl
  |some L=>have:=oE h e;omega
 ·intro e
  have:=(Array.getElem?_eq_some_iff.1 (h.defs _ e).1).1
  omega
theorem RelS.place {x:ABlk} {o:Obj} {id:Nat} (h:RelS P hh G w σ) (hres:G.res id=none) (hid:G.loc id=none) (hx:σ[id]? = some x) (hr:fP P hh (G.withLoc id w.heap.size) (w.alloc o) x w.heap.size) :
  RelS P hh (G.withLoc id w.heap.size) (w.alloc o) σ∧Evo G w (G.withLoc id w.heap.size) (w.alloc o):=by
 refine ⟨(h.alloc o).withLoc hres hid hx hr h.size (by simp) ?_ ?_ (fun i=>NM h (Nat.le_refl _) i),(i6 h o).trans (kJ hid)⟩
 ·cases e:G.lim w.heap.size with
  |none=>rfl
  |some L=>have:=oE h e;omega
 ·intro e
  have:=(Array.getElem?_eq_some_iff.1 (h.defs _ e).1).1
  omega
def Gh.withLim (G:Gh) (b n:Nat):Gh:={ G with lim:=fun i=>if i=b then some n else G.lim i }
theorem RelS.newLit (h:RelS P hh G w σ) (cs:Array Value) (T:TypeId) :
  RelS P hh (G.withLim w.heap.size cs.size) (w.alloc (.cells cs T)) σ∧Evo G w (G.withLim w.heap.size cs.size) (w.alloc (.cells cs T)):=by
 have hn:G.lim w.heap.size=none:=by
  cases e:G.lim w.heap.size with
  |none=>rfl
  |some L=>have:=oE h e;omega
 have ho:∀ t,G.own w.heap.size≠some t:=fun t e=>by have:=(h.own _ _ e).1;omega
 have he0:Evo G (w.alloc (.cells cs T)) (G.withLim w.heap.size cs.size) (w.alloc (.cells cs T)):=by
  refine ⟨fun _ _ h=>h,fun b L e=>⟨L,?_,Nat.le_refl _,fun _ _=>rfl⟩,fun t b n c h=>⟨b,n,c,h,Nat.le_refl _,fun _=>⟨rfl,rfl⟩⟩,
   fun _ _ _ _ h=>h,fun _ h=>h,rfl,rfl,rfl,rfl,rfl,Nat.le_refl _,fun _ _ h=>h⟩
  have:b≠w.heap.size:=fun e'=>by rw [e',hn] at e;cases e
  simp [Gh.withLim,this,e]
 have h1:=h.alloc (.cells cs T)
 refine ⟨⟨h.lt,fun id b x e1 e2=>(h1.blk id b x e1 e2).mono he0 rfl,h.inj,fun id b e=>?_,fun b L e=>?_,fun t b n c e=>?_,h1.own,fun r e=>?_,h1.base,h1.size,h1.res⟩,
  (i6 h _).trans he0⟩
 ·obtain ⟨q1,q2,q3,q4⟩:=h1.fresh id b e
  have:b≠w.heap.size:=by have:=(h.fresh id b e).2.1;omega
  exact ⟨q1,q2,by simp [Gh.withLim,this,q3],q4⟩
 ·by_cases hb:b=w.heap.size
  ·subst hb
   simp [Gh.withLim] at e
   subst e
   exact ⟨cs,T,(0,0),by rw [dM,if_pos rfl],Nat.le_refl _,fun hlt=>absurd hlt (Nat.not_lt.2 h.size)⟩
  ·simp [Gh.withLim,hb] at e
   exact h1.lim b L e
 ·obtain ⟨sz,ex,q1,q2,q3,q4⟩:=h1.tok t b n c e
  refine ⟨sz,ex,q1,q2,q3,fun hx=>?_⟩
  obtain ⟨bb,vs,T',r1,r2,r3,r4,r5,r6⟩:=q4 hx
  have:bb≠w.heap.size:=fun e'=>by rw [e'] at r2;exact ho _ r2
  exact ⟨bb,vs,T',r1,r2,by simp [Gh.withLim,this,r3],r4,r5,r6⟩
 ·obtain ⟨q1,q2,q3⟩:=h1.defs r e
  have:r≠w.heap.size:=by have:=(Array.getElem?_eq_some_iff.1 (h.defs _ e).1).1;omega
  exact ⟨q1,q2,by simp [Gh.withLim,this,q3]⟩
structure Part (b:Nat) (w w':World):Prop where
 os:w'.os=w.os
 tape:w'.tape=w.tape
 output:w'.output=w.output
 size:w'.heap.size=w.heap.size
 other:∀ k,k≠b→w'.heap[k]? = w.heap[k]?
theorem Part.cell {b:Nat} {w w':World} (h:Part b w w') {a:Addr} (ha:a.block≠b):w'.cell? a=w.cell? a:=by
 simp [World.cell?,h.other _ ha]
theorem mH {b:Nat} {w w':World} (hp:Part b w w') (hb:G.lim b=none):Evo G w G w' where
 loc _ _ h:=h
 lim c L e:=⟨L,e,Nat.le_refl _,fun k _=>hp.cell (fun e'=>by simp at e';rw [e',hb] at e;cases e)⟩
 tok t b n c h:=⟨b,n,c,h,Nat.le_refl _,fun _=>⟨rfl,rfl⟩⟩
 own _ _ _ _ h:=h
 defs _ h:=h
 B0:=rfl
 h0:=rfl
 os:=hp.os
 tape:=hp.tape
 output:=hp.output
 size:=Nat.le_of_eq hp.size.symm
 res _ _ h:=h
theorem RelS.write {b id:Nat} {w':World} {x y:ABlk} (h:RelS P hh G w σ) (hl:G.loc id=some b) (hp:Part b w w') (hx:σ[id]? = some x) (ht:∀ a b c,x≠.tok a b c)
  (hr:fP P hh G w' y b):RelS P hh G w' (σ.set id y)∧Evo G w G w':=by
 obtain ⟨f1,f2,f3,f4⟩:=h.fresh _ _ hl
 have he:=mH hp f3
 refine ⟨⟨fun i c e=>by have:=h.lt i c e;simpa using this,fun i c z e1 e2=>?_,h.inj,fun i c e=>?_,fun c L e=>?_,fun t c n k e=>?_,fun c t e=>?_,fun r e=>?_,fun c hc=>?_,?_,fun i r e=>?_⟩,he⟩
 ·by_cases hi:i=id
  ·subst hi
   rw [hl] at e1
   cases e1
   rw [List.getElem?_set_self (h.lt _ _ hl)] at e2
   cases e2
   exact hr
  ·rw [List.getElem?_set_ne (fun e=>hi e.symm)] at e2
   refine (h.blk i c z e1 e2).mono he (hp.other _ fun e=>hi ?_)
   subst e
   exact h.inj _ _ _ e1 hl
 ·obtain ⟨a,b,c⟩:=h.fresh i c e
  exact ⟨a,by rw [hp.size];exact b,c⟩
 ·obtain ⟨vs,T,fr,q,l⟩:=h.lim c L e
  refine ⟨vs,T,fr,?_,l⟩
  rw [hp.other _ fun e'=>by rw [e',f3] at e;cases e]
  exact q
 ·obtain ⟨sz,ex,q1,q2,q3,q4⟩:=h.tok t c n k e
  refine ⟨sz,ex,?_,q2,q3,fun hx'=>?_⟩
  ·rw [List.getElem?_set_ne]
   ·exact q1
   ·intro e'
    subst e'
    rw [hx] at q1
    cases q1
    exact ht _ _ _ rfl
  ·obtain ⟨bb,vs,T,r1,r2,r3,r4,r5,r6⟩:=q4 hx'
   refine ⟨bb,vs,T,r1,r2,r3,r4,?_,r6⟩
   rw [hp.other _ fun e'=>by rw [e',f3] at r3;cases r3]
   exact r5
 ·obtain ⟨q1,q2⟩:=h.own c t e
  exact ⟨by rw [hp.size];exact q1,q2⟩
 ·obtain ⟨q1,q2,q3⟩:=h.defs r e
  refine ⟨?_,q2,q3⟩
  rw [hp.other _ fun e'=>by rw [e'] at e;exact f4 e]
  exact q1
 ·rw [hp.other _ (by omega)]
  exact h.base c hc
 ·rw [hp.size];exact h.size
 ·obtain ⟨q1,q2,q3⟩:=h.res i r e
  have hi:i≠id:=fun hi=>by subst hi;rw [hl] at q1;cases q1
  exact ⟨q1,by simpa using q2,fun cs hc=>by rw [List.getElem?_set_ne (Ne.symm hi)];exact q3 cs hc⟩
theorem wC (w:World) (g:Nat) (cs:Array Value):Part g w (w.setRow g cs) :=
 ⟨rfl,rfl,rfl,by simp,fun k hk=>setRow_other w g k cs fun e=>hk (e▸rfl)⟩
theorem iU (w:World) (g:Nat) (o:Obj):Part g w { w with heap:=w.heap.setIfInBounds g o } :=
 ⟨rfl,rfl,rfl,by simp,fun k hk=>by simp [Array.getElem?_setIfInBounds_ne (Ne.symm hk)]⟩
end Go.Am
namespace Go.Am
variable {P:Program} {hh:String→Bool} {G:Gh} {w:World} {σ:St} {env:Env}
theorem tX {v:Value} {a:AV} (h:tZ v=some a):RelV G w a v:=by
 unfold tZ at h
 split at h<;>first|cases h|skip
 ·exact .bool _
 ·exact .int _ _
 ·exact .str _
 ·exact .nilPtr
 ·exact .nil ⟨Nat.le_refl _,fun _=>rfl,fun t e=>by cases e⟩ fun _=>rfl
 ·exact .nilMap
 ·exact .nilFunc
theorem sB:∀ {vs:List Value} {az:List AV},nX vs=some az→vs.length=az.length∧∀ (i:Nat) (a:AV) (v:Value),az[i]? = some a→vs[i]? = some v→RelV G w a v
 |[],az,h=>by simp [nX] at h;subst h;exact ⟨rfl,fun i a v h=>by simp at h⟩
 |v::vs,az,h=>by
  simp only [nX] at h
  split at h
  ·rename_i a b h1 h2
   cases h
   obtain ⟨l,r⟩:=sB h2
   refine ⟨by simp [l],fun i x u hx hu=>?_⟩
   cases i with
   |zero=>simp at hx hu;subst hx;subst hu;exact tX h1
   |succ i=>simp at hx hu;exact r i x u hx hu
  ·cases h
theorem qN {v:Value} {a:AV} (h:ofValue v=some a):RelV G w a v:=by
 unfold ofValue at h
 split at h
 ·rename_i cs
  split at h
  ·rename_i l hl
   cases h
   obtain ⟨q,r⟩:=sB hl
   exact .agg (by simpa using q) fun i a v h1 h2=>r i a v h1 (by simpa using h2)
  ·cases h
 ·rename_i vs
  split at h
  ·rename_i hs
   cases h
   exact .tuple (by simpa using hs) fun i a v h1 _=>by simp at h1
  ·cases h
 ·exact tX h
theorem bW {n:Nat} {a:Act} {x:Operand} {x':AOpd} (hx:opd x=some x') (hE:eE G w n env a.tmps):RelV G w (x'.ev env) (a.eval x):=by
 cases x with
 |tmp t=>simp [opd] at hx;subst hx;exact hE.2 t
 |const v =>
  simp only [opd] at hx
  split at hx
  ·rename_i b hb;cases hx;exact qN hb
  ·cases hx
 |global g=>simp [opd] at hx
 |func f=>simp [opd] at hx;subst hx;exact .func rfl rfl (fun i a v h=>by simp at h) (fun i a v h=>by simp at h)
theorem II {n:Nat} {a:Act}:∀ {xs:List Operand} {ys:List AOpd},yU xs=some ys→eE G w n env a.tmps →
  xs.length=ys.length∧∀ (i:Nat) (y:AV) (v:Value),(ys.map (·.ev env))[i]? = some y→(xs.map a.eval)[i]? = some v→RelV G w y v
 |[],ys,h,_=>by simp [yU] at h;subst h;exact ⟨rfl,fun i a v h=>by simp at h⟩
 |x::xs,ys,h,hE=>by
  simp only [yU] at h
  split at h
  ·rename_i a b h1 h2
   cases h
   obtain ⟨l,r⟩:=II h2 hE
   refine ⟨by simp [l],fun i y u hy hu=>?_⟩
   cases i with
   |zero=>simp at hy hu;subst hy;subst hu;exact bW h1 hE
   |succ i=>simp only [List.map_cons,List.getElem?_cons_succ] at hy hu;exact r i y u hy hu
  ·cases h
theorem eF {t:TypeId} {n:Nat} (h:eK P t=some n) (w:World):(sizeOf t).run P w = .ok n w∧0<n∧∃ i,P.info? t=some i∧i.size=n:=by
 unfold eK at h
 split at h
 ·rename_i i hi
  split at h
  ·cases h
  ·cases h
   exact ⟨by simp [sizeOf,typeInfo,hi],by omega,i,hi,rfl⟩
 ·cases h
theorem iY {t:TypeId} {b:Bool} (h:eL P t=some b) (w:World):(isAgg t).run P w = .ok b w:=by
 unfold eL at h
 unfold isAgg
 split at h
 ·rename_i hu;cases h;simp [run_underlying hu]
 ·rename_i hu;cases h;simp [run_underlying hu]
 ·rename_i d h1 h2 hu
  cases h
  rw [Sem.run_bind,run_underlying hu]
  cases d<;>simp_all
 ·cases h
theorem oD {t:TypeId} {sh:Option Nat} (h:mB P t=some sh) :
  (sh=none∧eL P t=some false∧eK P t=some 1)∨(∃ n,sh=some n∧eL P t=some true∧eK P t=some n):=by
 unfold mB at h
 split at h
 ·rename_i n h1 h2;cases h;exact .inr ⟨n,rfl,h1,h2⟩
 ·rename_i h1 h2;cases h;exact .inl ⟨rfl,h1,h2⟩
 ·cases h
theorem g8 (b o i:Nat):(⟨b,o,none⟩:Addr).add i=⟨b,o+i,none⟩:=by unfold Addr.add;split<;>simp_all
def uA (G:Gh) (w:World) (cs:List AV) (b o:Nat):Prop :=
 ∀ (i:Nat) (c:AV),cs[i]? = some c→∃ u,w.cell? ⟨b,o+i,none⟩=some u∧RelV G w c u
theorem uA.list {cs:List AV} {b o:Nat} (h:uA G w cs b o) :
  ∃ vs:List Value,vs.length=cs.length∧(∀ (j:Nat) (v:Value),vs[j]? = some v→w.cell? ((⟨b,o,none⟩:Addr).add j)=some v) ∧
   ∀ (i:Nat) (c:AV) (v:Value),cs[i]? = some c→vs[i]? = some v→RelV G w c v:=by
 induction cs generalizing o with
 |nil=>exact ⟨[],rfl,fun j v h=>by simp at h,fun i c v h=>by simp at h⟩
 |cons c cs ih =>
  obtain ⟨u,hu,hr⟩:=h 0 c rfl
  obtain ⟨vs,l,h1,h2⟩:=ih (o:=o+1) fun i d hd=>by
   obtain ⟨u,q,r⟩:=h (i+1) d (by simpa using hd)
   exact ⟨u,by rw [show o+1+i=o+(i+1) from by omega];exact q,r⟩
  refine ⟨u::vs,by simp [l],fun j v hj=>?_,fun i d v hd hv=>?_⟩
  ·cases j with
   |zero=>simp at hj;subst hj;rw [g8];exact hu
   |succ j=>simp at hj;have:=h1 j v hj;rw [g8] at this ⊢;rw [show o+(j+1)=o+1+j from by omega];exact this
  ·cases i with
   |zero=>simp at hd hv;subst hd;subst hv;exact hr
   |succ i=>simp at hd hv;exact h2 i d v hd hv
theorem uA.sub {cs:List AV} {b o:Nat} (h:uA G w cs b o) (k n:Nat):uA G w ((cs.drop k).take n) b (o+k):=by
 intro i c hc
 rw [List.getElem?_take] at hc
 split at hc
 ·rw [List.getElem?_drop] at hc
  obtain ⟨u,q,r⟩:=h _ _ hc
  exact ⟨u,by rw [Nat.add_assoc];exact q,r⟩
 ·cases hc
theorem v7 {t:TypeId} {sh:Option Nat} {cs:List AV} {b o off:Nat} {v:AV} (ht:mB P t=some sh) (hr:uA G w cs b o) (hv:eY sh cs off=some v) :
  ∃ u,(loadVar t ⟨b,o+off,none⟩).run P w = .ok u w∧RelV G w v u:=by
 rcases oD ht with ⟨rfl,h1,h2⟩|⟨n,rfl,h1,h2⟩
 ·simp only [eY] at hv
  obtain ⟨u,hu,r⟩:=hr _ _ hv
  refine ⟨u,?_,r⟩
  simp [loadVar,iY h1,run_load,hu]
 ·simp only [eY] at hv
  split at hv
  ·rename_i hle
   cases hv
   obtain ⟨vs,l,h3,h4⟩:=(hr.sub off n).list
   have hl:vs.length=n:=by rw [l];simp;omega
   have hrun:=run_loadCells_list (P:=P) w ⟨b,o+off,none⟩ vs h3
   rw [hl] at hrun
   obtain ⟨hs,_⟩:=eF h2 w
   refine ⟨.agg vs.toArray,?_,.agg (by simp [l]) fun i a v e1 e2=>h4 i a v e1 (by simpa using e2)⟩
   simp [loadVar,iY h1,hs,hrun]
  ·cases hv
theorem nA {id:Nat} {cs:List AV} {b:Nat} (h:RelS P hh G w σ) (hl:G.loc id=some b) (hc:aH σ id=some cs):uA G w cs b 0:=by
 unfold aH at hc
 split at hc
 ·rename_i ds he
  cases hc
  obtain ⟨vs,T,e,l,r⟩:=h.blk _ _ _ hl he
  intro i c hi
  have h1:i<vs.size:=by have:=(List.getElem?_eq_some_iff.1 hi).1;omega
  refine ⟨vs[i],?_,r i c _ hi (Array.getElem?_eq_getElem h1)⟩
  rw [Nat.zero_add,cell_of_row w b i vs T (0,0) e]
  exact Array.getElem?_eq_getElem h1
 ·cases hc
theorem JY {xs:List AV} {tk:Option Nat} {b o sz i:Nat} {x:AV} (hl:LitAt G w xs tk b o sz)
  (hc:∀ (i:Nat) (x:AV) (j:Nat) (c:AV) (u:Value),xs[i]? = some x→x.cells[j]? = some c→w.cell? ⟨b,o+(i*sz+j),none⟩=some u→RelV G w c u)
  (hx:xs[i]? = some x):uA G w x.cells b (o+i*sz):=by
 intro j c hj
 have h1:=hl.cells _ (hl.cellOf hx hj)
 obtain ⟨u,hu⟩:=Option.isSome_iff_exists.1 h1
 exact ⟨u,by rw [Nat.add_assoc];exact hu,hc i x j c u hx hj hu⟩
theorem uE {t:TypeId} {sh:Option Nat} {x v:AV} {u:Value} (hS:RelS P hh G w σ) (ht:mB P t=some sh) (hx:RelV G w x u) (h:jL sh σ x=some v) :
  ∃ a r,u = .pointer (some a)∧(loadVar t a).run P w = .ok r w∧RelV G w v r:=by
 unfold jL at h
 split at h
 ·rename_i id off
  split at h
  ·rename_i cs hcs
   cases hx with
   |ptr hl =>
    obtain ⟨r,h1,h2⟩:=v7 ht (nA hS hl hcs) h
    rw [Nat.zero_add] at h1
    exact ⟨_,r,rfl,h1,h2⟩
  ·cases h
 ·rename_i xs i off tk
  split at h
  ·rename_i y hy
   cases hx with
   |lptr h1 h2 h3 h4 =>
    obtain ⟨r,q1,q2⟩:=v7 ht (JY h3 h4 hy) h
    exact ⟨_,r,rfl,q1,q2⟩
  ·cases h
 ·cases h
theorem nG {cs vs cs':List AV} {off:Nat} (h:fJ cs off vs=some cs') :
  off+vs.length≤cs.length∧cs'=cs.take off++vs++cs.drop (off+vs.length)∧cs'.length=cs.length:=by
 unfold fJ at h
 split at h
 ·rename_i hl
  cases h
  exact ⟨hl,rfl,by simp;omega⟩
 ·cases h
theorem JR {cs vs:List AV} {cur us:List Value} {off:Nat} (hl:us.length=vs.length) (hle:off+vs.length≤cs.length) (hcur:cs.length≤cur.length)
  (h1:∀ (i:Nat) (a:AV) (v:Value),cs[i]? = some a→cur[i]? = some v→RelV G w a v) (h2:∀ (i:Nat) (a:AV) (v:Value),vs[i]? = some a→us[i]? = some v→RelV G w a v) :
  ∀ (i:Nat) (a:AV) (v:Value),(cs.take off++vs++cs.drop (off+vs.length))[i]? = some a→(cur.take off++us++cur.drop (off+us.length))[i]? = some v→RelV G w a v:=by
 intro i a v ha hv
 by_cases c1:i<off
 ·rw [List.append_assoc,List.getElem?_append_left (by simp;omega),List.getElem?_take,if_pos c1] at ha hv
  exact h1 i a v ha hv
 ·by_cases c2:i<off+vs.length
  ·rw [List.append_assoc,List.getElem?_append_right (by simp;omega),List.getElem?_append_left (by simp;omega)] at ha hv
   simp only [List.length_take] at ha hv
   rw [show min off cs.length=off from by omega] at ha
   rw [show min off cur.length=off from by omega] at hv
   exact h2 _ a v ha hv
  ·rw [List.getElem?_append_right (by simp;omega)] at ha hv
   simp only [List.length_append,List.length_take,List.getElem?_drop] at ha hv
   rw [show off+vs.length+(i-(min off cs.length+vs.length))=i from by omega] at ha
   rw [show off+us.length+(i-(min off cur.length+us.length))=i from by omega] at hv
   exact h1 i a v ha hv
theorem pS {id b off:Nat} {cs cs' vs:List AV} {us:List Value} (hS:RelS P hh G w σ) (hl:G.loc id=some b) (hc:aH σ id=some cs) (hset:fJ cs off vs=some cs')
  (hlen:us.length=vs.length) (hr:∀ (i:Nat) (a:AV) (v:Value),vs[i]? = some a→us[i]? = some v→RelV G w a v) (h1:∀ u∈us,u.oneCell'=true) :
  ∃ w',(storeCells ⟨b,off,none⟩ us).run P w = .ok () w'∧RelS P hh G w' (σ.set id (.cells cs'))∧Evo G w G w':=by
 unfold aH at hc
 split at hc
 ·rename_i ds he
  cases hc
  obtain ⟨cur,T,e,l,r⟩:=hS.blk _ _ _ hl he
  obtain ⟨q1,q2,q3⟩:=nG hset
  have hrun:=run_storeCells_at P b off T us 0 cur w e (by omega) h1
  rw [Nat.add_zero] at hrun
  refine ⟨_,hrun,?_⟩
  have hp:=wC w b (cur.toList.take off++us++cur.toList.drop (off+us.length)).toArray
  have hev:=mH hp (hS.fresh _ _ hl).2.2.1
  refine hS.write hl hp he (fun _ _ _ h=>by cases h) ⟨_,T,setRow_heap w b cur _ T _ e,?_,fun i a v ha hv=>?_⟩
  ·simp;omega
  ·refine RelV.mono hev ?_
   rw [q2] at ha
   exact JR (cs:=_) (cur:=cur.toList) hlen q1 (by simpa using l) (fun i a v h3 h4=>r i a v h3 (by simpa using h4)) hr i a v ha (by simpa using hv)
 ·cases hc
theorem zY {t:TypeId} {n:Nat} {x y:AV} {u v:Value} {σ':St} (hS:RelS P hh G w σ) (ht:eK P t=some n) (hx:RelV G w x u) (hy:RelV G w y v) (h:mW n σ x y=some σ') :
  ∃ a w',u = .pointer (some a)∧(storeVar t a v).run P w = .ok () w'∧RelS P hh G w' σ'∧Evo G w G w':=by
 unfold mW at h
 split at h
 ·rename_i id off
  split at h
  ·rename_i hcond
   simp only [Bool.and_eq_true,beq_iff_eq] at hcond
   split at h
   ·rename_i cs hcs
    split at h
    ·rename_i cs' hset
     cases h
     cases hx with
     |ptr hl =>
      obtain ⟨k1,k2,k3⟩:=hy.cells hcond.2
      obtain ⟨w',e1,e2,e3⟩:=pS (us:=v.cells.toList) hS hl hcs hset (by simpa using k1) (fun i a v h3 h4=>k2 i a v h3 (by simpa using h4)) k3
      refine ⟨_,w',rfl,?_,e2,e3⟩
      obtain ⟨hs,_⟩:=eF ht w
      have hne:¬v.cells.size≠n:=by rw [k1,hcond.1];simp
      simp only [storeVar,Sem.run_bind,hs,Result.andThen_ok,hne,if_false]
      exact e1
    ·cases h
   ·cases h
  ·cases h
 ·cases h
end Go.Am
