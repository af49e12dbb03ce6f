/- A part of the proof of TopRipening: an abstract machine, or what functions come to on it. -/
import GoSem.Dispatch
import Derived.RangeFuncLeaves
import Derived.OrdersIn
import Derived.Laws.AppendOwn
import Derived.Laws.CopyRow
import Derived.Laws.Rows
import Derived.Below
import Derived.Laws.Entries
set_option linter.unusedVariables false
set_option linter.unusedSimpArgs false
set_option linter.defProp false
namespace Go.Am
inductive AV where
 |undef
 |int (k:IntKind) (n:Int)
 |bool (b:Bool)
 |str (s:ByteArray)
 |func (f:FuncId) (first cap:List AV)
 |nilFunc
 |yield (id:Nat)
 |ptr (id off:Nat)
 |nilPtr
 /-- into the i-th element of a list,of the token's block -/
 |lptr (xs:List AV) (i off:Nat) (tk:Option Nat)
 /-- a slice that reads az a list;'full': its capacity is its length;'tk': the token of its block,if it is known to have one -/
 |lit (xs:List AV) (full:Bool) (tk:Option Nat)
 |ref (id off len sz:Nat)
 |map (id:Nat)
 |nilMap
 |agg (cells:List AV)
 |tuple (vs:List AV)
 deriving Inhabited
def AV.cells:AV→List AV
 |.agg cs=>cs
 |v=>[v]
def AV.cell:AV→Bool
 |.undef|.agg _|.tuple _=>false
 |_=>true
inductive SK where
 |i|b|s
 deriving DecidableEq,Repr,Inhabited
inductive EqTy where
 |one (k:SK)
 |agg (ks:List SK)
 deriving DecidableEq,Repr,Inhabited
abbrev Env:=List (Nat×AV)
def Env.get:Env→Nat→AV
 |[],_=>.undef
 |(k,v)::e,t=>if k=t then v else Env.get e t
def Env.put (e:Env) (d:Option Nat) (v:AV):Env :=
 match d with
 |some d=>(d,v)::e
 |none=>e
inductive AOpd where
 |t (n:Nat)
 |c (v:AV)
 deriving Inhabited
def AOpd.ev (e:Env):AOpd→AV
 |.t n=>Env.get e n
 |.c v=>v
inductive AOp where
 |mov (x:AOpd)
 |pick (c a b:AOpd)
 |alloc (zero:List AV)
 |box (n:Nat) (x:AOpd)
 |build (zero:List AV) (parts:List (Nat×Nat×AOpd))
 |mklit (sz:Nat) (xs:List AOpd)
 |mkref (sz:Nat) (xs:List AOpd)
 |load (sh:Option Nat) (x:AOpd)
 |store (n:Nat) (a x:AOpd)
 |nilCheck (x:AOpd)
 |bin (op:BinOp) (x y:AOpd)
 |eql (sh:EqTy) (neg:Bool) (x y:AOpd)
 |not (x:AOpd)
 |neg (x:AOpd)
 |conv (k:IntKind) (x:AOpd)
 |mkfun (f:FuncId) (first cap:List AOpd)
 |mkmap
 |mkslice (zero:List AV) (bytes:Nat) (l c:AOpd)
 |slicev (sz:Nat) (x:AOpd) (lo hi mx:Option AOpd)
 |slicea (n sz:Nat) (x:AOpd) (lo hi:Option AOpd)
 |faddr (x:AOpd) (off:Nat)
 |field (x:AOpd) (off:Nat) (sh:Option Nat)
 |iaddr (arr:Option Nat) (sz:Nat) (x i:AOpd)
 |index (len sz:Nat) (sh:Option Nat) (x i:AOpd)
 |sindex (x i:AOpd)
 |lookup (sh:EqTy) (ok:Bool) (zero:AV) (m k:AOpd)
 |mapset (sh:EqTy) (m k v:AOpd)
 |srange (x:AOpd)
 |snext (x:AOpd)
 |mrange (x:AOpd)
 |mnext (x:AOpd)
 |entry (x:AOpd)
 |ext (x:AOpd) (i:Nat)
 /-- of a string (0),a slice (1),a map (2) -/
 |len (k:Nat) (x:AOpd)
 |append (sz bytes:Nat) (x y:AOpd)
 |apref (sz bytes:Nat) (x y:AOpd)
 |copy (sz:Nat) (x y:AOpd)
 |min (xs:List AOpd)
 |max (xs:List AOpd)
 |call (f:AOpd) (args:List AOpd)
 deriving Inhabited
structure AOper where
 dst:Option Nat
 op:AOp
 /-- the temporary that must hold this bool -/
 guard:Option (Nat×Bool)
 deriving Inhabited
structure ADOper where
 o:AOper
 lo:Nat
 hi:Nat
 deriving Inhabited
inductive AJump where
 |ret
 |exit (id:Nat)
 deriving DecidableEq,Repr,Inhabited
inductive ACode where
 |skip
 |reg (ops:List AOper)
 |dreg (ops:List ADOper)
 |seq (a b:ACode)
 |cond (c:AOpd) (a b:ACode)
 |block (id:Nat) (b:ACode)
 |loop (b:ACode)
 |rangeFunc (f:AOpd) (params:List Nat) (assign body:ACode)
 |jump (j:AJump)
 |scope (b:ACode)
 deriving Inhabited
inductive LS where
 |ready|busy|done
 deriving DecidableEq,Repr,Inhabited
inductive ABlk where
 |cells (cs:List AV)
 |map (es:List (AV×AV))
 /-- a token: the size of an element,how many elements the slice has that may grow,and whether its block is no one else's -/
 |tok (sz n:Nat) (excl:Bool)
 |siter (s:ByteArray) (pos:Nat)
 /-- an iterator over a map that had so many entries: the places of those that are to come,and of the last one -/
 |miter (m n:Nat) (left:List Nat) (last:Option Nat)
 |loop (st:LS) (pend:Option AJump) (env:Env) (params:List Nat) (assign body:ACode)
 |dead
 deriving Inhabited
abbrev St:=List ABlk
inductive ARes where
 |tmp (t:Nat)
 |cell (t:Nat) (sh:Option Nat)
 deriving Inhabited
structure AFunc where
 ntmps:Nat
 results:List ARes
 body:ACode
 deriving Inhabited
def gC (sh:Option Nat) (cs:List AV) (off:Nat):Option AV :=
 match sh with
 |none=>cs[off]?
 |some n=>if off+n≤cs.length then some (.agg ((cs.drop off).take n)) else none
def fX (cs:List AV) (off:Nat) (vs:List AV):Option (List AV) :=
 if off+vs.length≤cs.length then some (cs.take off++vs++cs.drop (off+vs.length)) else none
def g9:SK→AV→AV→Option Bool
 |.i,.int k a,.int k' b=>if k=k' then some (a==b) else none
 |.b,.bool a,.bool b=>some (a==b)
 |.s,.str a,.str b=>some (a.toList==b.toList)
 |_,_,_=>none
def bK:List SK→List AV→List AV→Option Bool
 |[],[],[]=>some true
 |k::ks,a::x,b::y =>
  match g9 k a b,bK ks x y with
  |some p,some q=>some (p&&q)
  |_,_=>none
 |_,_,_=>none
def jV:EqTy→AV→AV→Option Bool
 |.one k,x,y=>g9 k x y
 |.agg ks,.agg cs,.agg ds=>bK ks cs ds
 |_,_,_=>none
def bits (op:BinOp) (k:IntKind) (x y:Int):Int :=
 let a:=BitVec.ofInt k.bits x
 let b:=BitVec.ofInt k.bits y
 match op with
 |.and=>k.wrap (a &&& b).toNat
 |.or=>k.wrap (a|||b).toNat
 |.xor=>k.wrap (a ^^^ b).toNat
 |_=>k.wrap (a &&& ~~~b).toNat
def j5 (op:BinOp) (k:IntKind) (a b:Int):Option AV :=
 match op with
 |.add=>some (.int k (k.wrap (a+b)))
 |.sub=>some (.int k (k.wrap (a-b)))
 |.mul=>some (.int k (k.wrap (a*b)))
 |.quo=>if b=0 then none else some (.int k (k.wrap (a.tdiv b)))
 |.rem=>if b=0 then none else some (.int k (a.tmod b))
 |.and=>some (.int k (bits .and k a b))
 |.or=>some (.int k (bits .or k a b))
 |.xor=>some (.int k (bits .xor k a b))
 |.andNot=>some (.int k (bits .andNot k a b))
 |.lss=>some (.bool (decide (a<b)))
 |.leq=>some (.bool (decide (a≤b)))
 |.gtr=>some (.bool (decide (a > b)))
 |.geq=>some (.bool (decide (a≥b)))
 |_=>none
def d7 (op:BinOp) (x y:AV):Option AV :=
 match x,y with
 |.int k a,.int k' b =>
  match op with
  |.shl=>if b<0 then none else some (.int k (k.wrap (a*2^(Nat.min b.toNat k.bits))))
  |.shr=>if b<0 then none else some (.int k (a.fdiv (2^(Nat.min b.toNat k.bits))))
  |op=>if k=k' then j5 op k a b else none
 |_,_=>none
def fP:AV→Option Int
 |.int _ n=>some n
 |_=>none
def bV (e:Env) (d:Nat):Option AOpd→Option Int
 |none=>some d
 |some x=>fP (x.ev e)
def aU (n:Nat) (xs:List AV):Bool:=xs.all fun x=>x.cells.length==n&&x.cells.all (·.cell)
def wM (n:Nat):AV→Bool
 |.ref _ _ _ sz=>sz==n
 |_=>true
def cF (e:Env) (cs:List AV):List (Nat×Nat×AOpd)→Option (List AV)
 |[]=>some cs
 |(off,n,x)::rest =>
  if ((x.ev e).cells.length==n&&(x.ev e).cells.all (·.cell))=true then
   match fX cs off (x.ev e).cells with
   |some cs=>cF e cs rest
   |none=>none
  else none
def aM (σ:St) (id:Nat):Option (List AV) :=
 match σ[id]? with
 |some (.cells cs)=>some cs
 |_=>none
def DA (sz:Nat):Nat→List AV→List AV
 |0,_=>[]
 |n+1,cs=>(if sz=1∧(cs.headD .undef).cell=true then cs.headD .undef else .agg (cs.take sz))::DA sz n (cs.drop sz)
def o9 (σ:St):AV→Option (List AV)
 |.lit xs _ _=>some xs
 |.ref id off len sz =>
  match aM σ id with
  |some cs=>if off+len*sz≤cs.length then some (DA sz len (cs.drop off)) else none
  |none=>none
 |_=>none
def findKey (sh:EqTy) (k:AV):List (AV×AV)→Option (Option AV)
 |[]=>some none
 |(k',v)::es =>
  match jV sh k k' with
  |some true=>some (some v)
  |some false=>findKey sh k es
  |none=>none
def mF (sh:EqTy) (k v:AV):List (AV×AV)→Option (List (AV×AV))
 |[]=>some [(k,v)]
 |(k',v')::es =>
  match jV sh k k' with
  |some true=>some ((k,v)::es)
  |some false=>(mF sh k v es).map ((k',v')::·)
  |none=>none
def wG (sh:EqTy) (σ:St) (m k:AV):Option (Option AV) :=
 match m with
 |.nilMap=>if (jV sh k k).isSome=true then some none else none
 |.map id =>
  match σ[id]? with
  |some (.map es)=>if (jV sh k k).isSome=true then findKey sh k es else none
  |_=>none
 |_=>none
def lP (sh:Option Nat) (σ:St):AV→Option AV
 |.ptr id off =>
  match aM σ id with
  |some cs=>gC sh cs off
  |none=>none
 |.lptr xs i off _ =>
  match xs[i]? with
  |some x=>gC sh x.cells off
  |none=>none
 |_=>none
def pE (n:Nat) (σ:St) (a v:AV):Option St :=
 match a with
 |.ptr id off =>
  if (v.cells.length==n&&v.cells.all (·.cell))=true then
   match aM σ id with
   |some cs =>
    match fX cs off v.cells with
    |some cs'=>some (σ.set id (.cells cs'))
    |none=>none
   |none=>none
  else none
 |_=>none
def uH (sz:Nat) (xs:List AV) (l h:Int):Bool :=
 decide (l=h)||(match xs[l.toNat]? with|some x=>x.cells.length==sz|none=>false)
def mL (sz:Nat) (x:AV) (l h:Int) (full:Bool):Option AV :=
 match x with
 |.lit xs fl tk =>
  if 0≤l∧l≤h∧h≤xs.length∧uH sz xs l h=true then
   some (.lit ((xs.drop l.toNat).take (h.toNat-l.toNat)) (full||(fl&&decide (h=xs.length))) tk)
  else none
 |.ref id off len sz' =>
  if 0≤l∧l≤h∧h≤len∧sz'=sz then some (.ref id (off+l.toNat*sz) (h.toNat-l.toNat) sz) else none
 |_=>none
def iY (k:Nat) (σ:St) (x:AV):Option Nat :=
 match k,x with
 |0,.str s=>some s.size
 |1,.lit xs _ _=>some xs.length
 |1,.ref _ _ len _=>some len
 |2,.nilMap=>some 0
 |2,.map id=>match σ[id]? with|some (.map es)=>some es.length|_=>none
 |_,_=>none
def room:Nat:=2^47
def cZ (sz bytes:Nat) (σ:St) (x y:AV):Option (AV×St) :=
 match x,o9 σ y with
 |.lit xs full tk,some ys =>
  if ys.length=0 then some (.lit xs full tk,σ) else
  if (wM sz y&&aU sz xs&&aU sz ys&&decide ((xs.length+ys.length)*bytes≤room)&&decide (xs.length+ys.length≤room))=true then
   if full=true then some (.lit (xs++ys) false (some σ.length),σ++[.tok sz (xs.length+ys.length) true])
   else
    match tk with
    |some t =>
     match σ[t]? with
     |some (.tok sz' n _)=>if sz'=sz∧n=xs.length then some (.lit (xs++ys) false (some t),σ.set t (.tok sz (xs.length+ys.length) true)) else none
     |_=>none
    |none=>none
  else none
 |_,_=>none
def uY (sz bytes:Nat) (σ:St) (x y:AV):Option (AV×St) :=
 match x,o9 σ y with
 |.lit xs full tk,some ys =>
  if ys.length=0 then some (.lit xs full tk,σ) else
  if (full&&wM sz y&&aU sz (xs++ys)&&decide ((xs.length+ys.length)*bytes≤room)&&decide (xs.length+ys.length≤room))=true then
   some (.ref σ.length 0 (xs.length+ys.length) sz,σ++[.cells ((xs++ys).flatMap AV.cells)])
  else none
 |_,_=>none
def pT (sz:Nat) (σ:St) (x y:AV):Option (AV×St) :=
 match x,o9 σ y with
 |.ref id off len sz',some ys =>
  let zs:=ys.take len
  if (decide (sz'=sz)&&wM sz y&&aU sz ys)=true then
   match aM σ id with
   |some cs =>
    match fX cs off (zs.flatMap AV.cells) with
    |some cs'=>some (.int .i64 (Nat.min ys.length len),σ.set id (.cells cs'))
    |none=>none
   |none=>none
  else none
 |_,_=>none
def uV (k:IntKind) (a:Int):List AV→Option AV
 |[]=>some (.int k a)
 |.int k' b::rest=>if k'=k then uV k (if b<a then b else a) rest else none
 |_=>none
def zO:List AV→Option AV
 |.int k a::rest=>uV k a rest
 |_=>none
def uU (k:IntKind) (a:Int):List AV→Option AV
 |[]=>some (.int k a)
 |.int k' b::rest=>if k'=k then uU k (if b > a then b else a) rest else none
 |_=>none
def zR:List AV→Option AV
 |.int k a::rest=>uU k a rest
 |_=>none
def aop (op:AOp) (e:Env) (σ:St):Option (AV×St) :=
 match op with
 |.mov x=>some (x.ev e,σ)
 |.pick c a b=>match c.ev e with|.bool true=>some (a.ev e,σ)|.bool false=>some (b.ev e,σ)|_=>none
 |.alloc zero=>some (.ptr σ.length 0,σ++[.cells zero])
 |.box n x=>if ((x.ev e).cells.length==n&&(x.ev e).cells.all (·.cell))=true then some (.ptr σ.length 0,σ++[.cells (x.ev e).cells]) else none
 |.build zero parts=>match cF e zero parts with|some cs=>some (.agg cs,σ)|none=>none
 |.mklit sz xs=>if aU sz (xs.map (·.ev e))=true then some (.lit (xs.map (·.ev e)) true none,σ) else none
 |.mkref sz xs=>if aU sz (xs.map (·.ev e))=true then some (.ref σ.length 0 xs.length sz,σ++[.cells ((xs.map (·.ev e)).flatMap AV.cells)]) else none
 |.load sh x=>match lP sh σ (x.ev e) with|some v=>some (v,σ)|none=>none
 |.store n a x=>match pE n σ (a.ev e) (x.ev e) with|some σ'=>some (.tuple [],σ')|none=>none
 |.nilCheck x=>match x.ev e with|.ptr i o=>some (.ptr i o,σ)|.lptr xs i o t=>some (.lptr xs i o t,σ)|.func f a b=>some (.func f a b,σ)|.yield i=>some (.yield i,σ)|_=>none
 |.bin op x y=>match d7 op (x.ev e) (y.ev e) with|some v=>some (v,σ)|none=>none
 |.eql sh neg x y=>match jV sh (x.ev e) (y.ev e) with|some b=>some (.bool (if neg then !b else b),σ)|none=>none
 |.not x=>match x.ev e with|.bool b=>some (.bool !b,σ)|_=>none
 |.neg x=>match x.ev e with|.int k n=>some (.int k (k.wrap (0-n)),σ)|_=>none
 |.conv k x=>match x.ev e with|.int _ n=>some (.int k (k.wrap n),σ)|_=>none
 |.mkfun f first cap=>some (.func f (first.map (·.ev e)) (cap.map (·.ev e)),σ)
 |.mkmap=>some (.map σ.length,σ++[.map []])
 |.mkslice zero bytes l c =>
  match l.ev e,c.ev e with
  |.int _ n,.int _ m=>if 0≤n∧n=m∧n*bytes≤room∧n≤room then some (.ref σ.length 0 n.toNat zero.length,σ++[.cells (List.replicate n.toNat zero).flatten]) else none
  |_,_=>none
 |.slicev sz x lo hi mx =>
  match iY 1 σ (x.ev e) with
  |none=>none
  |some n =>
   match bV e 0 lo,bV e n hi,mx.map (fun m=>fP (m.ev e)) with
   |some l,some h,none=>(match mL sz (x.ev e) l h false with|some v=>some (v,σ)|none=>none)
   |some l,some h,some (some m)=>if m=h∧hi.isSome=true then (match mL sz (x.ev e) l h true with|some v=>some (v,σ)|none=>none) else none
   |_,_,_=>none
 |.slicea n sz x lo hi =>
  match x.ev e,bV e 0 lo,bV e n hi with
  |.ptr id off,some l,some h=>if 0≤l∧l≤h∧h≤n then some (.ref id (off+l.toNat*sz) (h.toNat-l.toNat) sz,σ) else none
  |_,_,_=>none
 |.faddr x off=>match x.ev e with|.ptr id o=>some (.ptr id (o+off),σ)|.lptr xs i o t=>some (.lptr xs i (o+off) t,σ)|_=>none
 |.field x off sh=>match x.ev e with|.agg cs=>(match gC sh cs off with|some v=>some (v,σ)|none=>none)|_=>none
 |.iaddr arr sz x i =>
  match fP (i.ev e),arr,x.ev e with
  |some j,some n,.ptr id off=>if 0≤j∧j<n then some (.ptr id (off+j.toNat*sz),σ) else none
  |some j,some n,.lptr xs q off t=>if 0≤j∧j<n then some (.lptr xs q (off+j.toNat*sz) t,σ) else none
  |some j,none,.lit xs _ t =>
   match xs[j.toNat]? with
   |some y=>if 0≤j∧y.cells.length=sz then some (.lptr xs j.toNat 0 t,σ) else none
   |none=>none
  |some j,none,.ref id off len sz'=>if 0≤j∧j<len∧sz'=sz then some (.ptr id (off+j.toNat*sz),σ) else none
  |_,_,_=>none
 |.index n sz sh x i =>
  match fP (i.ev e),x.ev e with
  |some j,.agg cs=>if 0≤j∧j<n then (match gC sh cs (j.toNat*sz) with|some v=>some (v,σ)|none=>none) else none
  |_,_=>none
 |.sindex x i =>
  match fP (i.ev e),x.ev e with
  |some j,.str s=>if 0≤j then (match s[j.toNat]? with|some b=>some (.int .u8 b.toNat,σ)|none=>none) else none
  |_,_=>none
 |.lookup sh ok zero m k =>
  match wG sh σ (m.ev e) (k.ev e) with
  |some (some v)=>some (if ok then .tuple [v,.bool true] else v,σ)
  |some none=>some (if ok then .tuple [zero,.bool false] else zero,σ)
  |none=>none
 |.mapset sh m k v =>
  match m.ev e with
  |.map id =>
   if (jV sh (k.ev e) (k.ev e)).isSome=false then none else
   match σ[id]? with
   |some (.map es)=>(match mF sh (k.ev e) (v.ev e) es with|some es'=>some (.tuple [],σ.set id (.map es'))|none=>none)
   |_=>none
  |_=>none
 |.srange x=>match x.ev e with|.str s=>some (.ptr σ.length 0,σ++[.siter s 0])|_=>none
 |.snext x =>
  match x.ev e with
  |.ptr id 0 =>
   match σ[id]? with
   |some (.siter s pos) =>
    if pos<s.size then
     some (.tuple [.bool true,.int .i64 pos,.int .i32 (Utf8.decode s pos).1],σ.set id (.siter s (pos+(Utf8.decode s pos).2)))
    else some (.tuple [.bool false],σ)
   |_=>none
  |_=>none
 |.mrange x =>
  match x.ev e with
  |.map id=>(match σ[id]? with|some (.map es)=>some (.ptr σ.length 0,σ++[.miter id es.length (List.range es.length) none])|_=>none)
  |_=>none
 |.mnext _=>none
 |.entry x =>
  match x.ev e with
  |.ptr id 0 =>
   match σ[id]? with
   |some (.miter m n _ (some i)) =>
    match σ[m]? with
    |some (.map es) =>
     if es.length=n then
      match es[i]? with
      |some (k,v)=>some (.tuple [k,v],σ)
      |none=>none
     else none
    |_=>none
   |_=>none
  |_=>none
 |.ext x i=>match x.ev e with|.tuple vs=>(match vs[i]? with|some v=>some (v,σ)|none=>none)|_=>none
 |.len k x=>match iY k σ (x.ev e) with|some n=>some (.int .i64 n,σ)|none=>none
 |.append sz bytes x y=>cZ sz bytes σ (x.ev e) (y.ev e)
 |.apref sz bytes x y=>uY sz bytes σ (x.ev e) (y.ev e)
 |.copy sz x y=>pT sz σ (x.ev e) (y.ev e)
 |.min xs=>match zO (xs.map (·.ev e)) with|some v=>some (v,σ)|none=>none
 |.max xs=>match zR (xs.map (·.ev e)) with|some v=>some (v,σ)|none=>none
 |.call _ _=>none
mutual
def okV (m:Nat):AV→Prop
 |.func _ first cap=>okVs m first∧okVs m cap
 |.yield id|.ptr id _|.ref id _ _ _|.map id=>id<m
 |.lptr xs _ _ tk|.lit xs _ tk=>(∀ t,tk=some t→t<m)∧okVs m xs
 |.agg cs=>okVs m cs
 |.tuple vs=>okVs m vs
 |_=>True
def okVs (m:Nat):List AV→Prop
 |[]=>True
 |v::vs=>okV m v∧okVs m vs
end
def aT (m:Nat):ABlk→Prop
 |.cells cs=>okVs m cs
 |.map es=>∀ p∈es,okV m p.1∧okV m p.2
 |.tok _ _ _|.siter _ _|.dead=>True
 |.miter id _ _ _=>id<m
 |.loop _ _ _ _ _ _=>False
mutual
def snap (σ:St) (m:Nat):Nat→AV→Option AV
 |d,.func f first cap=>match snaps σ m d first,snaps σ m d cap with|some a,some b=>some (.func f a b)|_,_=>none
 |_,.yield id=>if id<m then some (.yield id) else none
 |_,.ptr id off=>if id<m then some (.ptr id off) else none
 |_,.map id=>if id<m then some (.map id) else none
 |0,.ref id off len sz=>if id<m then some (.ref id off len sz) else none
 |d+1,.ref id off len sz =>
  if id<m then some (.ref id off len sz) else
  match o9 σ (.ref id off len sz) with
  |some xs=>if (decide (0<sz)&&aU sz xs)=true then (match snaps σ m d xs with|some ys=>some (.lit ys false none)|none=>none) else none
  |none=>none
 |d,.lit xs full tk =>
  match snaps σ m d xs with
  |some ys=>some (.lit ys full (tk.filter (· < m)))
  |none=>none
 |d,.agg cs=>match snaps σ m d cs with|some ys=>some (.agg ys)|none=>none
 |d,.tuple vs=>match snaps σ m d vs with|some ys=>some (.tuple ys)|none=>none
 |d,.lptr xs i off tk=>match snaps σ m d xs with|some ys=>some (.lptr ys i off (tk.filter (· < m)))|none=>none
 |_,v=>some v
termination_by d v=>(d,SizeOf.sizeOf v)
def snaps (σ:St) (m:Nat):Nat→List AV→Option (List AV)
 |_,[]=>some []
 |d,v::vs=>match snap σ m d v,snaps σ m d vs with|some a,some b=>some (a::b)|_,_=>none
termination_by d vs=>(d,SizeOf.sizeOf vs)
end
structure Out where
 j:Option AJump
 env:Env
 σ:St
 v:AV
structure ARead where
 lo:Nat
 hi:Nat
 op:AOp
 env:Env
 v:AV
inductive Task where
 |code (c:ACode) (env:Env) (σ:St)
 |ops (os:List AOper) (env:Env) (σ:St)
 |dops (os:List ADOper) (env:Env) (σ:St) (next:Nat) (hist:List St) (reads:List ARead)
 |call (f:FuncId) (args:List AV) (σ:St)
 |callv (f:AV) (args:List AV) (σ:St)
 |chain (az:List ACode) (env:Env) (σ:St)
def AOper.wanted (o:AOper) (env:Env):Option Bool :=
 match o.guard with
 |none=>some true
 |some (t,want) =>
  match Env.get env t with
  |.bool b=>some (b==want)
  |.tuple []=>some false
  |_=>none
def dX (os:List ADOper):List ABlk :=
 os.filterMap fun o=>match o.o.op with|.alloc z=>some (.cells z)|_=>none
def ARead.ok (r:ARead) (hist:List St):Prop :=
 ∀ j s,r.lo≤j→j≤r.hi→hist[j]? = some s→aop r.op r.env s=some (r.v,s)
def AOp.reads:AOp→Bool
 |.load ..|.lookup ..|.len ..|.slicev ..|.entry _=>true
 |_=>false
def AOp.allocs:AOp→Bool
 |.alloc _=>true
 |_=>false
def AOp.calls:AOp→Bool
 |.call ..|.mnext _=>true
 |_=>false
def AOp.acts:AOp→Bool
 |.store ..|.append ..|.apref ..|.mkref ..|.copy ..|.box ..|.mkmap|.mkslice ..|.mapset ..|.srange _|.snext _|.mrange _|.mnext _|.call ..=>true
 |_=>false
def fC:Nat→List AV→Env
 |_,[]=>[]
 |k,v::vs=>(k,v)::fC (k+1) vs
def k8 (env:Env) (σ:St):List ARes→Option (List AV)
 |[]=>some []
 |.tmp t::rs=>(k8 env σ rs).map (Env.get env t::·)
 |.cell t sh::rs =>
  match lP sh σ (Env.get env t),k8 env σ rs with
  |some v,some vs=>some (v::vs)
  |_,_=>none
def f9 (rs:List ARes) (env:Env) (σ:St):Option AV :=
 match k8 env σ rs with
 |some [v]=>some v
 |some vs=>some (.tuple vs)
 |none=>none
def pC (σ σ':St) (m i:Nat):Prop :=
 σ'[i]? = σ[i]?∨(∃ b,σ'[i]? = some b∧aT m b) ∨
  ∃ st pe st' pe' env ps a b,σ[i]? = some (.loop st pe env ps a b)∧σ'[i]? = some (.loop st' pe' env ps a b)
mutual
def clr:AV→AV
 |.func f a b=>.func f (clrs a) (clrs b)
 |.lptr xs i off tk=>.lptr (clrs xs) i off tk
 |.lit xs full tk=>.lit (clrs xs) (full&&tk.isSome) tk
 |.agg cs=>.agg (clrs cs)
 |.tuple vs=>.tuple (clrs vs)
 |.undef=>.undef
 |.int k n=>.int k n
 |.bool b=>.bool b
 |.str s=>.str s
 |.nilFunc=>.nilFunc
 |.yield i=>.yield i
 |.ptr i o=>.ptr i o
 |.nilPtr=>.nilPtr
 |.ref i o l s=>.ref i o l s
 |.map i=>.map i
 |.nilMap=>.nilMap
def clrs:List AV→List AV
 |[]=>[]
 |v::vs=>clr v::clrs vs
end
def NV (σ σ':St) (v:AV) (Q:Out→Prop):Prop :=
 Q ⟨none,[],σ',v⟩ ∨
 ∃ d v' v'',snap σ' σ.length d v=some v'∧(v''=v'∨v''=clr v')∧(∀ i,i<σ.length→pC σ σ' σ.length i)∧σ.length≤σ'.length∧Q ⟨none,[],σ'.take σ.length,v''⟩
def ZR (σ:St) (env':Env) (σ':St) (env'':Env) (m:Nat):Prop :=
 σ.length≤m∧m≤σ'.length∧(∀ p∈env'',p.2=Env.get env' p.1∧okV m p.2) ∧
 ∀ i,i<m→(i<σ.length∧pC σ σ' m i)∨∃ b,σ'[i]? = some b∧aT m b
def pR (env:Env):List Nat→List AV→Env
 |p::ps,v::vs=>pR (Env.put env (some p) v) ps vs
 |_,_=>env
mutual
def Scal:AV→Prop
 |.int _ _|.bool _|.str _=>True
 |.lit [] _ none=>True
 |.agg cs=>Scals cs
 |.tuple vs=>Scals vs
 |_=>False
def Scals:List AV→Prop
 |[]=>True
 |v::vs=>Scal v∧Scals vs
end
def RJ (σ:St) (m:Nat) (v v':AV):Prop:=(v'=v∧okV m v)∨∃ d v1,snap σ m d v=some v1∧(v'=v1∨v'=clr v1)
def TZ (σ:St) (m:Nat):List AV→List AV→Prop
 |[],[]=>True
 |a::az,b::bs=>RJ σ m a b∧TZ σ m az bs
 |_,_=>False
def N3 (σ:St) (m:Nat) (env:Env):Env→Prop
 |[]=>True
 |(t,v)::e=>RJ σ m (Env.get env t) v∧N3 σ m env e
def aAE (σ:St) (env':Env) (σ':St) (m i:Nat) (b:ABlk):Prop :=
 (i<σ.length∧pC σ σ' m i∧σ'[i]? = some b)∨(σ'[i]? = some b∧aT m b) ∨
  ∃ cs cs',σ'[i]? = some (.cells cs)∧b = .cells cs'∧TZ σ' m cs cs'∧(σ.length≤i∨∃ t off,Env.get env' t = .ptr i off)
def CH (σ:St) (env':Env) (σ':St) (env'':Env) (σ'':St):Prop :=
 σ.length≤σ''.length∧σ''.length≤σ'.length∧N3 σ' σ''.length env' env''∧∀ i,i<σ''.length→∃ b,σ''[i]? = some b∧aAE σ env' σ' σ''.length i b
mutual
def noTok (t:Nat):AV→Prop
 |.func _ first cap=>noToks t first∧noToks t cap
 |.lptr xs _ _ tk|.lit xs _ tk=>tk≠some t∧noToks t xs
 |.agg cs=>noToks t cs
 |.tuple vs=>noToks t vs
 |_=>True
def noToks (t:Nat):List AV→Prop
 |[]=>True
 |v::vs=>noTok t v∧noToks t vs
end
def aCD (t:Nat):ABlk→Prop
 |.cells cs=>noToks t cs
 |.map es=>∀ p∈es,noTok t p.1∧noTok t p.2
 |.loop _ _ _ _ _ _=>False
 |_=>True
def PO:List ACode→ACode→ACode
 |[],c=>c
 |a::az,c=>.seq a (PO az c)
def TD (n0:Nat) (env:Env) (σ:St) (env':Env) (σ':St):Prop :=
 ∃ t p xs sz,n0≤t∧aU sz xs=true∧σ[t]? = some (.tok sz xs.length true)∧env=(p,.lit xs false (some t))::env.tail∧noToks t xs∧(∀ q∈env.tail,noTok t q.2)∧(∀ i b,i≠t→σ[i]? = some b→aCD t b) ∧
  env'=(p,.ref t 0 xs.length sz)::env.tail∧σ'=σ.set t (.cells (xs.flatMap AV.cells))
inductive Run (T:FuncId→Option AFunc):Task→(Out→Prop)→Prop where
 |mono {t Q R} (h:Run T t R) (hq:∀ o,R o→Q o):Run T t Q
 |skip {env σ Q} (h:Q ⟨none,env,σ,.undef⟩):Run T (.code .skip env σ) Q
 |jump {j env σ Q} (h:Q ⟨some j,env,σ,.undef⟩):Run T (.code (.jump j) env σ) Q
 |seq {a b env σ Q R} (h:Run T (.code a env σ) R) (h1:∀ o,R o→o.j=none→Run T (.code b o.env o.σ) Q) (h2:∀ o,R o→o.j≠none→Q o) :
   Run T (.code (.seq a b) env σ) Q
 |cond {c x y env σ Q} (b:Bool) (hc:c.ev env = .bool b) (h:Run T (.code (if b then x else y) env σ) Q):Run T (.code (.cond c x y) env σ) Q
 |block {id b env σ Q R} (h:Run T (.code b env σ) R) (h1:∀ o,R o→Q (if o.j=some (.exit id) then { o with j:=none } else o)) :
   Run T (.code (.block id b) env σ) Q
 |loop {b env σ Q R} (h:Run T (.code b env σ) R) (h1:∀ o,R o→o.j=none→Run T (.code (.loop b) o.env o.σ) Q) (h2:∀ o,R o→o.j≠none→Q o) :
   Run T (.code (.loop b) env σ) Q
 |scope {b env σ Q} (h:Run T (.code b env σ) Q):Run T (.code (.scope b) env σ) Q
 |reg {os env σ Q} (h:Run T (.ops os env σ) Q):Run T (.code (.reg os) env σ) Q
 |dreg {os env σ Q} (h:Run T (.dops os env (σ++dX os) σ.length [σ++dX os] []) Q):Run T (.code (.dreg os) env σ) Q
 |rangeFunc {f g first cap ps a b env σ Q R} (hf:f.ev env = .func g first cap)
   (h:Run T (.call g (first++[.yield σ.length]++cap) (σ++[.loop .ready none env ps a b])) R)
   (h1:∀ o,R o→∃ st pend env' ps' a' b',o.σ[σ.length]? = some (.loop st pend env' ps' a' b')∧st≠.busy∧Q ⟨pend,env,o.σ.set σ.length .dead,.undef⟩) :
   Run T (.code (.rangeFunc f ps a b) env σ) Q
 /-- What the code has made and rW needs is forgotten. -/
 |trim {c env σ Q R} (h:Run T (.code c env σ) R) (h1:∀ o,R o→∃ env' m,ZR σ o.env o.σ env' m∧Q ⟨o.j,env',o.σ.take m,o.v⟩):Run T (.code c env σ) Q
 |trim2 {c env σ Q R} (h:Run T (.code c env σ) R) (h1:∀ o,R o→Q o∨∃ env'' σ'',CH σ o.env o.σ env'' σ''∧Q ⟨o.j,env'',σ'',o.v⟩):Run T (.code c env σ) Q
 /-- A call that needs nothing of the state. -/
 |frame {f args args0 σ Q R} (hf:okVs 0 args) (h0:args0=args∨args0=clrs args) (h:Run T (.call f args0 []) R) (h1:∀ o,R o→o.σ=[]∧Q ⟨none,[],σ,o.v⟩):Run T (.call f args σ) Q
 |frameS {f args args0 as1 d σ Q R} (hf:snaps σ 0 d args=some as1) (h0:args0=as1∨args0=clrs as1) (h:Run T (.call f args0 []) R) (h1:∀ o,R o→o.σ=[]∧Scal o.v∧Q ⟨none,[],σ,o.v⟩):Run T (.call f args σ) Q
 |chainNil {env σ Q} (h:Q ⟨none,env,σ,.undef⟩):Run T (.chain [] env σ) Q
 |chainCons {a az env σ Q R} (h:Run T (.code a env σ) R) (h1:∀ o,R o→o.j=none→Run T (.chain az o.env o.σ) Q) (h2:∀ o,R o→o.j≠none→Q o):Run T (.chain (a::az) env σ) Q
 |chain {a0 az c env σ Q R} {S:Env→St→Prop} (h:Run T (.chain (a0::az) env σ) R) (h1:∀ o,R o→o.j≠none→Q o)
   (h2:∀ o,R o→o.j=none→∃ env1 σ1 env2 σ2,CH σ o.env o.σ env1 σ1∧((env2=env1∧σ2=σ1)∨TD σ.length env1 σ1 env2 σ2)∧S env2 σ2)
   (h3:∀ env2 σ2,S env2 σ2→Run T (.code c env2 σ2) Q):Run T (.code (PO (a0::az) c) env σ) Q
 /-- A full slice is given a token. -/
 |ghost {c env σ Q} (t sz:Nat) (xs:List AV) (ht:Env.get env t = .lit xs true none)
   (h:Run T (.code c ((t,.lit xs false (some σ.length))::env) (σ++[.tok sz xs.length false])) Q):Run T (.code c env σ) Q
 /-- An environment stands for what it has at each temporary. -/
 |reenv {c env env' σ Q} (he:∀ t,Env.get env t=Env.get env' t) (h:Run T (.code c env' σ) Q):Run T (.code c env σ) Q
 /-- Less may be known of the temporaries. -/
 |weak {c env env' σ Q} (he:∀ t,Env.get env' t = .undef∨Env.get env' t=Env.get env t∨Env.get env' t=clr (Env.get env t)) (h:Run T (.code c env' σ) Q):Run T (.code c env σ) Q
 |reops {os env env' σ Q} (he:∀ t,Env.get env t=Env.get env' t) (h:Run T (.ops os env' σ) Q):Run T (.ops os env σ) Q
 |nil {env σ Q} (h:Q ⟨none,env,σ,.undef⟩):Run T (.ops [] env σ) Q
 |off {o os env σ Q} (hw:o.wanted env=some false) (h:Run T (.ops os (Env.put env o.dst (.tuple [])) σ) Q):Run T (.ops (o::os) env σ) Q
 |step {o os env σ v σ' Q} (hw:o.wanted env=some true) (ha:aop o.op env σ=some (v,σ')) (h:Run T (.ops os (Env.put env o.dst v) σ') Q) :
   Run T (.ops (o::os) env σ) Q
 |stepc {o os env σ f args Q R} (hw:o.wanted env=some true) (ho:o.op = .call f args) (hc:Run T (.callv (f.ev env) (args.map (·.ev env)) σ) R)
   (h:∀ r,R r→Run T (.ops os (Env.put env o.dst r.v) r.σ) Q):Run T (.ops (o::os) env σ) Q
 |stepm {o os env σ x id m n es left last Q} (hw:o.wanted env=some true) (ho:o.op = .mnext x) (hx:x.ev env = .ptr id 0) (hl:σ[id]? = some (.miter m n left last))
   (he:σ[m]? = some (.map es)) (hn:es.length=n)
   (h0:left=[]→Run T (.ops os (Env.put env o.dst (.tuple [.bool false])) σ) Q)
   (h1:∀ i k v,i∈left→es[i]? = some (k,v)→Run T (.ops os (Env.put env o.dst (.tuple [.bool true,k,v])) (σ.set id (.miter m n (left.filter (·≠i)) (some i)))) Q) :
   Run T (.ops (o::os) env σ) Q
 |dnil {env σ next hist reads Q} (hr:∀ r∈reads,ARead.ok r hist) (h:Q ⟨none,env,σ,.undef⟩):Run T (.dops [] env σ next hist reads) Q
 |doff {o os env σ next hist reads Q} (hw:o.o.wanted env=some false)
   (h:Run T (.dops os (Env.put env o.o.dst (.tuple [])) σ (if o.o.op.allocs then next+1 else next) (if o.o.op.acts then hist++[σ] else hist) reads) Q) :
   Run T (.dops (o::os) env σ next hist reads) Q
 |dalloc {o os env σ next hist reads z Q} (hw:o.o.wanted env=some true) (ho:o.o.op = .alloc z)
   (h:Run T (.dops os (Env.put env o.o.dst (.ptr next 0)) σ (next+1) hist reads) Q):Run T (.dops (o::os) env σ next hist reads) Q
 |dpure {o os env σ next hist reads v Q} (hw:o.o.wanted env=some true) (hk:(o.o.op.acts||o.o.op.allocs||o.o.op.reads)=false) (ha:aop o.o.op env σ=some (v,σ))
   (h:Run T (.dops os (Env.put env o.o.dst v) σ next hist reads) Q):Run T (.dops (o::os) env σ next hist reads) Q
 |dread {o os env σ next hist reads v Q} (hw:o.o.wanted env=some true) (hk:o.o.op.reads=true) (ha:aop o.o.op env σ=some (v,σ))
   (h:Run T (.dops os (Env.put env o.o.dst v) σ next hist (⟨o.lo,o.hi,o.o.op,env,v⟩::reads)) Q):Run T (.dops (o::os) env σ next hist reads) Q
 |dact {o os env σ next hist reads v σ' Q} (hw:o.o.wanted env=some true) (hk:o.o.op.acts=true) (ha:aop o.o.op env σ=some (v,σ'))
   (h:Run T (.dops os (Env.put env o.o.dst v) σ' next (hist++[σ']) reads) Q):Run T (.dops (o::os) env σ next hist reads) Q
 |dcall {o os env σ next hist reads f args v σ' Q} (hw:o.o.wanted env=some true) (ho:o.o.op = .call f args)
   (hc:Run T (.callv (f.ev env) (args.map (·.ev env)) σ) fun r=>r.v=v∧r.σ=σ')
   (h:Run T (.dops os (Env.put env o.o.dst v) σ' next (hist++[σ']) reads) Q):Run T (.dops (o::os) env σ next hist reads) Q
 |callf {f first cap args σ Q} (h:Run T (.call f (first++args++cap) σ) Q):Run T (.callv (.func f first cap) args σ) Q
 |round {id args σ env ps a b Q R S} (hl:σ[id]? = some (.loop .ready none env ps a b)) (hn:ps.length=args.length)
   (h:Run T (.code a (pR env ps args) σ) R)
   (h0:∀ o,R o→o.j=none∧o.σ[id]? = some (.loop .ready none env ps a b))
   (h1:∀ o,R o→Run T (.code b o.env (o.σ.set id (.loop .busy none env ps a b))) S)
   (h2:∀ o,S o→o.σ[id]? = some (.loop .busy none env ps a b) ∧
    Q ⟨none,[],o.σ.set id (.loop (if o.j=none then .ready else .done) o.j env ps a b),.bool (decide (o.j=none))⟩) :
   Run T (.callv (.yield id) args σ) Q
 |call {f args σ af Q R} (hf:T f=some af) (hn:args.length≤af.ntmps) (h:Run T (.code af.body (fC 0 args) σ) R)
   (h1:∀ o,R o→(o.j=none∨o.j=some .ret)∧∃ v,f9 af.results o.env o.σ=some v∧NV σ o.σ v Q):Run T (.call f args σ) Q
def top:Nat:=2^60
def Env.has:Env→Nat→Bool
 |[],_=>false
 |(k,_)::e,t=>if k=t then true else Env.has e t
def Env.tidyTo (acc:Env):Env→Env
 |[]=>acc
 |(k,v)::e=>if Env.has acc k then Env.tidyTo acc e else Env.tidyTo (acc++[(k,v)]) e
def Env.tidy (e:Env):Env:=Env.tidyTo [] e
def ZF (q:AOp) (e:Env):Nat :=
 match q with
 |.store _ a _=>match a.ev e with|.ptr id _=>id|_=>top
 |.mapset _ m _ _=>match m.ev e with|.map id=>id|_=>top
 |.copy _ x _=>match x.ev e with|.ref id _ _ _=>id|_=>top
 |.snext x=>match x.ev e with|.ptr id _=>id|_=>top
 |.append _ _ x _=>match x.ev e with|.lit _ false (some t)=>t|_=>top
 |_=>top
mutual
def okVB (m:Nat):Nat→AV→Bool
 |0,_=>false
 |d+1,v =>
  match v with
  |.func _ a b=>okVBs m d a&&okVBs m d b
  |.yield id|.ptr id _|.ref id _ _ _|.map id=>decide (id<m)
  |.lptr xs _ _ tk|.lit xs _ tk=>(match tk with|some t=>decide (t<m)|none=>true)&&okVBs m d xs
  |.agg cs=>okVBs m d cs
  |.tuple vs=>okVBs m d vs
  |_=>true
def okVBs (m:Nat):Nat→List AV→Bool
 |0,_=>false
 |_+1,[]=>true
 |d+1,v::vs=>okVB m d v&&okVBs m d vs
end
def aDQ (m:Nat):ABlk→Bool
 |.cells cs=>okVBs m 10000 cs
 |.map es=>es.all fun p=>okVB m 10000 p.1&&okVB m 10000 p.2
 |.miter id _ _ _=>decide (id<m)
 |_=>true
def ZL (m:Nat):List ABlk→Nat→Nat→Bool
 |[],_,_=>true
 |b::bs,i,lo=>if i<m then (decide (i<lo)||aDQ m b)&&ZL m bs (i+1) lo else true
mutual
def snapF (σ:St) (m:Nat):Nat→Nat→AV→Option AV
 |0,_,_=>none
 |k+1,d,v =>
  match v with
  |.func f first cap=>match snapsF σ m k d first,snapsF σ m k d cap with|some a,some b=>some (.func f a b)|_,_=>none
  |.yield id=>if id<m then some (.yield id) else none
  |.ptr id off=>if id<m then some (.ptr id off) else none
  |.map id=>if id<m then some (.map id) else none
  |.ref id off len sz =>
   if id<m then some (.ref id off len sz) else
   match d with
   |0=>none
   |d+1 =>
    match o9 σ (.ref id off len sz) with
    |some xs=>if (decide (0<sz)&&aU sz xs)=true then (match snapsF σ m k d xs with|some ys=>some (.lit ys false none)|none=>none) else none
    |none=>none
  |.lit xs full tk=>match snapsF σ m k d xs with|some ys=>some (.lit ys full (tk.filter (· < m)))|none=>none
  |.agg cs=>match snapsF σ m k d cs with|some ys=>some (.agg ys)|none=>none
  |.tuple vs=>match snapsF σ m k d vs with|some ys=>some (.tuple ys)|none=>none
  |.lptr xs i off tk=>match snapsF σ m k d xs with|some ys=>some (.lptr ys i off (tk.filter (· < m)))|none=>none
  |.undef=>some .undef
  |.int k n=>some (.int k n)
  |.bool b=>some (.bool b)
  |.str s=>some (.str s)
  |.nilFunc=>some .nilFunc
  |.nilPtr=>some .nilPtr
  |.nilMap=>some .nilMap
def snapsF (σ:St) (m:Nat):Nat→Nat→List AV→Option (List AV)
 |0,_,_=>none
 |_+1,_,[]=>some []
 |k+1,d,v::vs=>match snapF σ m k d v,snapsF σ m k d vs with|some a,some b=>some (a::b)|_,_=>none
end
mutual
def eqVF:Nat→AV→AV→Bool
 |0,_,_=>false
 |k+1,a,b =>
  match a,b with
  |.undef,.undef|.nilFunc,.nilFunc|.nilPtr,.nilPtr|.nilMap,.nilMap=>true
  |.int k n,.int l m=>decide (k=l)&&decide (n=m)
  |.bool x,.bool y=>x==y
  |.str x,.str y=>decide (x=y)
  |.func f a b,.func g c d=>decide (f=g)&&eqVsF k a c&&eqVsF k b d
  |.yield i,.yield j|.map i,.map j=>decide (i=j)
  |.ptr i o,.ptr j p=>decide (i=j)&&decide (o=p)
  |.lptr xs i o t,.lptr ys j p u=>eqVsF k xs ys&&decide (i=j)&&decide (o=p)&&decide (t=u)
  |.lit xs f t,.lit ys g u=>eqVsF k xs ys&&(f==g)&&decide (t=u)
  |.ref a b c d,.ref e f g h=>decide (a=e)&&decide (b=f)&&decide (c=g)&&decide (d=h)
  |.agg xs,.agg ys=>eqVsF k xs ys
  |.tuple xs,.tuple ys=>eqVsF k xs ys
  |_,_=>false
def eqVsF:Nat→List AV→List AV→Bool
 |0,_,_=>false
 |_+1,[],[]=>true
 |k+1,a::x,b::y=>eqVF k a b&&eqVsF k x y
 |_+1,_,_=>false
end
def U1 (r:ARead):List St→Nat→Bool
 |[],_=>true
 |s::ss,j =>
  (if decide (r.lo≤j)&&decide (j≤r.hi) then (match aop r.op r.env s with|some (v,_)=>eqVF 100000 v r.v|none=>false) else true)&&U1 r ss (j+1)
def aIY (x:AOpd) (e:Env) (σ:St):Option (AV×St):=some (x.ev e,σ)
def aEZ (c a b:AOpd) (e:Env) (σ:St):Option (AV×St):=match c.ev e with|.bool true=>some (a.ev e,σ)|.bool false=>some (b.ev e,σ)|_=>none
def aBH (zero:List AV) (σ:St):Option (AV×St):=some (.ptr σ.length 0,σ++[.cells zero])
def aHG (n:Nat) (v:AV) (σ:St):Option (AV×St):=if (v.cells.length==n&&v.cells.all (·.cell))=true then some (.ptr σ.length 0,σ++[.cells v.cells]) else none
def aDE (zero:List AV) (parts:List (Nat×Nat×AOpd)) (e:Env) (σ:St):Option (AV×St):=match cF e zero parts with|some cs=>some (.agg cs,σ)|none=>none
def aCR (sz:Nat) (vs:List AV) (σ:St):Option (AV×St):=if aU sz vs=true then some (.lit vs true none,σ) else none
def aGU (sh:Option Nat) (σ:St) (v:AV):Option (AV×St):=match lP sh σ v with|some v=>some (v,σ)|none=>none
def aBZ (n:Nat) (σ:St) (a v:AV):Option (AV×St):=match pE n σ a v with|some σ'=>some (.tuple [],σ')|none=>none
def aHZ (σ:St) (x y:AV):Option (AV×St):=match x,y with|.int k a,.int k' b=>if k=k' then some (.int k (k.wrap (a+b)),σ) else none|_,_=>none
def aHV (σ:St) (x y:AV):Option (AV×St):=match x,y with|.int k a,.int k' b=>if k=k' then some (.int k (k.wrap (a-b)),σ) else none|_,_=>none
def aI0 (σ:St) (x y:AV):Option (AV×St):=match x,y with|.int k a,.int k' b=>if k=k' then some (.int k (k.wrap (a*b)),σ) else none|_,_=>none
def aIL (σ:St) (x y:AV):Option (AV×St):=match x,y with|.int k a,.int k' b=>if k=k' then some (.bool (decide (a<b)),σ) else none|_,_=>none
def aHI (σ:St) (x y:AV):Option (AV×St):=match x,y with|.int k a,.int k' b=>if k=k' then some (.bool (decide (a≤b)),σ) else none|_,_=>none
def aHJ (σ:St) (x y:AV):Option (AV×St):=match x,y with|.int k a,.int k' b=>if k=k' then some (.bool (decide (a > b)),σ) else none|_,_=>none
def aI2 (σ:St) (x y:AV):Option (AV×St):=match x,y with|.int k a,.int k' b=>if k=k' then some (.bool (decide (a≥b)),σ) else none|_,_=>none
def aGC (op:BinOp) (σ:St) (x y:AV):Option (AV×St):=match d7 op x y with|some v=>some (v,σ)|none=>none
def aHX (op:BinOp) (σ:St) (x y:AV):Option (AV×St) :=
 match op with
 |.add=>aHZ σ x y
 |.sub=>aHV σ x y
 |.mul=>aI0 σ x y
 |.lss=>aIL σ x y
 |.leq=>aHI σ x y
 |.gtr=>aHJ σ x y
 |.geq=>aI2 σ x y
 |op=>aGC op σ x y
def aJN (sh:EqTy) (neg:Bool) (σ:St) (x y:AV):Option (AV×St):=match jV sh x y with|some b=>some (.bool (if neg then !b else b),σ)|none=>none
def aJZ (σ:St) (x:AV):Option (AV×St):=match x with|.bool b=>some (.bool !b,σ)|_=>none
def aCU (off:Nat) (σ:St) (x:AV):Option (AV×St):=match x with|.ptr id o=>some (.ptr id (o+off),σ)|.lptr xs i o t=>some (.lptr xs i (o+off) t,σ)|_=>none
def aBU (off:Nat) (sh:Option Nat) (σ:St) (x:AV):Option (AV×St):=match x with|.agg cs=>(match gC sh cs off with|some v=>some (v,σ)|none=>none)|_=>none
def aIS (i:Nat) (σ:St) (x:AV):Option (AV×St):=match x with|.tuple vs=>(match vs[i]? with|some v=>some (v,σ)|none=>none)|_=>none
def aHU (k:Nat) (σ:St) (x:AV):Option (AV×St):=match iY k σ x with|some n=>some (.int .i64 n,σ)|none=>none
def aJK (σ:St) (x:AV):Option (AV×St):=match x with|.ptr i o=>some (.ptr i o,σ)|.lptr xs i o t=>some (.lptr xs i o t,σ)|.func f a b=>some (.func f a b,σ)|.yield i=>some (.yield i,σ)|_=>none
def aG2 (op:AOp) (e:Env) (σ:St):Option (AV×St) :=
 match op with
 |.mov x=>aIY x e σ
 |.pick c a b=>aEZ c a b e σ
 |.alloc z=>aBH z σ
 |.box n x=>aHG n (x.ev e) σ
 |.build z ps=>aDE z ps e σ
 |.mklit n xs=>aCR n (xs.map (·.ev e)) σ
 |.load sh x=>aGU sh σ (x.ev e)
 |.store n a x=>aBZ n σ (a.ev e) (x.ev e)
 |.nilCheck x=>aJK σ (x.ev e)
 |.bin op x y=>aHX op σ (x.ev e) (y.ev e)
 |.eql sh n x y=>aJN sh n σ (x.ev e) (y.ev e)
 |.not x=>aJZ σ (x.ev e)
 |.faddr x o=>aCU o σ (x.ev e)
 |.field x o sh=>aBU o sh σ (x.ev e)
 |.ext x i=>aIS i σ (x.ev e)
 |.len k x=>aHU k σ (x.ev e)
 |.append sz b x y=>cZ sz b σ (x.ev e) (y.ev e)
 |op=>aop op e σ
section
variable (callv:AV→List AV→St→Option (AV×St×Nat))
def A0:List AOper→Env→St→Nat→Option (Env×St×Nat)
 |[],e,σ,lo=>some (e,σ,lo)
 |o::os,e,σ,lo =>
  match o.wanted e with
  |some true =>
   match o.op with
   |.call f args =>
    match callv (f.ev e) (args.map (·.ev e)) σ with
    |some (v,σ',l)=>A0 os (Env.put e o.dst v) σ' (Nat.min lo l)
    |none=>none
   |op =>
    match aG2 op e σ with
    |some (v,σ')=>A0 os (Env.put e o.dst v) σ' (Nat.min lo (ZF op e))
    |none=>none
  |some false=>A0 os (Env.put e o.dst (.tuple [])) σ lo
  |none=>none
def CY:List ADOper→Env→St→Nat→List St→List ARead→Nat→Option (Env×St×Nat)
 |[],e,σ,_,hist,reads,lo=>if reads.all (fun r=>U1 r hist 0)=true then some (e,σ,lo) else none
 |d::ds,e,σ,next,hist,reads,lo =>
  match d.o.wanted e with
  |some true =>
   match d.o.op with
   |.call f args =>
    match callv (f.ev e) (args.map (·.ev e)) σ with
    |some (v,σ',l)=>CY ds (Env.put e d.o.dst v) σ' next (hist++[σ']) reads (Nat.min lo l)
    |none=>none
   |.alloc _=>CY ds (Env.put e d.o.dst (.ptr next 0)) σ (next+1) hist reads lo
   |op =>
    match aG2 op e σ with
    |some (v,σ') =>
     if op.acts=true then CY ds (Env.put e d.o.dst v) σ' next (hist++[σ']) reads (Nat.min lo (ZF op e))
     else if op.reads=true then CY ds (Env.put e d.o.dst v) σ next hist (⟨d.lo,d.hi,op,e,v⟩::reads) lo
     else CY ds (Env.put e d.o.dst v) σ next hist reads lo
    |none=>none
  |some false=>CY ds (Env.put e d.o.dst (.tuple [])) σ (if d.o.op.allocs then next+1 else next) (if d.o.op.acts then hist++[σ] else hist) reads lo
  |none=>none
end
def aG1:Option AJump→Bool
 |none|some .ret=>true
 |_=>false
section
variable (T:FuncId→Option AFunc) (M:FuncId→List AV→Option AV) (E:ACode→Env→St→Option (Option AJump×Env×St×Nat))
def Z3 (f:FuncId) (args:List AV) (σ:St):Option (AV×St×Nat) :=
 match M f args with
 |some v=>some (v,σ,top)
 |none =>
 match T f with
 |some af =>
  if args.length≤af.ntmps then
   match E af.body (fC 0 args) σ with
   |some (j,e,σ1,lo) =>
    if aG1 j=true then
     match f9 af.results e σ1 with
     |some v =>
      match snapF σ1 σ.length 100000 20 v with
      |some v'=>if ZL σ.length σ1 0 lo=true then some (v',σ1.take σ.length,lo) else some (v,σ1,lo)
      |none=>some (v,σ1,lo)
     |none=>none
    else none
   |none=>none
  else none
 |none=>none
def aAG (f:AV) (args:List AV) (σ:St):Option (AV×St×Nat) :=
 match f with
 |.func f first cap=>Z3 T M E f (first++args++cap) σ
 |.yield id =>
  match σ[id]? with
  |some (.loop .ready none env ps a b) =>
   if ps.length=args.length then
    match E a (pR env ps args) σ with
    |some (none,e1,σ1,l1) =>
     match σ1[id]? with
     |some (.loop .ready none _ _ _ _) =>
      match E b e1 (σ1.set id (.loop .busy none env ps a b)) with
      |some (j,_,σ2,l2) =>
       match σ2[id]? with
       |some (.loop .busy none _ _ _ _) =>
        match j with
        |none=>some (.bool true,σ2.set id (.loop .ready none env ps a b),Nat.min id (Nat.min l1 l2))
        |some j=>some (.bool false,σ2.set id (.loop .done (some j) env ps a b),Nat.min id (Nat.min l1 l2))
       |_=>none
      |none=>none
     |_=>none
    |_=>none
   else none
  |_=>none
 |_=>none
end
def aDZ (id:Nat):Option AJump→Option AJump
 |some (.exit i)=>if i=id then none else some (.exit i)
 |j=>j
abbrev Res:=Option (Option AJump×Env×St×Nat)
def aFX (r:Option (Env×St×Nat)):Res:=match r with|some (e',σ',lo)=>some (none,e',σ',lo)|none=>none
def aG6 (lo:Nat) (r:Res):Res:=match r with|some (j,e2,σ2,l2)=>some (j,e2,σ2,Nat.min lo l2)|none=>none
def aJI (E:ACode→Env→St→Res) (b:ACode) (r:Res):Res :=
 match r with
 |some (none,e1,σ1,lo)=>aG6 lo (E b e1 σ1)
 |r=>r
def aEA (E:ACode→Env→St→Res) (b:ACode) (r:Res):Res :=
 match r with
 |some (none,e1,σ1,lo)=>aG6 lo (E (.loop b) (Env.tidy e1) σ1)
 |r=>r
def aFN (x:AV) (r q:Res):Res:=match x with|.bool true=>r|.bool false=>q|_=>none
def aB9 (id:Nat) (r:Res):Res:=match r with|some (j,e1,σ1,lo)=>some (aDZ id j,e1,σ1,lo)|none=>none
def QN (e:Env) (n:Nat) (r:Option (AV×St×Nat)):Res :=
 match r with
 |some (_,σ1,lo) =>
  match σ1[n]? with
  |some (.loop .ready pend _ _ _ _)=>some (pend,e,σ1.set n .dead,lo)
  |some (.loop .done pend _ _ _ _)=>some (pend,e,σ1.set n .dead,lo)
  |_=>none
 |none=>none
def aCE (T:FuncId→Option AFunc) (M:FuncId→List AV→Option AV) (E:ACode→Env→St→Res) (f:AV) (ps:List Nat) (a b:ACode) (e:Env) (σ:St):Res :=
 match f with
 |.func g first cap=>QN e σ.length (Z3 T M E g (first++[.yield σ.length]++cap) (σ++[.loop .ready none e ps a b]))
 |_=>none
def SY (T:FuncId→Option AFunc) (M:FuncId→List AV→Option AV) (E:ACode→Env→St→Res) (c:ACode) (e:Env) (σ:St):Res :=
 match c with
 |.skip=>some (none,e,σ,top)
 |.jump j=>some (some j,e,σ,top)
 |.reg os=>aFX (A0 (aAG T M E) os e σ top)
 |.dreg ds=>aFX (CY (aAG T M E) ds e (σ++dX ds) σ.length [σ++dX ds] [] top)
 |.seq a b=>aJI E b (E a e σ)
 |.cond c a b=>aFN (c.ev e) (E a e σ) (E b e σ)
 |.block id b=>aB9 id (E b e σ)
 |.loop b=>aEA E b (E b e σ)
 |.scope b=>E b e σ
 |.rangeFunc f ps a b=>aCE T M E (f.ev e) ps a b e σ
def exec (T:FuncId→Option AFunc) (M:FuncId→List AV→Option AV):Nat→ACode→Env→St→Res
 |0=>fun _ _ _=>none
 |k+1=>SY T M (exec T M k)
end Go.Am
namespace Go.Am.Room
abbrev o0 (d:Nat) (x:AOp):AOper:=⟨some d,x,none⟩
abbrev o1 (x:AOp):AOper:=⟨none,x,none⟩
abbrev o2 (d:Nat) (x:AOp) (t:Nat) (b:Bool):AOper:=⟨some d,x,some (t,b)⟩
abbrev o3 (d:Nat) (x:AOp) (i j:Nat):ADOper:=⟨⟨some d,x,none⟩,i,j⟩
abbrev o4 (d t:Nat):AOper:=⟨some d,.mov (.t t),none⟩
abbrev o5 (n:Int):AOpd:=.c (.int .i64 n)
abbrev o6 (f:FuncId):AOpd:=.c (.func f [] [])
def a2:AFunc:=⟨1,[],
 .reg [o0 0 (.call (o6 1) [])]⟩
def aEQ:ACode:=.seq (.seq (.reg [o4 191 26,o4 192 20,o0 193 (.len 1 (.t 192)),o0 194 (.bin .lss (.t 191) (.t 193))])
 (.cond (.t 194) .skip
 (.jump (.exit 0))))
 (.seq (.block 1 (.seq (.seq (.dreg [o3 197 (.mov (.t 20)) 0 0,o3 198 (.mov (.t 26)) 0 0,o3 199 (.iaddr none 1 (.t 197) (.t 198)) 0 0,o3 200 (.load none (.t 199)) 0 0,o3 201 (.faddr (.t 4) 3) 0 0,o3 202 (.load none (.t 201)) 0 0,o3 203 (.len 1 (.t 202)) 0 0,o3 204 (.bin .sub (.t 203) (o5 1)) 0 0,o3 205 (.call (o6 20) [(.t 200),(o5 0),(.t 204)]) 0 1,o3 206 (.not (.t 205)) 1 1])
 (.cond (.t 206) (.seq (.reg [o0 6 (.mov (.c (.bool false)))])
 (.jump .ret))
 .skip))
 (.dreg [o3 207 (.mov (.t 25)) 0 2,o3 208 (.faddr (.t 4) 3) 0 1,o3 209 (.load none (.t 208)) 0 1,o3 210 (.mov (.t 20)) 0 1,o3 211 (.mov (.t 26)) 0 1,o3 212 (.iaddr none 1 (.t 210) (.t 211)) 0 1,o3 213 (.load none (.t 212)) 0 1,o3 214 (.iaddr none 3 (.t 209) (.t 213)) 0 1,o3 215 (.faddr (.t 214) 1) 0 1,o3 216 (.load (some 2) (.t 215)) 0 1,o3 217 (.faddr (.t 5) 4) 0 0,o3 218 (.load none (.t 217)) 0 0,o3 219 (.mov (.t 26)) 0 0,o3 220 (.bin .add (o5 3) (.t 219)) 0 0,o3 221 (.call (o6 17) [.t 218,.t 220]) 0 1,o3 222 (.call (o6 19) [.t 216,.t 221]) 1 2,o3 223 (.bin .add (.t 207) (.t 222)) 2 2,o3 25 (.mov (.t 223)) 2 2])))
 (.reg [o4 195 26,o0 196 (.bin .add (.t 195) (o5 1)),o4 26 196]))
def a3:AFunc:=⟨234,[.tmp 6],
 .seq (.reg [o0 3 (.box 7 (.t 0)),o0 4 (.box 7 (.t 1)),o0 5 (.box 5 (.t 2)),o0 6 (.mov (.c (.bool false)))])
 (.seq (.reg [o0 27 (.faddr (.t 4) 5),o1 (.store 1 (.t 27) (.c (.lit [] true none))),o0 28 (.faddr (.t 4) 6),o1 (.store 1 (.t 28) (.c (.lit [] true none)))])
 (.seq (.reg [o0 30 (.load (some 7) (.t 3)),o0 31 (.call (o6 10) [.t 30]),o4 29 31,o0 32 (.ext (.t 29) 0),o0 33 (.ext (.t 29) 1),o0 34 (.ext (.t 29) 2),o4 7 32,o4 8 33,o4 9 34])
 (.seq (.reg [o0 36 (.load (some 7) (.t 4)),o0 37 (.call (o6 11) [.t 36]),o4 35 37,o0 38 (.ext (.t 35) 0),o0 39 (.ext (.t 35) 1),o0 40 (.ext (.t 35) 2),o4 10 38,o4 11 39,o4 12 40])
 (.seq (.seq (.reg [o4 41 9,o0 42 (.eql (.one .i) true (.t 41) (o5 0)),o4 43 42,o2 44 (.mov (.t 12)) 43 false,o2 45 (.eql (.one .i) true (.t 44) (o5 0)) 43 false,o0 46 (.pick (.t 43) (.c (.bool true)) (.t 45)),o4 47 46,o2 48 (.faddr (.t 3) 5) 47 false,o2 49 (.load none (.t 48)) 47 false,o2 50 (.len 1 (.t 49)) 47 false,o2 51 (.eql (.one .i) false (.t 50) (o5 0)) 47 false,o0 52 (.pick (.t 47) (.c (.bool true)) (.t 51))])
 (.cond (.t 52) (.seq (.reg [o0 53 (.call (o6 12) []),o4 54 53,o2 55 (.call (o6 13) []) 54 true,o0 56 (.pick (.t 54) (.t 55) (.c (.bool false))),o4 6 56])
 (.jump .ret))
 .skip))
 (.seq (.reg [o0 57 (.load (some 7) (.t 3)),o0 58 (.call (o6 14) [(.t 57),(.c (.lit [] true none))]),o4 13 58])
 (.seq (.seq (.reg [o4 59 13,o0 60 (.len 1 (.t 59)),o0 61 (.eql (.one .i) false (.t 60) (o5 0))])
 (.cond (.t 61) (.seq (.reg [o0 62 (.call (o6 12) []),o4 63 62,o2 64 (.call (o6 13) []) 63 true,o0 65 (.pick (.t 63) (.t 64) (.c (.bool false))),o4 6 65])
 (.jump .ret))
 .skip))
 (.seq (.dreg [o3 66 (.faddr (.t 5) 0) 0 0,o3 67 (.load none (.t 66)) 0 0,o3 68 (.conv .i64 (.t 67)) 0 0,o3 69 (.faddr (.t 3) 5) 0 0,o3 70 (.load none (.t 69)) 0 0,o3 71 (.len 1 (.t 70)) 0 0,o3 72 (.bin .rem (.t 68) (.t 71)) 0 0,o3 73 (.faddr (.t 5) 1) 0 0,o3 74 (.load none (.t 73)) 0 0,o3 75 (.conv .i64 (.t 74)) 0 0,o3 76 (.faddr (.t 3) 0) 0 0,o3 77 (.load none (.t 76)) 0 0,o3 78 (.len 1 (.t 77)) 0 0,o3 79 (.bin .add (.t 78) (o5 1)) 0 0,o3 80 (.bin .rem (.t 75) (.t 79)) 0 0,o3 14 (.mov (.t 72)) 0 0,o3 15 (.mov (.t 80)) 0 0])
 (.seq (.reg [o0 82 (.load (some 7) (.t 3)),o4 83 14,o4 84 15,o0 85 (.call (o6 15) [.t 82,.t 83,.t 84]),o4 81 85,o0 86 (.ext (.t 81) 0),o0 87 (.ext (.t 81) 1),o0 16 (.alloc [.int .i64 0,.int .i64 0]),o1 (.store 2 (.t 16) (.t 86)),o4 17 87])
 (.seq (.reg [o0 88 (.faddr (.t 16) 0),o0 89 (.load none (.t 88)),o0 90 (.faddr (.t 3) 3),o0 91 (.faddr (.t 90) 0),o0 92 (.load none (.t 91)),o0 93 (.bin .add (.t 89) (.t 92)),o0 94 (.faddr (.t 16) 1),o0 95 (.load none (.t 94)),o0 96 (.faddr (.t 3) 3),o0 97 (.faddr (.t 96) 1),o0 98 (.load none (.t 97)),o0 99 (.bin .add (.t 95) (.t 98)),o0 100 (.build [.int .i64 0,.int .i64 0] [(0,1,(.t 93)),(1,1,(.t 99))]),o0 101 (.faddr (.t 4) 1),o1 (.store 2 (.t 101) (.t 100))])
 (.seq (.reg [o0 103 (.load (some 7) (.t 4)),o0 104 (.call (o6 11) [.t 103]),o4 102 104,o0 105 (.ext (.t 102) 0),o0 106 (.ext (.t 102) 1),o0 107 (.ext (.t 102) 2),o4 12 107])
 (.seq (.seq (.reg [o4 108 17,o0 109 (.eql (.one .i) true (.t 108) (o5 0)),o4 110 109,o2 111 (.mov (.t 12)) 110 false,o2 112 (.eql (.one .i) true (.t 111) (o5 0)) 110 false,o0 113 (.pick (.t 110) (.c (.bool true)) (.t 112))])
 (.cond (.t 113) (.seq (.reg [o0 6 (.mov (.c (.bool false)))])
 (.jump .ret))
 .skip))
 (.seq (.dreg [o3 114 (.faddr (.t 5) 2) 0 0,o3 115 (.load none (.t 114)) 0 0,o3 116 (.conv .i64 (.t 115)) 0 0,o3 117 (.faddr (.t 4) 0) 0 0,o3 118 (.load none (.t 117)) 0 0,o3 119 (.bin .add (.t 118) (o5 1)) 0 0,o3 120 (.bin .rem (.t 116) (.t 119)) 0 0,o3 121 (.faddr (.t 5) 3) 0 0,o3 122 (.load none (.t 121)) 0 0,o3 123 (.conv .i64 (.t 122)) 0 0,o3 124 (.bin .rem (.t 123) (o5 7)) 0 0,o3 125 (.bin .add (o5 1) (.t 124)) 0 0,o3 18 (.mov (.t 120)) 0 0,o3 19 (.mov (.t 125)) 0 0])
 (.seq (.reg [o0 127 (.load (some 7) (.t 4)),o4 128 18,o4 129 19,o0 130 (.call (o6 16) [.t 127,.t 128,.t 129]),o4 126 130,o0 131 (.ext (.t 126) 0),o0 132 (.ext (.t 126) 1),o0 133 (.ext (.t 126) 2),o4 20 131,o4 21 132,o4 22 133])
 (.seq (.seq (.reg [o4 134 22,o0 135 (.eql (.one .i) true (.t 134) (o5 0))])
 (.cond (.t 135) (.seq (.reg [o4 136 22,o0 137 (.eql (.one .i) false (.t 136) (o5 9)),o4 138 137,o2 139 (.mov (.t 20)) 138 true,o2 140 (.len 1 (.t 139)) 138 true,o2 141 (.eql (.one .i) false (.t 140) (o5 0)) 138 true,o0 142 (.pick (.t 138) (.t 141) (.c (.bool false))),o4 143 142,o2 144 (.call (o6 12) []) 143 true,o0 145 (.pick (.t 143) (.t 144) (.c (.bool false))),o4 146 145,o2 147 (.call (o6 13) []) 146 true,o0 148 (.pick (.t 146) (.t 147) (.c (.bool false))),o4 6 148])
 (.jump .ret))
 .skip))
 (.seq (.reg [o4 149 13,o0 150 (.faddr (.t 5) 4),o0 151 (.load none (.t 150)),o0 152 (.call (o6 17) [(.t 151),(o5 0)]),o4 153 13,o0 154 (.len 1 (.t 153)),o0 155 (.bin .rem (.t 152) (.t 154)),o0 156 (.iaddr none 2 (.t 149) (.t 155)),o0 157 (.load (some 2) (.t 156)),o0 23 (.alloc [.lit [] true none,.lit [] true none]),o1 (.store 2 (.t 23) (.t 157))])
 (.seq (.dreg [o3 158 (.faddr (.t 23) 1) 0 1,o3 159 (.load none (.t 158)) 0 1,o3 160 (.mov (.t 14)) 0 1,o3 161 (.iaddr none 1 (.t 159) (.t 160)) 0 1,o3 162 (.load none (.t 161)) 0 1,o3 163 (.faddr (.t 5) 4) 0 0,o3 164 (.load none (.t 163)) 0 0,o3 165 (.call (o6 17) [(.t 164),(o5 1)]) 0 1,o3 166 (.faddr (.t 23) 1) 0 1,o3 167 (.load none (.t 166)) 0 1,o3 168 (.mov (.t 14)) 0 1,o3 169 (.iaddr none 1 (.t 167) (.t 168)) 0 1,o3 170 (.load none (.t 169)) 0 1,o3 171 (.len 1 (.t 170)) 0 1,o3 172 (.bin .rem (.t 165) (.t 171)) 1 1,o3 173 (.iaddr none 1 (.t 162) (.t 172)) 1 1,o3 174 (.load none (.t 173)) 1 1,o3 24 (.mov (.t 174)) 1 1])
 (.seq (.dreg [o3 175 (.faddr (.t 23) 0) 0 0,o3 176 (.load none (.t 175)) 0 0,o3 177 (.mov (.t 24)) 0 0,o3 178 (.mov (.t 15)) 0 0,o3 179 (.call (o6 18) [.t 176,.t 177,.t 178]) 0 1,o3 180 (.faddr (.t 3) 3) 0 2,o3 181 (.load (some 2) (.t 180)) 0 2,o3 182 (.faddr (.t 5) 4) 0 1,o3 183 (.load none (.t 182)) 0 1,o3 184 (.call (o6 17) [(.t 183),(o5 2)]) 1 2,o3 185 (.call (o6 19) [.t 181,.t 184]) 2 3,o3 186 (.bin .add (.t 179) (.t 185)) 3 3,o3 25 (.mov (.t 186)) 3 3])
 (.seq (.seq (.reg [o4 187 20,o0 188 (.len 1 (.t 187)),o4 189 18,o0 190 (.eql (.one .i) true (.t 188) (.t 189))])
 (.cond (.t 190) (.seq (.reg [o0 6 (.mov (.c (.bool false)))])
 (.jump .ret))
 .skip))
 (.seq (.seq (.reg [o0 26 (.mov (o5 0))])
 (.block 0 (.loop aEQ)))
 (.seq (.reg [o4 224 25,o0 225 (.call (o6 21) [.t 224]),o4 226 19,o0 227 (.eql (.one .i) false (.t 225) (.t 226)),o4 228 227,o2 229 (.call (o6 12) []) 228 true,o0 230 (.pick (.t 228) (.t 229) (.c (.bool false))),o4 231 230,o2 232 (.call (o6 13) []) 231 true,o0 233 (.pick (.t 231) (.t 232) (.c (.bool false))),o4 6 233])
 (.jump .ret)))))))))))))))))))))⟩
def aJG:ACode:=.seq (.seq (.reg [o4 77 14,o0 78 (.faddr (.t 3) 5),o0 79 (.load none (.t 78)),o0 80 (.len 1 (.t 79)),o0 81 (.bin .lss (.t 77) (.t 80))])
 (.cond (.t 81) .skip
 (.jump (.exit 0))))
 (.seq (.block 1 (.seq (.reg [o0 85 (.load (some 3) (.t 4)),o4 86 14,o0 87 (.call (o6 25) [.t 85,.t 86]),o4 84 87,o0 88 (.ext (.t 84) 0),o0 89 (.ext (.t 84) 1),o0 15 (.alloc [.int .i64 0,.int .i64 0]),o1 (.store 2 (.t 15) (.t 88)),o4 16 89])
 (.seq (.seq (.reg [o4 90 16,o0 91 (.eql (.one .i) true (.t 90) (o5 0)),o4 92 91,o2 93 (.faddr (.t 15) 0) 92 false,o2 94 (.load none (.t 93)) 92 false,o2 95 (.call (o6 20) [(.t 94),(o5 1),(o5 12)]) 92 false,o2 96 (.not (.t 95)) 92 false,o0 97 (.pick (.t 92) (.c (.bool true)) (.t 96))])
 (.cond (.t 97) (.seq (.reg [o0 6 (.mov (.c (.bool false)))])
 (.jump .ret))
 .skip))
 (.seq (.reg [o0 98 (.faddr (.t 3) 5),o0 99 (.load none (.t 98)),o4 100 14,o0 101 (.iaddr none 4 (.t 99) (.t 100)),o0 102 (.load (some 4) (.t 101)),⟨some 17,.alloc [.str ⟨#[]⟩,.int .i64 0,.int .i64 0,.int .i64 0],none⟩,o1 (.store 4 (.t 17) (.t 102))])
 (.seq (.reg [o0 103 (.faddr (.t 15) 0),o0 104 (.load none (.t 103)),o0 105 (.faddr (.t 17) 3),o1 (.store 1 (.t 105) (.t 104))])
 (.reg [o0 106 (.faddr (.t 3) 5),o0 107 (.load none (.t 106)),o4 108 14,o0 109 (.load (some 4) (.t 17)),o0 110 (.iaddr none 4 (.t 107) (.t 108)),o1 (.store 4 (.t 110) (.t 109))]))))))
 (.reg [o4 82 14,o0 83 (.bin .add (.t 82) (o5 1)),o4 14 83]))
def aHQ:ACode:=.seq (.seq (.reg [o4 161 25,o4 162 20,o0 163 (.len 1 (.t 162)),o0 164 (.bin .lss (.t 161) (.t 163))])
 (.cond (.t 164) .skip
 (.jump (.exit 2))))
 (.seq (.block 3 (.reg [o4 167 24,o4 168 23,o4 169 20,o4 170 25,o0 171 (.iaddr none 1 (.t 169) (.t 170)),o0 172 (.load none (.t 171)),o0 173 (.iaddr none 1 (.t 168) (.t 172)),o0 174 (.load none (.t 173)),o0 175 (.bin .add (.t 167) (.t 174)),o4 24 175]))
 (.reg [o4 165 25,o0 166 (.bin .add (.t 165) (o5 1)),o4 25 166]))
def a4:AFunc:=⟨185,[.tmp 6],
 .seq (.reg [o0 3 (.box 7 (.t 0)),o0 4 (.box 3 (.t 1)),o0 5 (.box 3 (.t 2)),o0 6 (.mov (.c (.bool false)))])
 (.seq (.reg [o0 27 (.load (some 7) (.t 3)),o0 28 (.call (o6 10) [.t 27]),o4 26 28,o0 29 (.ext (.t 26) 0),o0 30 (.ext (.t 26) 1),o0 31 (.ext (.t 26) 2),o4 7 29,o4 8 30,o4 9 31])
 (.seq (.reg [o0 33 (.load (some 3) (.t 4)),o0 34 (.call (o6 22) [.t 33]),o4 32 34,o0 35 (.ext (.t 32) 0),o0 36 (.ext (.t 32) 1),o0 37 (.ext (.t 32) 2),o4 10 35,o4 11 36,o4 12 37])
 (.seq (.seq (.reg [o4 38 9,o0 39 (.eql (.one .i) true (.t 38) (o5 0)),o4 40 39,o2 41 (.mov (.t 12)) 40 false,o2 42 (.eql (.one .i) true (.t 41) (o5 0)) 40 false,o0 43 (.pick (.t 40) (.c (.bool true)) (.t 42)),o4 44 43,o2 45 (.faddr (.t 4) 1) 44 false,o2 46 (.load none (.t 45)) 44 false,o2 47 (.len 1 (.t 46)) 44 false,o2 48 (.faddr (.t 3) 5) 44 false,o2 49 (.load none (.t 48)) 44 false,o2 50 (.len 1 (.t 49)) 44 false,o2 51 (.bin .lss (.t 47) (.t 50)) 44 false,o0 52 (.pick (.t 44) (.c (.bool true)) (.t 51))])
 (.cond (.t 52) (.seq (.reg [o0 53 (.call (o6 23) []),o4 54 53,o2 55 (.call (o6 12) []) 54 true,o0 56 (.pick (.t 54) (.t 55) (.c (.bool false))),o4 6 56])
 (.jump .ret))
 .skip))
 (.seq (.reg [o0 57 (.load (some 3) (.t 4)),o0 58 (.call (o6 24) [(.t 57),(.c (.lit [] true none))]),o4 13 58])
 (.seq (.seq (.reg [o4 59 13,o0 60 (.len 1 (.t 59)),o0 61 (.eql (.one .i) false (.t 60) (o5 0)),o4 62 61,o2 63 (.load (some 7) (.t 3)) 62 false,o2 64 (.call (o6 14) [(.t 63),(.c (.lit [] true none))]) 62 false,o2 65 (.len 1 (.t 64)) 62 false,o2 66 (.eql (.one .i) false (.t 65) (o5 0)) 62 false,o0 67 (.pick (.t 62) (.c (.bool true)) (.t 66))])
 (.cond (.t 67) (.seq (.reg [o0 68 (.call (o6 23) []),o4 69 68,o2 70 (.call (o6 12) []) 69 true,o0 71 (.pick (.t 69) (.t 70) (.c (.bool false))),o4 6 71])
 (.jump .ret))
 .skip))
 (.seq (.reg [o0 72 (.mklit 4 []),o0 73 (.faddr (.t 3) 5),o0 74 (.load none (.t 73)),o0 75 (.append 4 40 (.t 72) (.t 74)),o0 76 (.faddr (.t 3) 5),o1 (.store 1 (.t 76) (.t 75))])
 (.seq (.seq (.reg [o0 14 (.mov (o5 0))])
 (.block 0 (.loop aJG)))
 (.seq (.dreg [o3 111 (.faddr (.t 5) 0) 0 0,o3 112 (.load none (.t 111)) 0 0,o3 113 (.conv .i64 (.t 112)) 0 0,o3 114 (.faddr (.t 3) 0) 0 0,o3 115 (.load none (.t 114)) 0 0,o3 116 (.len 1 (.t 115)) 0 0,o3 117 (.bin .add (.t 116) (o5 1)) 0 0,o3 118 (.bin .rem (.t 113) (.t 117)) 0 0,o3 119 (.faddr (.t 5) 1) 0 0,o3 120 (.load none (.t 119)) 0 0,o3 121 (.conv .i64 (.t 120)) 0 0,o3 122 (.bin .rem (.t 121) (o5 60)) 0 0,o3 18 (.mov (.t 118)) 0 0,o3 19 (.mov (.t 122)) 0 0])
 (.seq (.reg [o0 124 (.load (some 7) (.t 3)),o4 125 18,o4 126 19,o0 127 (.call (o6 26) [.t 124,.t 125,.t 126]),o4 123 127,o0 128 (.ext (.t 123) 0),o0 129 (.ext (.t 123) 1),o0 130 (.ext (.t 123) 2),o4 20 128,o4 21 129,o4 22 130])
 (.seq (.seq (.reg [o4 131 22,o0 132 (.eql (.one .i) true (.t 131) (o5 0))])
 (.cond (.t 132) (.seq (.reg [o4 133 22,o0 134 (.eql (.one .i) false (.t 133) (o5 9)),o4 135 134,o2 136 (.mov (.t 20)) 135 true,o2 137 (.len 1 (.t 136)) 135 true,o2 138 (.eql (.one .i) false (.t 137) (o5 0)) 135 true,o0 139 (.pick (.t 135) (.t 138) (.c (.bool false))),o4 140 139,o2 141 (.call (o6 23) []) 140 true,o0 142 (.pick (.t 140) (.t 141) (.c (.bool false))),o4 143 142,o2 144 (.call (o6 12) []) 143 true,o0 145 (.pick (.t 143) (.t 144) (.c (.bool false))),o4 6 145])
 (.jump .ret))
 .skip))
 (.seq (.seq (.reg [o4 146 20,o0 147 (.faddr (.t 3) 5),o0 148 (.load none (.t 147)),o0 149 (.len 1 (.t 148)),o0 150 (.call (o6 27) [.t 146,.t 149]),o0 151 (.not (.t 150))])
 (.cond (.t 151) (.seq (.reg [o0 6 (.mov (.c (.bool false)))])
 (.jump .ret))
 .skip))
 (.seq (.reg [o4 152 13,o0 153 (.faddr (.t 5) 2),o0 154 (.load none (.t 153)),o0 155 (.conv .i64 (.t 154)),o4 156 13,o0 157 (.len 1 (.t 156)),o0 158 (.bin .rem (.t 155) (.t 157)),o0 159 (.iaddr none 1 (.t 152) (.t 158)),o0 160 (.load none (.t 159)),o4 23 160])
 (.seq (.reg [o0 24 (.mov (o5 0))])
 (.seq (.seq (.reg [o0 25 (.mov (o5 0))])
 (.block 2 (.loop aHQ)))
 (.seq (.reg [o4 176 24,o4 177 19,o0 178 (.bin .geq (.t 176) (.t 177)),o4 179 178,o2 180 (.call (o6 23) []) 179 true,o0 181 (.pick (.t 179) (.t 180) (.c (.bool false))),o4 182 181,o2 183 (.call (o6 12) []) 182 true,o0 184 (.pick (.t 182) (.t 183) (.c (.bool false))),o4 6 184])
 (.jump .ret))))))))))))))))⟩
def aJV:ACode:=.seq (.seq (.reg [o4 115 16,o0 116 (.faddr (.t 2) 3),o0 117 (.load none (.t 116)),o0 118 (.len 1 (.t 117)),o0 119 (.bin .lss (.t 115) (.t 118))])
 (.cond (.t 119) .skip
 (.jump (.exit 0))))
 (.seq (.block 1 (.dreg [o3 122 (.faddr (.t 15) 0) 0 1,o3 123 (.load none (.t 122)) 0 1,o3 124 (.faddr (.t 3) 3) 0 0,o3 125 (.load none (.t 124)) 0 0,o3 126 (.mov (.t 16)) 0 0,o3 127 (.call (o6 17) [.t 125,.t 126]) 0 1,o3 128 (.bin .rem (.t 127) (o5 4)) 1 1,o3 129 (.mklit 1 [.t 128]) 1 1,o3 130 (.append 1 8 (.t 123) (.t 129)) 1 2,o3 131 (.faddr (.t 15) 0) 2 2,⟨o1 (.store 1 (.t 131) (.t 130)),2,3⟩]))
 (.reg [o4 120 16,o0 121 (.bin .add (.t 120) (o5 1)),o4 16 121]))
def aJQ:ACode:=.seq (.seq (.reg [o4 180 25,o0 181 (.faddr (.t 15) 0),o0 182 (.load none (.t 181)),o0 183 (.len 1 (.t 182)),o0 184 (.bin .lss (.t 180) (.t 183)),o4 185 184,o2 186 (.mov (.t 24)) 185 true,o2 187 (.bin .lss (.t 186) (o5 0)) 185 true,o0 188 (.pick (.t 185) (.t 187) (.c (.bool false)))])
 (.cond (.t 188) .skip
 (.jump (.exit 2))))
 (.seq (.block 3 (.seq (.dreg [o3 191 (.mov (.t 23)) 0 1,o3 192 (.faddr (.t 15) 0) 0 1,o3 193 (.load none (.t 192)) 0 1,o3 194 (.mov (.t 25)) 0 1,o3 195 (.iaddr none 1 (.t 193) (.t 194)) 0 1,o3 196 (.load none (.t 195)) 0 1,o3 197 (.bin .sub (.t 191) (.t 196)) 0 1,o3 198 (.mov (.t 22)) 0 0,o3 199 (.faddr (.t 2) 4) 0 0,o3 200 (.load none (.t 199)) 0 0,o3 201 (.mov (.t 25)) 0 0,o3 202 (.bin .add (.t 200) (.t 201)) 0 0,o3 203 (.iaddr none 1 (.t 198) (.t 202)) 0 0,o3 204 (.load none (.t 203)) 0 0,o3 205 (.call (o6 34) [.t 204]) 0 1,o3 206 (.bin .sub (.t 197) (.t 205)) 1 1,o3 23 (.mov (.t 206)) 1 1])
 (.seq (.reg [o4 207 23,o0 208 (.bin .leq (.t 207) (o5 0))])
 (.cond (.t 208) (.reg [o4 209 25,o0 210 (.bin .add (.t 209) (o5 1)),o4 24 210])
 .skip))))
 (.reg [o4 189 25,o0 190 (.bin .add (.t 189) (o5 1)),o4 25 190]))
def a5:AFunc:=⟨245,[.tmp 4],
 .seq (.reg [o0 2 (.box 7 (.t 0)),o0 3 (.box 5 (.t 1)),o0 4 (.mov (.c (.bool false)))])
 (.seq (.reg [o0 27 (.load (some 7) (.t 2)),o0 28 (.call (o6 28) [.t 27]),o4 26 28,o0 29 (.ext (.t 26) 0),o0 30 (.ext (.t 26) 1),o0 31 (.ext (.t 26) 2),o4 5 29,o4 6 30,o4 7 31])
 (.seq (.reg [o0 32 (.faddr (.t 3) 1),o0 33 (.load (some 2) (.t 32)),o0 34 (.call (o6 29) [(.t 33),(o5 0),(o5 40)]),o4 8 34])
 (.seq (.seq (.reg [o4 35 7,o0 36 (.eql (.one .i) true (.t 35) (o5 0)),o4 37 36,o2 38 (.mov (.t 8)) 37 false,o2 39 (.eql (.one .i) true (.t 38) (o5 0)) 37 false,o0 40 (.pick (.t 37) (.c (.bool true)) (.t 39)),o4 41 40,o2 42 (.faddr (.t 3) 1) 41 false,o2 43 (.faddr (.t 42) 1) 41 false,o2 44 (.load none (.t 43)) 41 false,o2 45 (.faddr (.t 3) 1) 41 false,o2 46 (.faddr (.t 45) 0) 41 false,o2 47 (.load none (.t 46)) 41 false,o2 48 (.bin .add (.t 47) (o5 3)) 41 false,o2 49 (.bin .gtr (.t 44) (.t 48)) 41 false,o0 50 (.pick (.t 41) (.c (.bool true)) (.t 49))])
 (.cond (.t 50) (.seq (.reg [o0 51 (.call (o6 30) []),o4 52 51,o2 53 (.call (o6 31) []) 52 true,o0 54 (.pick (.t 52) (.t 53) (.c (.bool false))),o4 4 54])
 (.jump .ret))
 .skip))
 (.seq (.reg [o0 55 (.load (some 7) (.t 2)),o0 56 (.call (o6 32) [(.t 55),(.c (.lit [] true none))]),o4 9 56])
 (.seq (.seq (.reg [o4 57 9,o0 58 (.len 1 (.t 57)),o0 59 (.eql (.one .i) false (.t 58) (o5 0))])
 (.cond (.t 59) (.seq (.reg [o0 60 (.call (o6 30) []),o4 61 60,o2 62 (.call (o6 31) []) 61 true,o0 63 (.pick (.t 61) (.t 62) (.c (.bool false))),o4 4 63])
 (.jump .ret))
 .skip))
 (.seq (.reg [o0 64 (.faddr (.t 3) 0),o0 65 (.load none (.t 64)),o0 66 (.conv .i64 (.t 65)),o0 67 (.faddr (.t 2) 5),o0 68 (.load none (.t 67)),o0 69 (.len 1 (.t 68)),o0 70 (.bin .rem (.t 66) (.t 69)),o4 10 70])
 (.seq (.reg [o0 72 (.load (some 7) (.t 2)),o4 73 10,o0 74 (.call (o6 33) [.t 72,.t 73]),o4 71 74,o0 75 (.ext (.t 71) 0),o0 76 (.ext (.t 71) 1),o4 11 75,o4 12 76])
 (.seq (.reg [o0 77 (.faddr (.t 2) 5),o0 78 (.load none (.t 77)),o4 79 10,o0 80 (.iaddr none 5 (.t 78) (.t 79)),o0 81 (.faddr (.t 80) 3),o0 82 (.load (some 2) (.t 81)),o0 13 (.alloc [.int .i64 0,.int .i64 0]),o1 (.store 2 (.t 13) (.t 82))])
 (.seq (.dreg [o3 83 (.faddr (.t 13) 0) 0 0,o3 84 (.load none (.t 83)) 0 0,o3 85 (.call (o6 34) [.t 84]) 0 1,o3 86 (.faddr (.t 13) 1) 0 1,o3 87 (.load none (.t 86)) 0 1,o3 88 (.call (o6 34) [.t 87]) 1 2,o3 89 (.build [.int .i64 0,.int .i64 0] [(0,1,(.t 85)),(1,1,(.t 88))]) 2 2,o3 14 (.alloc [.int .i64 0,.int .i64 0]) 0 2,⟨o1 (.store 2 (.t 14) (.t 89)),2,3⟩])
 (.seq (.seq (.reg [o4 90 12,o0 91 (.eql (.one .i) true (.t 90) (o5 0))])
 (.cond (.t 91) (.seq (.reg [o0 4 (.mov (.c (.bool false)))])
 (.jump .ret))
 .skip))
 (.seq (.seq (.reg [o4 92 11,o0 93 (.eql (.one .i) true (.t 92) (o5 1)),o4 94 93,o2 95 (.faddr (.t 14) 1) 94 false,o2 96 (.load none (.t 95)) 94 false,o2 97 (.faddr (.t 14) 0) 94 false,o2 98 (.load none (.t 97)) 94 false,o2 99 (.bin .add (.t 98) (o5 3)) 94 false,o2 100 (.bin .gtr (.t 96) (.t 99)) 94 false,o0 101 (.pick (.t 94) (.c (.bool true)) (.t 100))])
 (.cond (.t 101) (.seq (.reg [o0 102 (.call (o6 30) []),o4 103 102,o2 104 (.call (o6 31) []) 103 true,o0 105 (.pick (.t 103) (.t 104) (.c (.bool false))),o4 4 105])
 (.jump .ret))
 .skip))
 (.seq (.reg [o0 106 (.load (some 2) (.t 14)),o0 107 (.mklit 2 [.t 106]),o0 108 (.faddr (.t 3) 1),o0 109 (.load (some 2) (.t 108)),o0 110 (.build [.int .i64 0,.int .i64 0,.int .i64 0,.int .i64 0] [(2,2,(.t 109))]),o0 111 (.mklit 4 [.t 110]),o0 112 (.build [.lit [] true none,.int .i64 0,.lit [] true none,.lit [] true none,.lit [] true none] [(2,1,(.t 107)),(3,1,(.t 111))]),o0 15 (.alloc [.lit [] true none,.int .i64 0,.lit [] true none,.lit [] true none,.lit [] true none]),o1 (.store 5 (.t 15) (.t 112))])
 (.seq (.seq (.reg [o0 113 (.faddr (.t 2) 4),o0 114 (.load none (.t 113)),o4 16 114])
 (.block 0 (.loop aJV)))
 (.seq (.reg [o0 133 (.load (some 5) (.t 15)),o0 134 (.call (o6 35) [(.t 133),(o5 0)]),o4 132 134,o0 135 (.ext (.t 132) 0),o0 136 (.ext (.t 132) 1),o0 137 (.ext (.t 132) 2),o0 17 (.alloc [.int .i64 0,.int .i64 0]),o1 (.store 2 (.t 17) (.t 135)),o4 18 136,o4 19 137])
 (.seq (.seq (.reg [o4 138 19,o0 139 (.eql (.one .i) true (.t 138) (o5 0))])
 (.cond (.t 139) (.seq (.reg [o0 4 (.mov (.c (.bool false)))])
 (.jump .ret))
 .skip))
 (.seq (.reg [o4 140 9,o0 141 (.faddr (.t 3) 4),o0 142 (.load none (.t 141)),o0 143 (.call (o6 17) [(.t 142),(o5 0)]),o4 144 9,o0 145 (.len 1 (.t 144)),o0 146 (.bin .rem (.t 143) (.t 145)),o0 147 (.iaddr none 2 (.t 140) (.t 146)),o0 148 (.load (some 2) (.t 147)),o0 20 (.alloc [.lit [] true none,.lit [] true none]),o1 (.store 2 (.t 20) (.t 148))])
 (.seq (.dreg [o3 149 (.faddr (.t 20) 1) 0 1,o3 150 (.load none (.t 149)) 0 1,o3 151 (.mov (.t 10)) 0 1,o3 152 (.iaddr none 1 (.t 150) (.t 151)) 0 1,o3 153 (.load none (.t 152)) 0 1,o3 154 (.faddr (.t 3) 4) 0 0,o3 155 (.load none (.t 154)) 0 0,o3 156 (.call (o6 17) [(.t 155),(o5 1)]) 0 1,o3 157 (.faddr (.t 20) 1) 0 1,o3 158 (.load none (.t 157)) 0 1,o3 159 (.mov (.t 10)) 0 1,o3 160 (.iaddr none 1 (.t 158) (.t 159)) 0 1,o3 161 (.load none (.t 160)) 0 1,o3 162 (.len 1 (.t 161)) 0 1,o3 163 (.bin .rem (.t 156) (.t 162)) 1 1,o3 164 (.iaddr none 1 (.t 153) (.t 163)) 1 1,o3 165 (.load none (.t 164)) 1 1,o3 21 (.mov (.t 165)) 1 1])
 (.seq (.reg [o0 166 (.load (some 7) (.t 2)),o4 167 10,o4 168 21,o0 169 (.faddr (.t 20) 0),o0 170 (.load none (.t 169)),o0 171 (.call (o6 36) [.t 166,.t 167,.t 168,.t 170]),o4 22 171])
 (.seq (.dreg [o3 172 (.faddr (.t 3) 1) 0 1,o3 173 (.load (some 2) (.t 172)) 0 1,o3 174 (.faddr (.t 3) 4) 0 0,o3 175 (.load none (.t 174)) 0 0,o3 176 (.call (o6 17) [(.t 175),(o5 2)]) 0 1,o3 177 (.call (o6 19) [.t 173,.t 176]) 1 2,o3 23 (.mov (.t 177)) 2 2])
 (.seq (.reg [o0 24 (.mov (.c (.int .i64 (-1))))])
 (.seq (.seq (.reg [o4 178 23,o0 179 (.eql (.one .i) false (.t 178) (o5 0))])
 (.cond (.t 179) (.reg [o0 24 (.mov (o5 0))])
 .skip))
 (.seq (.seq (.reg [o0 25 (.mov (o5 0))])
 (.block 2 (.loop aJQ)))
 (.seq (.seq (.reg [o4 211 24,o0 212 (.bin .lss (.t 211) (o5 0))])
 (.cond (.t 212) (.seq (.reg [o4 213 18,o0 214 (.eql (.one .i) true (.t 213) (o5 1)),o4 215 214,o2 216 (.call (o6 30) []) 215 true,o0 217 (.pick (.t 215) (.t 216) (.c (.bool false))),o4 218 217,o2 219 (.call (o6 31) []) 218 true,o0 220 (.pick (.t 218) (.t 219) (.c (.bool false))),o4 4 220])
 (.jump .ret))
 .skip))
 (.seq (.reg [o4 221 18,o0 222 (.eql (.one .i) true (.t 221) (o5 2)),o4 223 222,o2 224 (.mov (.t 24)) 223 true,o2 225 (.faddr (.t 17) 0) 223 true,o2 226 (.load none (.t 225)) 223 true,o2 227 (.bin .geq (.t 224) (.t 226)) 223 true,o0 228 (.pick (.t 223) (.t 227) (.c (.bool false))),o4 229 228,o2 230 (.mov (.t 18)) 229 true,o2 231 (.eql (.one .i) true (.t 230) (o5 1)) 229 true,o2 232 (.mov (.t 231)) 229 true,o2 233 (.mov (.t 24)) 232 false,o2 234 (.faddr (.t 17) 1) 232 false,o2 235 (.load none (.t 234)) 232 false,o2 236 (.bin .leq (.t 233) (.t 235)) 232 false,o2 237 (.pick (.t 232) (.c (.bool true)) (.t 236)) 229 true,o0 238 (.pick (.t 229) (.t 237) (.c (.bool false))),o4 239 238,o2 240 (.call (o6 30) []) 239 true,o0 241 (.pick (.t 239) (.t 240) (.c (.bool false))),o4 242 241,o2 243 (.call (o6 31) []) 242 true,o0 244 (.pick (.t 242) (.t 243) (.c (.bool false))),o4 4 244])
 (.jump .ret)))))))))))))))))))))))))⟩
def aJO:ACode:=.seq (.seq (.reg [o4 104 16,o0 105 (.faddr (.t 2) 4),o0 106 (.load none (.t 105)),o0 107 (.len 1 (.t 106)),o0 108 (.bin .lss (.t 104) (.t 107))])
 (.cond (.t 108) .skip
 (.jump (.exit 0))))
 (.seq (.block 1 (.seq (.reg [o0 111 (.faddr (.t 2) 4),o0 112 (.load none (.t 111)),o4 113 16,o0 114 (.iaddr none 3 (.t 112) (.t 113)),o0 115 (.load (some 3) (.t 114)),o0 17 (.alloc [.int .i64 0,.int .i64 0,.bool false]),o1 (.store 3 (.t 17) (.t 115))])
 (.seq (.reg [o0 116 (.faddr (.t 17) 0),o0 117 (.load none (.t 116)),o4 118 11,o0 119 (.eql (.one .i) false (.t 117) (.t 118))])
 (.cond (.t 119) (.dreg [o3 120 (.mklit 3 []) 0 0,o3 121 (.faddr (.t 15) 6) 0 0,o3 122 (.load none (.t 121)) 0 0,o3 123 (.append 3 24 (.t 120) (.t 122)) 0 1,o3 124 (.faddr (.t 17) 1) 0 1,o3 125 (.load none (.t 124)) 0 1,o3 126 (.faddr (.t 17) 2) 0 1,o3 127 (.load none (.t 126)) 0 1,o3 128 (.build [.int .i64 0,.int .i64 0,.bool false] [(1,1,(.t 125)),(2,1,(.t 127))]) 0 1,o3 129 (.mklit 3 [.t 128]) 0 1,o3 130 (.append 3 24 (.t 123) (.t 129)) 1 2,o3 131 (.faddr (.t 15) 6) 2 2,⟨o1 (.store 1 (.t 131) (.t 130)),2,3⟩])
 .skip))))
 (.reg [o4 109 16,o0 110 (.bin .add (.t 109) (o5 1)),o4 16 110]))
def a6:AFunc:=⟨206,[.tmp 4],
 .seq (.reg [o0 2 (.box 5 (.t 0)),o0 3 (.box 2 (.t 1)),o0 4 (.mov (.c (.bool false)))])
 (.seq (.reg [o0 29 (.load (some 5) (.t 2)),o0 30 (.call (o6 37) [.t 29]),o4 28 30,o0 31 (.ext (.t 28) 0),o0 32 (.ext (.t 28) 1),o0 33 (.ext (.t 28) 2),o4 5 31,o4 6 32,o4 7 33])
 (.seq (.seq (.reg [o4 34 7,o0 35 (.eql (.one .i) true (.t 34) (o5 0)),o4 36 35,o2 37 (.faddr (.t 2) 3) 36 false,o2 38 (.load none (.t 37)) 36 false,o2 39 (.len 1 (.t 38)) 36 false,o2 40 (.eql (.one .i) false (.t 39) (o5 0)) 36 false,o0 41 (.pick (.t 36) (.c (.bool true)) (.t 40)),o4 42 41,o2 43 (.load (some 5) (.t 2)) 42 false,o2 44 (.call (o6 38) [(.t 43),(.c (.lit [] true none))]) 42 false,o2 45 (.not (.t 44)) 42 false,o0 46 (.pick (.t 42) (.c (.bool true)) (.t 45))])
 (.cond (.t 46) (.seq (.reg [o0 48 (.load (some 5) (.t 2)),o0 49 (.call (o6 35) [(.t 48),(o5 0)]),o4 47 49,o0 50 (.ext (.t 47) 0),o0 51 (.ext (.t 47) 1),o0 52 (.ext (.t 47) 2),o0 8 (.alloc [.int .i64 0,.int .i64 0]),o1 (.store 2 (.t 8) (.t 50)),o4 9 51,o4 10 52])
 (.seq (.reg [o4 53 10,o0 54 (.eql (.one .i) true (.t 53) (o5 0)),o4 55 54,o2 56 (.call (o6 31) []) 55 true,o0 57 (.pick (.t 55) (.t 56) (.c (.bool false))),o4 58 57,o2 59 (.call (o6 39) []) 58 true,o0 60 (.pick (.t 58) (.t 59) (.c (.bool false))),o4 4 60])
 (.jump .ret)))
 .skip))
 (.seq (.reg [o0 61 (.iaddr (some 2) 1 (.t 3) (o5 0)),o0 62 (.load none (.t 61)),o0 63 (.conv .i64 (.t 62)),o0 64 (.faddr (.t 2) 3),o0 65 (.load none (.t 64)),o0 66 (.len 1 (.t 65)),o0 67 (.bin .rem (.t 63) (.t 66)),o4 11 67])
 (.seq (.reg [o0 69 (.load (some 5) (.t 2)),o4 70 11,o0 71 (.call (o6 35) [.t 69,.t 70]),o4 68 71,o0 72 (.ext (.t 68) 0),o0 73 (.ext (.t 68) 1),o0 74 (.ext (.t 68) 2),o0 12 (.alloc [.int .i64 0,.int .i64 0]),o1 (.store 2 (.t 12) (.t 72)),o4 13 73,o4 14 74])
 (.seq (.seq (.reg [o4 75 14,o0 76 (.eql (.one .i) true (.t 75) (o5 0)),o4 77 76,o2 78 (.mov (.t 13)) 77 false,o2 79 (.call (o6 20) [(.t 78),(o5 0),(o5 2)]) 77 false,o2 80 (.not (.t 79)) 77 false,o0 81 (.pick (.t 77) (.c (.bool true)) (.t 80))])
 (.cond (.t 81) (.seq (.reg [o0 4 (.mov (.c (.bool false)))])
 (.jump .ret))
 .skip))
 (.seq (.reg [o0 82 (.faddr (.t 2) 0),o0 83 (.load none (.t 82)),o0 84 (.len 1 (.t 83)),o0 85 (.max [(o5 1),(.t 84)]),o0 86 (.load (some 2) (.t 12)),o0 87 (.build [.int .i64 0,.bool false] [(1,1,(.c (.bool true)))]),o0 88 (.mklit 2 [.t 87]),⟨some 89,.build [.str ⟨#[]⟩,.int .i64 0] [(0,1,(.c (.str ⟨#[102,105,114,115,116]⟩)))],none⟩,⟨some 90,.build [.str ⟨#[]⟩,.int .i64 0] [(0,1,(.c (.str ⟨#[115,101,99,111,110,100]⟩))),(1,1,(o5 1))],none⟩,o0 91 (.mklit 2 [.t 89,.t 90]),o0 92 (.build [.int .i64 0,.int .i64 0,.int .i64 0,.lit [] true none,.lit [] true none,.int .i64 0,.lit [] true none] [(0,1,(.t 85)),(1,2,(.t 86)),(5,1,(o5 1)),(4,1,(.t 88)),(3,1,(.t 91))]),o0 15 (.alloc [.int .i64 0,.int .i64 0,.int .i64 0,.lit [] true none,.lit [] true none,.int .i64 0,.lit [] true none]),o1 (.store 7 (.t 15) (.t 92))])
 (.seq (.dreg [o3 93 (.faddr (.t 15) 3) 0 0,o3 94 (.load none (.t 93)) 0 0,o3 95 (.iaddr (some 2) 1 (.t 3) (o5 1)) 0 0,o3 96 (.load none (.t 95)) 0 0,o3 97 (.conv .i64 (.t 96)) 0 0,o3 98 (.faddr (.t 15) 0) 0 0,o3 99 (.load none (.t 98)) 0 0,o3 100 (.bin .rem (.t 97) (.t 99)) 0 0,o3 101 (.bin .add (o5 1) (.t 100)) 0 0,o3 102 (.iaddr none 2 (.t 94) (o5 1)) 0 0,o3 103 (.faddr (.t 102) 1) 0 0,⟨o1 (.store 1 (.t 103) (.t 101)),0,1⟩])
 (.seq (.seq (.reg [o0 16 (.mov (o5 0))])
 (.block 0 (.loop aJO)))
 (.seq (.seq (.reg [o4 132 13,o0 133 (.eql (.one .i) false (.t 132) (o5 2))])
 (.cond (.t 133) (.reg [o0 134 (.faddr (.t 15) 4),o1 (.store 1 (.t 134) (.c (.lit [] true none)))])
 .skip))
 (.seq (.seq (.reg [o0 136 (.load (some 7) (.t 15)),o0 137 (.call (o6 40) [.t 136]),o4 135 137,o0 138 (.ext (.t 135) 0),o0 139 (.ext (.t 135) 1),o0 140 (.ext (.t 135) 2),o4 18 138,o4 19 139,o4 20 140])
 (.seq (.reg [o4 141 20,o0 142 (.eql (.one .i) true (.t 141) (o5 0))])
 (.cond (.t 142) (.seq (.reg [o0 4 (.mov (.c (.bool false)))])
 (.jump .ret))
 .skip)))
 (.seq (.reg [o0 144 (.load (some 7) (.t 15)),o0 145 (.call (o6 41) [.t 144]),o4 143 145,o0 146 (.ext (.t 143) 0),o0 147 (.ext (.t 143) 1),o4 21 146,o4 22 147])
 (.seq (.reg [o0 149 (.load (some 7) (.t 15)),o0 150 (.call (o6 42) [(.t 149),(o5 0)]),o4 148 150,o0 151 (.ext (.t 148) 0),o0 152 (.ext (.t 148) 1),o0 153 (.ext (.t 148) 2),o0 23 (.alloc [.int .i64 0,.int .i64 0]),o1 (.store 2 (.t 23) (.t 151)),o4 24 152,o4 25 153])
 (.seq (.reg [o0 155 (.load (some 7) (.t 15)),o0 156 (.call (o6 43) [(.t 155),(o5 0)]),o4 154 156,o0 157 (.ext (.t 154) 0),o0 158 (.ext (.t 154) 1),o4 26 157,o4 27 158])
 (.seq (.seq (.reg [o4 159 22,o0 160 (.eql (.one .i) true (.t 159) (o5 0)),o4 161 160,o2 162 (.mov (.t 25)) 161 false,o2 163 (.eql (.one .i) true (.t 162) (o5 0)) 161 false,o0 164 (.pick (.t 161) (.c (.bool true)) (.t 163)),o4 165 164,o2 166 (.mov (.t 27)) 165 false,o2 167 (.eql (.one .i) true (.t 166) (o5 0)) 165 false,o0 168 (.pick (.t 165) (.c (.bool true)) (.t 167)),o4 169 168,o2 170 (.mov (.t 21)) 169 false,o2 171 (.len 1 (.t 170)) 169 false,o2 172 (.bin .gtr (.t 171) (o5 0)) 169 false,o0 173 (.pick (.t 169) (.c (.bool true)) (.t 172)),o4 174 173,o2 175 (.load (some 2) (.t 23)) 174 false,o2 176 (.load (some 2) (.t 12)) 174 false,o2 177 (.eql (.agg [.i,.i]) true (.t 175) (.t 176)) 174 false,o0 178 (.pick (.t 174) (.c (.bool true)) (.t 177)),o4 179 178,o2 180 (.mov (.t 24)) 179 false,o2 181 (.eql (.one .i) false (.t 180) (o5 2)) 179 false,o2 182 (.mov (.t 13)) 179 false,o2 183 (.eql (.one .i) false (.t 182) (o5 2)) 179 false,o2 184 (.eql (.one .b) true (.t 181) (.t 183)) 179 false,o0 185 (.pick (.t 179) (.c (.bool true)) (.t 184))])
 (.cond (.t 185) (.seq (.reg [o0 4 (.mov (.c (.bool false)))])
 (.jump .ret))
 .skip))
 (.seq (.seq (.reg [o4 186 13,o0 187 (.eql (.one .i) false (.t 186) (o5 2))])
 (.cond (.t 187) (.seq (.reg [o4 188 26,o0 189 (.len 1 (.t 188)),o0 190 (.eql (.one .i) false (.t 189) (o5 0)),o4 191 190,o2 192 (.call (o6 31) []) 191 true,o0 193 (.pick (.t 191) (.t 192) (.c (.bool false))),o4 194 193,o2 195 (.call (o6 39) []) 194 true,o0 196 (.pick (.t 194) (.t 195) (.c (.bool false))),o4 4 196])
 (.jump .ret))
 .skip))
 (.seq (.reg [o4 197 26,o0 198 (.mklit 1 [(o5 0)]),o0 199 (.call (o6 44) [.t 197,.t 198]),o4 200 199,o2 201 (.call (o6 31) []) 200 true,o0 202 (.pick (.t 200) (.t 201) (.c (.bool false))),o4 203 202,o2 204 (.call (o6 39) []) 203 true,o0 205 (.pick (.t 203) (.t 204) (.c (.bool false))),o4 4 205])
 (.jump .ret)))))))))))))))))⟩
def aJS:ACode:=.seq (.seq (.reg [o4 100 20,o4 101 14,o0 102 (.len 1 (.t 101)),o0 103 (.bin .lss (.t 100) (.t 102))])
 (.cond (.t 103) .skip
 (.jump (.exit 0))))
 (.seq (.block 1 (.seq (.reg [o0 106 (.faddr (.t 4) 3),o0 107 (.load none (.t 106)),o4 108 20,o0 109 (.iaddr none 6 (.t 107) (.t 108)),o0 110 (.load (some 6) (.t 109)),⟨some 21,.alloc [.str ⟨#[]⟩,.int .i64 0,.int .i64 0,.int .i64 0,.int .i64 0,.int .i64 0],none⟩,o1 (.store 6 (.t 21) (.t 110))])
 (.seq (.seq (.dreg [o3 111 (.mov (.t 17)) 0 0,o3 112 (.mov (.t 20)) 0 0,o3 113 (.iaddr none 1 (.t 111) (.t 112)) 0 0,o3 114 (.load none (.t 113)) 0 0,o3 115 (.mov (.t 14)) 0 0,o3 116 (.mov (.t 20)) 0 0,o3 117 (.iaddr none 2 (.t 115) (.t 116)) 0 0,o3 118 (.load (some 2) (.t 117)) 0 0,o3 119 (.call (o6 53) [.t 114,.t 118]) 0 1,o3 120 (.not (.t 119)) 1 1])
 (.cond (.t 120) (.seq (.reg [o0 6 (.mov (.c (.bool false)))])
 (.jump .ret))
 .skip))
 (.seq (.reg [o4 121 14,o4 122 20,o0 123 (.iaddr none 2 (.t 121) (.t 122)),o0 124 (.faddr (.t 123) 1),o0 125 (.load none (.t 124)),o0 126 (.call (o6 54) [.t 125]),o0 127 (.faddr (.t 21) 1),o1 (.store 1 (.t 127) (.t 126))])
 (.seq (.reg [o0 128 (.faddr (.t 21) 3),o0 129 (.load none (.t 128)),o0 130 (.faddr (.t 21) 1),o0 131 (.load none (.t 130)),o0 132 (.max [.t 129,.t 131]),o0 133 (.faddr (.t 21) 3),o1 (.store 1 (.t 133) (.t 132))])
 (.seq (.reg [o0 134 (.load (some 6) (.t 21)),⟨some 22,.alloc [.str ⟨#[]⟩,.int .i64 0,.int .i64 0,.int .i64 0,.int .i64 0,.int .i64 0],none⟩,o1 (.store 6 (.t 22) (.t 134))])
 (.seq (.reg [o4 135 17,o4 136 20,o0 137 (.iaddr none 1 (.t 135) (.t 136)),o0 138 (.load none (.t 137)),o0 139 (.call (o6 54) [.t 138]),o0 140 (.faddr (.t 22) 1),o1 (.store 1 (.t 140) (.t 139))])
 (.seq (.dreg [o3 141 (.mklit 6 []) 0 0,o3 142 (.faddr (.t 18) 3) 0 0,o3 143 (.load none (.t 142)) 0 0,o3 144 (.append 6 56 (.t 141) (.t 143)) 0 1,o3 145 (.load (some 6) (.t 21)) 0 1,o3 146 (.mklit 6 [.t 145]) 0 1,o3 147 (.append 6 56 (.t 144) (.t 146)) 1 2,o3 148 (.faddr (.t 18) 3) 2 2,⟨o1 (.store 1 (.t 148) (.t 147)),2,3⟩])
 (.dreg [o3 149 (.mklit 6 []) 0 0,o3 150 (.faddr (.t 19) 3) 0 0,o3 151 (.load none (.t 150)) 0 0,o3 152 (.append 6 56 (.t 149) (.t 151)) 0 1,o3 153 (.load (some 6) (.t 22)) 0 1,o3 154 (.mklit 6 [.t 153]) 0 1,o3 155 (.append 6 56 (.t 152) (.t 154)) 1 2,o3 156 (.faddr (.t 19) 3) 2 2,⟨o1 (.store 1 (.t 156) (.t 155)),2,3⟩])))))))))
 (.reg [o4 104 20,o0 105 (.bin .add (.t 104) (o5 1)),o4 20 105]))
def a7:AFunc:=⟨206,[.tmp 6],
 .seq (.reg [o0 3 (.box 4 (.t 0)),o0 4 (.box 4 (.t 1)),o0 6 (.mov (.c (.bool false)))])
 (.seq (.reg [o0 31 (.load (some 4) (.t 3)),o0 32 (.call (o6 45) [.t 31]),o4 30 32,o0 33 (.ext (.t 30) 0),o0 34 (.ext (.t 30) 1),o0 35 (.ext (.t 30) 2),o4 7 33,o4 8 34,o4 9 35])
 (.seq (.reg [o0 37 (.load (some 4) (.t 4)),o0 38 (.call (o6 46) [.t 37]),o4 36 38,o0 39 (.ext (.t 36) 0),o0 40 (.ext (.t 36) 1),o0 41 (.ext (.t 36) 2),o4 10 39,o4 11 40,o4 12 41])
 (.seq (.seq (.reg [o4 42 9,o0 43 (.eql (.one .i) true (.t 42) (o5 0)),o4 44 43,o2 45 (.mov (.t 12)) 44 false,o2 46 (.eql (.one .i) true (.t 45) (o5 0)) 44 false,o0 47 (.pick (.t 44) (.c (.bool true)) (.t 46)),o4 48 47,o2 49 (.faddr (.t 4) 3) 48 false,o2 50 (.load none (.t 49)) 48 false,o2 51 (.len 1 (.t 50)) 48 false,o2 52 (.faddr (.t 3) 2) 48 false,o2 53 (.load none (.t 52)) 48 false,o2 54 (.len 1 (.t 53)) 48 false,o2 55 (.bin .lss (.t 51) (.t 54)) 48 false,o0 56 (.pick (.t 48) (.c (.bool true)) (.t 55))])
 (.cond (.t 56) (.seq (.reg [o0 57 (.call (o6 47) []),o4 58 57,o2 59 (.call (o6 48) []) 58 true,o0 60 (.pick (.t 58) (.t 59) (.c (.bool false))),o4 6 60])
 (.jump .ret))
 .skip))
 (.seq (.reg [o0 61 (.load (some 4) (.t 3)),o0 62 (.call (o6 49) [(.t 61),(.c (.lit [] true none))]),o4 13 62])
 (.seq (.seq (.reg [o4 63 13,o0 64 (.len 1 (.t 63)),o0 65 (.eql (.one .i) false (.t 64) (o5 0))])
 (.cond (.t 65) (.seq (.reg [o0 66 (.call (o6 47) []),o4 67 66,o2 68 (.call (o6 48) []) 67 true,o0 69 (.pick (.t 67) (.t 68) (.c (.bool false))),o4 6 69])
 (.jump .ret))
 .skip))
 (.seq (.reg [o0 71 (.load (some 4) (.t 3)),o0 72 (.call (o6 50) [.t 71]),o4 70 72,o0 73 (.ext (.t 70) 0),o0 74 (.ext (.t 70) 1),o4 14 73,o4 15 74])
 (.seq (.seq (.reg [o4 75 15,o0 76 (.not (.t 75))])
 (.cond (.t 76) (.seq (.reg [o0 77 (.call (o6 47) []),o4 78 77,o2 79 (.call (o6 48) []) 78 true,o0 80 (.pick (.t 78) (.t 79) (.c (.bool false))),o4 6 80])
 (.jump .ret))
 .skip))
 (.seq (.dreg [o3 82 (.load (some 4) (.t 3)) 0 1,o3 83 (.mov (.t 13)) 0 1,o3 84 (.mov (.t 2)) 0 1,o3 85 (.conv .i64 (.t 84)) 0 1,o3 86 (.mov (.t 13)) 0 1,o3 87 (.len 1 (.t 86)) 0 1,o3 88 (.bin .rem (.t 85) (.t 87)) 0 1,o3 89 (.iaddr none 2 (.t 83) (.t 88)) 0 1,o3 90 (.load (some 2) (.t 89)) 0 1,o3 91 (.load (some 4) (.t 3)) 0 0,o3 92 (.call (o6 52) [.t 91]) 0 1,o3 93 (.call (o6 51) [.t 82,.t 90,.t 92]) 1 2,o3 81 (.mov (.t 93)) 2 2,o3 94 (.ext (.t 81) 0) 2 2,o3 95 (.ext (.t 81) 1) 2 2,o3 16 (.mov (.t 94)) 2 2,o3 17 (.mov (.t 95)) 2 2])
 (.seq (.dreg [o3 96 (.load (some 4) (.t 4)) 0 0,o3 97 (.load (some 4) (.t 4)) 0 1,o3 18 (.alloc [.int .i64 0,.int .i64 0,.int .i64 0,.lit [] true none]) 0 0,o3 19 (.alloc [.int .i64 0,.int .i64 0,.int .i64 0,.lit [] true none]) 0 0,⟨o1 (.store 4 (.t 18) (.t 96)),0,1⟩,⟨o1 (.store 4 (.t 19) (.t 97)),1,2⟩])
 (.seq (.reg [o0 98 (.faddr (.t 18) 3),o1 (.store 1 (.t 98) (.c (.lit [] true none))),o0 99 (.faddr (.t 19) 3),o1 (.store 1 (.t 99) (.c (.lit [] true none)))])
 (.seq (.seq (.reg [o0 20 (.mov (o5 0))])
 (.block 0 (.loop aJS)))
 (.seq (.reg [o0 158 (.load (some 4) (.t 18)),o0 159 (.call (o6 55) [.t 158]),o4 157 159,o0 160 (.ext (.t 157) 0),o0 161 (.ext (.t 157) 1),o0 162 (.ext (.t 157) 2),o4 23 160,o4 24 161,o4 25 162])
 (.seq (.seq (.reg [o4 163 25,o0 164 (.eql (.one .i) true (.t 163) (o5 0))])
 (.cond (.t 164) (.seq (.reg [o4 165 25,o0 166 (.eql (.one .i) false (.t 165) (o5 9)),o4 167 166,o2 168 (.call (o6 47) []) 167 true,o0 169 (.pick (.t 167) (.t 168) (.c (.bool false))),o4 170 169,o2 171 (.call (o6 48) []) 170 true,o0 172 (.pick (.t 170) (.t 171) (.c (.bool false))),o4 6 172])
 (.jump .ret))
 .skip))
 (.seq (.reg [o0 174 (.load (some 4) (.t 19)),o4 175 23,o0 176 (.call (o6 56) [.t 174,.t 175]),o4 173 176,o0 177 (.ext (.t 173) 0),o0 178 (.ext (.t 173) 1),o4 26 177,o4 27 178])
 (.seq (.reg [o0 180 (.load (some 4) (.t 19)),o4 181 23,o0 182 (.call (o6 57) [.t 180,.t 181]),o4 179 182,o0 183 (.ext (.t 179) 0),o0 184 (.ext (.t 179) 1),o4 28 183,o4 29 184])
 (.seq (.reg [o4 185 27,o0 186 (.eql (.one .i) false (.t 185) (o5 0)),o4 187 186,o2 188 (.mov (.t 29)) 187 true,o2 189 (.eql (.one .i) false (.t 188) (o5 0)) 187 true,o0 190 (.pick (.t 187) (.t 189) (.c (.bool false))),o4 191 190,o2 192 (.mov (.t 26)) 191 true,o2 193 (.eql (.one .i) false (.t 192) (o5 1)) 191 true,o0 194 (.pick (.t 191) (.t 193) (.c (.bool false))),o4 195 194,o2 196 (.mov (.t 28)) 195 true,o2 197 (.mov (.t 24)) 195 true,o2 198 (.bin .leq (.t 196) (.t 197)) 195 true,o0 199 (.pick (.t 195) (.t 198) (.c (.bool false))),o4 200 199,o2 201 (.call (o6 47) []) 200 true,o0 202 (.pick (.t 200) (.t 201) (.c (.bool false))),o4 203 202,o2 204 (.call (o6 48) []) 203 true,o0 205 (.pick (.t 203) (.t 204) (.c (.bool false))),o4 6 205])
 (.jump .ret)))))))))))))))))⟩
def ZT:ACode:=.seq (.seq (.reg [o4 20 5,o0 21 (.faddr (.t 1) 0),o0 22 (.load none (.t 21)),o0 23 (.len 1 (.t 22)),o0 24 (.bin .lss (.t 20) (.t 23))])
 (.cond (.t 24) .skip
 (.jump (.exit 0))))
 (.seq (.block 1 (.seq (.reg [o0 27 (.faddr (.t 1) 0),o0 28 (.load none (.t 27)),o4 29 5,o0 30 (.iaddr none 2 (.t 28) (.t 29)),o0 31 (.load (some 2) (.t 30)),o0 32 (.call (o6 29) [(.t 31),(o5 0),(o5 2)]),o4 6 32])
 (.seq (.reg [o4 33 6,o0 34 (.eql (.one .i) true (.t 33) (o5 0))])
 (.cond (.t 34) (.seq (.reg [o4 35 5,o4 36 6,o0 2 (.mov (o5 1)),o4 3 35,o4 4 36])
 (.jump .ret))
 .skip))))
 (.reg [o4 25 5,o0 26 (.bin .add (.t 25) (o5 1)),o4 5 26]))
def Y3:ACode:=.seq (.seq (.reg [o4 61 9,o0 62 (.faddr (.t 1) 5),o0 63 (.load none (.t 62)),o0 64 (.len 1 (.t 63)),o0 65 (.bin .lss (.t 61) (.t 64))])
 (.cond (.t 65) .skip
 (.jump (.exit 2))))
 (.seq (.block 3 (.seq (.reg [o0 68 (.faddr (.t 1) 5),o0 69 (.load none (.t 68)),o4 70 9,o0 71 (.iaddr none 4 (.t 69) (.t 70)),o0 72 (.load (some 4) (.t 71)),⟨some 10,.alloc [.str ⟨#[]⟩,.int .i64 0,.int .i64 0,.int .i64 0],none⟩,o1 (.store 4 (.t 10) (.t 72))])
 (.seq (.reg [o0 73 (.faddr (.t 10) 0),o0 74 (.load none (.t 73)),o4 75 8,o0 76 (.call (o6 67) [.t 74,.t 75]),o4 11 76])
 (.seq (.reg [o4 77 8,o0 78 (.faddr (.t 10) 0),o0 79 (.load none (.t 78)),o0 80 (.mklit 1 [.t 79]),o0 81 (.append 1 16 (.t 77) (.t 80)),o4 8 81])
 (.seq (.dreg [o3 82 (.faddr (.t 10) 1) 0 1,o3 83 (.load (some 2) (.t 82)) 0 1,o3 84 (.load (some 7) (.t 1)) 0 0,o3 85 (.call (o6 68) [.t 84]) 0 1,o3 86 (.bin .sub (.t 85) (o5 1)) 1 1,o3 87 (.call (o6 29) [(.t 83),(o5 0),(.t 86)]) 1 2,o3 12 (.mov (.t 87)) 2 2])
 (.seq (.seq (.reg [o4 88 11,o0 89 (.eql (.one .i) false (.t 88) (o5 0)),o4 90 89,o2 91 (.mov (.t 12)) 90 true,o2 92 (.eql (.one .i) false (.t 91) (o5 7)) 90 true,o2 93 (.mov (.t 92)) 90 true,o2 94 (.faddr (.t 10) 3) 93 false,o2 95 (.load none (.t 94)) 93 false,o2 96 (.call (o6 20) [(.t 95),(o5 1),(o5 99)]) 93 false,o2 97 (.not (.t 96)) 93 false,o2 98 (.pick (.t 93) (.c (.bool true)) (.t 97)) 90 true,o0 99 (.pick (.t 90) (.t 98) (.c (.bool false)))])
 (.cond (.t 99) (.reg [o0 11 (.mov (o5 7))])
 .skip))
 (.seq (.seq (.reg [o4 100 11,o0 101 (.eql (.one .i) false (.t 100) (o5 0))])
 (.cond (.t 101) (.reg [o4 102 12,o4 11 102])
 .skip))
 (.seq (.reg [o4 103 11,o0 104 (.eql (.one .i) true (.t 103) (o5 0))])
 (.cond (.t 104) (.seq (.reg [o4 105 9,o4 106 11,o0 2 (.mov (o5 3)),o4 3 105,o4 4 106])
 (.jump .ret))
 .skip)))))))))
 (.reg [o4 66 9,o0 67 (.bin .add (.t 66) (o5 1)),o4 9 67]))
def ZW:ACode:=.seq (.seq (.reg [o4 111 13,o0 112 (.faddr (.t 1) 6),o0 113 (.load none (.t 112)),o0 114 (.len 1 (.t 113)),o0 115 (.bin .lss (.t 111) (.t 114))])
 (.cond (.t 115) .skip
 (.jump (.exit 4))))
 (.seq (.block 5 (.seq (.reg [o0 118 (.faddr (.t 1) 6),o0 119 (.load none (.t 118)),o4 120 13,o0 121 (.iaddr none 3 (.t 119) (.t 120)),o0 122 (.load (some 3) (.t 121)),o0 14 (.alloc [.int .i64 0,.int .i64 0,.int .i64 0]),o1 (.store 3 (.t 14) (.t 122))])
 (.seq (.seq (.reg [o0 123 (.faddr (.t 14) 0),o0 124 (.load none (.t 123)),o0 125 (.faddr (.t 1) 5),o0 126 (.load none (.t 125)),o0 127 (.len 1 (.t 126)),o0 128 (.bin .sub (.t 127) (o5 1)),o0 129 (.call (o6 20) [(.t 124),(o5 0),(.t 128)]),o0 130 (.not (.t 129))])
 (.cond (.t 130) (.seq (.reg [o4 131 13,o0 2 (.mov (o5 4)),o4 3 131,o0 4 (.mov (o5 4))])
 (.jump .ret))
 .skip))
 (.seq (.dreg [o3 132 (.faddr (.t 14) 1) 0 1,o3 133 (.load none (.t 132)) 0 1,o3 134 (.load (some 7) (.t 1)) 0 0,o3 135 (.call (o6 68) [.t 134]) 0 1,o3 136 (.call (o6 20) [(.t 133),(o5 0),(.t 135)]) 1 2,o3 137 (.not (.t 136)) 2 2,o3 138 (.mov (.t 137)) 2 2,⟨o2 139 (.faddr (.t 14) 2) 138 false,2,2⟩,⟨o2 140 (.load none (.t 139)) 138 false,2,2⟩,⟨o2 141 (.call (o6 20) [(.t 140),(o5 0),(o5 30)]) 138 false,2,3⟩,⟨o2 142 (.not (.t 141)) 138 false,3,3⟩,o3 143 (.pick (.t 138) (.c (.bool true)) (.t 142)) 3 3])
 (.cond (.t 143) (.seq (.reg [o4 144 13,o0 2 (.mov (o5 4)),o4 3 144,o0 4 (.mov (o5 7))])
 (.jump .ret))
 .skip)))))
 (.reg [o4 116 13,o0 117 (.bin .add (.t 116) (o5 1)),o4 13 117]))
def a10:AFunc:=⟨145,[.tmp 2,.tmp 3,.tmp 4],
 .seq (.reg [o0 1 (.box 7 (.t 0)),o0 2 (.mov (o5 0)),o0 3 (.mov (o5 0)),o0 4 (.mov (o5 0))])
 (.seq (.seq (.reg [o0 15 (.faddr (.t 1) 0),o0 16 (.load none (.t 15)),o0 17 (.len 1 (.t 16)),o0 18 (.call (o6 20) [(.t 17),(o5 1),(o5 7)]),o0 19 (.not (.t 18))])
 (.cond (.t 19) (.seq (.reg [o0 2 (.mov (o5 1)),o0 3 (.mov (o5 0)),o0 4 (.mov (o5 3))])
 (.jump .ret))
 .skip))
 (.seq (.seq (.reg [o0 5 (.mov (o5 0))])
 (.block 0 (.loop ZT)))
 (.seq (.reg [o0 37 (.faddr (.t 1) 3),o0 38 (.load (some 2) (.t 37)),o0 39 (.call (o6 29) [(.t 38),(o5 0),(o5 9)]),o4 7 39])
 (.seq (.seq (.reg [o0 40 (.faddr (.t 1) 1),o0 41 (.load none (.t 40)),o0 42 (.call (o6 20) [(.t 41),(o5 0),(o5 30)]),o0 43 (.not (.t 42)),o4 44 43,o2 45 (.faddr (.t 1) 2) 44 false,o2 46 (.load none (.t 45)) 44 false,o2 47 (.call (o6 20) [(.t 46),(o5 0),(o5 30)]) 44 false,o2 48 (.not (.t 47)) 44 false,o0 49 (.pick (.t 44) (.c (.bool true)) (.t 48)),o4 50 49,o2 51 (.mov (.t 7)) 50 false,o2 52 (.eql (.one .i) false (.t 51) (o5 7)) 50 false,o0 53 (.pick (.t 50) (.c (.bool true)) (.t 52))])
 (.cond (.t 53) (.seq (.reg [o0 2 (.mov (o5 2)),o0 3 (.mov (o5 0)),o0 4 (.mov (o5 7))])
 (.jump .ret))
 .skip))
 (.seq (.seq (.reg [o4 54 7,o0 55 (.eql (.one .i) true (.t 54) (o5 0))])
 (.cond (.t 55) (.seq (.reg [o4 56 7,o0 2 (.mov (o5 2)),o0 3 (.mov (o5 0)),o4 4 56])
 (.jump .ret))
 .skip))
 (.seq (.seq (.reg [o0 57 (.faddr (.t 1) 5),o0 58 (.load none (.t 57)),o0 59 (.len 1 (.t 58)),o0 60 (.bin .gtr (.t 59) (o5 4))])
 (.cond (.t 60) (.seq (.reg [o0 2 (.mov (o5 3)),o0 3 (.mov (o5 0)),o0 4 (.mov (o5 3))])
 (.jump .ret))
 .skip))
 (.seq (.reg [o0 8 (.mov (.c (.lit [] true none)))])
 (.seq (.seq (.reg [o0 9 (.mov (o5 0))])
 (.block 2 (.loop Y3)))
 (.seq (.seq (.reg [o0 107 (.faddr (.t 1) 6),o0 108 (.load none (.t 107)),o0 109 (.len 1 (.t 108)),o0 110 (.bin .gtr (.t 109) (o5 4))])
 (.cond (.t 110) (.seq (.reg [o0 2 (.mov (o5 4)),o0 3 (.mov (o5 0)),o0 4 (.mov (o5 3))])
 (.jump .ret))
 .skip))
 (.seq (.seq (.reg [o0 13 (.mov (o5 0))])
 (.block 4 (.loop ZW)))
 (.seq (.reg [o0 2 (.mov (o5 0)),o0 3 (.mov (o5 0)),o0 4 (.mov (o5 0))])
 (.jump .ret))))))))))))⟩
def Z0:ACode:=.seq (.seq (.reg [o4 36 7,o0 37 (.faddr (.t 1) 3),o0 38 (.load none (.t 37)),o0 39 (.len 1 (.t 38)),o0 40 (.bin .lss (.t 36) (.t 39))])
 (.cond (.t 40) .skip
 (.jump (.exit 0))))
 (.seq (.block 1 (.seq (.reg [o0 43 (.faddr (.t 1) 3),o0 44 (.load none (.t 43)),o4 45 7,o0 46 (.iaddr none 3 (.t 44) (.t 45)),o0 47 (.faddr (.t 46) 0),o0 48 (.load none (.t 47)),o4 49 6,o0 50 (.call (o6 67) [.t 48,.t 49]),o4 8 50])
 (.seq (.reg [o4 51 6,o0 52 (.faddr (.t 1) 3),o0 53 (.load none (.t 52)),o4 54 7,o0 55 (.iaddr none 3 (.t 53) (.t 54)),o0 56 (.faddr (.t 55) 0),o0 57 (.load none (.t 56)),o0 58 (.mklit 1 [.t 57]),o0 59 (.append 1 16 (.t 51) (.t 58)),o4 6 59])
 (.seq (.seq (.reg [o4 60 8,o0 61 (.eql (.one .i) false (.t 60) (o5 0))])
 (.cond (.t 61) (.reg [o0 62 (.faddr (.t 1) 3),o0 63 (.load none (.t 62)),o4 64 7,o0 65 (.iaddr none 3 (.t 63) (.t 64)),o0 66 (.faddr (.t 65) 1),o0 67 (.load (some 2) (.t 66)),o0 68 (.call (o6 29) [(.t 67),(o5 0),(o5 15)]),o4 8 68])
 .skip))
 (.seq (.reg [o4 69 8,o0 70 (.eql (.one .i) true (.t 69) (o5 0))])
 (.cond (.t 70) (.seq (.reg [o4 71 7,o4 72 8,o0 2 (.mov (o5 2)),o4 3 71,o4 4 72])
 (.jump .ret))
 .skip))))))
 (.reg [o4 41 7,o0 42 (.bin .add (.t 41) (o5 1)),o4 7 42]))
def aAF:ACode:=.seq (.seq (.reg [o4 79 9,o0 80 (.faddr (.t 1) 5),o0 81 (.load none (.t 80)),o0 82 (.len 1 (.t 81)),o0 83 (.bin .lss (.t 79) (.t 82))])
 (.cond (.t 83) .skip
 (.jump (.exit 2))))
 (.seq (.block 3 (.seq (.dreg [o3 86 (.load (some 7) (.t 1)) 0 0,o3 87 (.faddr (.t 1) 5) 0 0,o3 88 (.load none (.t 87)) 0 0,o3 89 (.mov (.t 9)) 0 0,o3 90 (.iaddr none 1 (.t 88) (.t 89)) 0 0,o3 91 (.load none (.t 90)) 0 0,o3 92 (.call (o6 69) [.t 86,.t 91]) 0 1,o3 93 (.not (.t 92)) 1 1])
 (.cond (.t 93) (.seq (.reg [o4 94 9,o0 2 (.mov (o5 3)),o4 3 94,o0 4 (.mov (o5 4))])
 (.jump .ret))
 .skip)))
 (.reg [o4 84 9,o0 85 (.bin .add (.t 84) (o5 1)),o4 9 85]))
def ZS:ACode:=.seq (.seq (.reg [o4 99 10,o0 100 (.faddr (.t 1) 6),o0 101 (.load none (.t 100)),o0 102 (.len 1 (.t 101)),o0 103 (.bin .lss (.t 99) (.t 102))])
 (.cond (.t 103) .skip
 (.jump (.exit 4))))
 (.seq (.block 5 (.seq (.dreg [o3 106 (.faddr (.t 1) 6) 0 1,o3 107 (.load none (.t 106)) 0 1,o3 108 (.mov (.t 10)) 0 1,o3 109 (.iaddr none 2 (.t 107) (.t 108)) 0 1,o3 110 (.faddr (.t 109) 0) 0 1,o3 111 (.load none (.t 110)) 0 1,o3 112 (.load (some 7) (.t 1)) 0 0,o3 113 (.call (o6 70) [.t 112]) 0 1,o3 114 (.call (o6 20) [(.t 111),(o5 0),(.t 113)]) 1 2,o3 115 (.not (.t 114)) 2 2,o3 116 (.mov (.t 115)) 2 2,⟨o2 117 (.faddr (.t 1) 6) 116 false,2,2⟩,⟨o2 118 (.load none (.t 117)) 116 false,2,2⟩,⟨o2 119 (.mov (.t 10)) 116 false,2,2⟩,⟨o2 120 (.iaddr none 2 (.t 118) (.t 119)) 116 false,2,2⟩,⟨o2 121 (.faddr (.t 120) 1) 116 false,2,2⟩,⟨o2 122 (.load none (.t 121)) 116 false,2,2⟩,⟨o2 123 (.call (o6 71) [.t 122]) 116 false,2,3⟩,⟨o2 124 (.not (.t 123)) 116 false,3,3⟩,o3 125 (.pick (.t 116) (.c (.bool true)) (.t 124)) 3 3])
 (.cond (.t 125) (.seq (.reg [o4 126 10,o0 2 (.mov (o5 4)),o4 3 126,o0 4 (.mov (o5 7))])
 (.jump .ret))
 .skip)))
 (.reg [o4 104 10,o0 105 (.bin .add (.t 104) (o5 1)),o4 10 105]))
def a11:AFunc:=⟨127,[.tmp 2,.tmp 3,.tmp 4],
 .seq (.reg [o0 1 (.box 7 (.t 0)),o0 2 (.mov (o5 0)),o0 3 (.mov (o5 0)),o0 4 (.mov (o5 0))])
 (.seq (.reg [o0 11 (.faddr (.t 1) 1),o0 12 (.load (some 2) (.t 11)),o0 13 (.call (o6 29) [(.t 12),(o5 0),(o5 69)]),o4 5 13])
 (.seq (.seq (.reg [o0 14 (.faddr (.t 1) 0),o0 15 (.load none (.t 14)),o0 16 (.call (o6 20) [(.t 15),(o5 1),(o5 6)]),o0 17 (.not (.t 16)),o4 18 17,o2 19 (.mov (.t 5)) 18 false,o2 20 (.eql (.one .i) false (.t 19) (o5 7)) 18 false,o0 21 (.pick (.t 18) (.c (.bool true)) (.t 20)),o4 22 21,o2 23 (.faddr (.t 1) 4) 22 false,o2 24 (.load none (.t 23)) 22 false,o2 25 (.call (o6 20) [(.t 24),(o5 0),(o5 6)]) 22 false,o2 26 (.not (.t 25)) 22 false,o0 27 (.pick (.t 22) (.c (.bool true)) (.t 26))])
 (.cond (.t 27) (.seq (.reg [o0 2 (.mov (o5 1)),o0 3 (.mov (o5 0)),o0 4 (.mov (o5 7))])
 (.jump .ret))
 .skip))
 (.seq (.seq (.reg [o4 28 5,o0 29 (.eql (.one .i) true (.t 28) (o5 0))])
 (.cond (.t 29) (.seq (.reg [o4 30 5,o0 2 (.mov (o5 1)),o0 3 (.mov (o5 0)),o4 4 30])
 (.jump .ret))
 .skip))
 (.seq (.seq (.reg [o0 31 (.faddr (.t 1) 3),o0 32 (.load none (.t 31)),o0 33 (.len 1 (.t 32)),o0 34 (.call (o6 20) [(.t 33),(o5 1),(o5 4)]),o0 35 (.not (.t 34))])
 (.cond (.t 35) (.seq (.reg [o0 2 (.mov (o5 2)),o0 3 (.mov (o5 0)),o0 4 (.mov (o5 3))])
 (.jump .ret))
 .skip))
 (.seq (.reg [o0 6 (.mov (.c (.lit [] true none)))])
 (.seq (.seq (.reg [o0 7 (.mov (o5 0))])
 (.block 0 (.loop Z0)))
 (.seq (.seq (.reg [o0 73 (.faddr (.t 1) 5),o0 74 (.load none (.t 73)),o0 75 (.len 1 (.t 74)),o0 76 (.faddr (.t 1) 0),o0 77 (.load none (.t 76)),o0 78 (.bin .gtr (.t 75) (.t 77))])
 (.cond (.t 78) (.seq (.reg [o0 2 (.mov (o5 3)),o0 3 (.mov (o5 0)),o0 4 (.mov (o5 3))])
 (.jump .ret))
 .skip))
 (.seq (.seq (.reg [o0 9 (.mov (o5 0))])
 (.block 2 (.loop aAF)))
 (.seq (.seq (.reg [o0 95 (.faddr (.t 1) 6),o0 96 (.load none (.t 95)),o0 97 (.len 1 (.t 96)),o0 98 (.bin .gtr (.t 97) (o5 4))])
 (.cond (.t 98) (.seq (.reg [o0 2 (.mov (o5 4)),o0 3 (.mov (o5 0)),o0 4 (.mov (o5 3))])
 (.jump .ret))
 .skip))
 (.seq (.seq (.reg [o0 10 (.mov (o5 0))])
 (.block 4 (.loop ZS)))
 (.seq (.reg [o0 2 (.mov (o5 0)),o0 3 (.mov (o5 0)),o0 4 (.mov (o5 0))])
 (.jump .ret))))))))))))⟩
def a12:AFunc:=⟨205,[.tmp 0],
 .seq (.reg [o0 0 (.mov (.c (.bool false)))])
 (.seq (.reg [o0 31 (.call (o6 72) [(.c (.lit [] true none))]),o0 32 (.call (o6 73) [(o5 1),(o5 3),(o5 2)]),o0 33 (.mklit 3 [.t 32]),o0 34 (.call (o6 72) [.t 33]),o0 1 (.alloc [.lit [] true none,.int .i64 0,.int .i64 0,.int .i64 0,.int .i64 0,.lit [] true none,.lit [] true none]),o0 2 (.alloc [.lit [] true none,.int .i64 0,.int .i64 0,.int .i64 0,.int .i64 0,.lit [] true none,.lit [] true none]),o1 (.store 7 (.t 1) (.t 31)),o1 (.store 7 (.t 2) (.t 34))])
 (.seq (.reg [o0 35 (.call (o6 73) [(o5 1),(o5 3),(o5 2)]),o0 36 (.call (o6 73) [(o5 0),(o5 1),(o5 3)]),o0 37 (.mklit 3 [.t 35,.t 36]),o0 38 (.call (o6 72) [.t 37]),o0 3 (.alloc [.lit [] true none,.int .i64 0,.int .i64 0,.int .i64 0,.int .i64 0,.lit [] true none,.lit [] true none]),o1 (.store 7 (.t 3) (.t 38))])
 (.seq (.reg [o0 40 (.load (some 7) (.t 1)),o0 41 (.call (o6 15) [(.t 40),(o5 1),(o5 4)]),o4 39 41,o0 42 (.ext (.t 39) 0),o0 43 (.ext (.t 39) 1),o0 4 (.alloc [.int .i64 0,.int .i64 0]),o1 (.store 2 (.t 4) (.t 42)),o4 5 43])
 (.seq (.reg [o0 45 (.load (some 7) (.t 2)),o0 46 (.call (o6 15) [(.t 45),(o5 1),(o5 4)]),o4 44 46,o0 47 (.ext (.t 44) 0),o0 48 (.ext (.t 44) 1),o0 6 (.alloc [.int .i64 0,.int .i64 0]),o1 (.store 2 (.t 6) (.t 47)),o4 7 48])
 (.seq (.reg [o0 50 (.load (some 7) (.t 1)),o0 51 (.call (o6 59) [(.t 50),(o5 0),(o5 4)]),o4 49 51,o0 52 (.ext (.t 49) 0),o0 53 (.ext (.t 49) 1),o4 8 52,o4 9 53])
 (.seq (.reg [o0 55 (.load (some 7) (.t 1)),o0 56 (.call (o6 59) [(.t 55),(o5 0),(o5 3)]),o4 54 56,o0 57 (.ext (.t 54) 0),o0 58 (.ext (.t 54) 1),o4 10 57,o4 11 58])
 (.seq (.reg [o0 60 (.load (some 7) (.t 1)),o0 61 (.call (o6 74) [(.t 60),(o5 0)]),o4 59 61,o0 62 (.ext (.t 59) 0),o0 63 (.ext (.t 59) 1),o0 64 (.ext (.t 59) 2),o4 12 62,o4 13 63,o4 14 64])
 (.seq (.reg [o0 66 (.load (some 7) (.t 1)),o0 67 (.call (o6 75) [(.t 66),(o5 0)]),o4 65 67,o0 68 (.ext (.t 65) 0),o0 69 (.ext (.t 65) 1),o4 15 68,o4 16 69])
 (.seq (.reg [o0 71 (.load (some 7) (.t 1)),o0 72 (.call (o6 26) [(.t 71),(o5 4),(o5 50)]),o4 70 72,o0 73 (.ext (.t 70) 0),o0 74 (.ext (.t 70) 1),o0 75 (.ext (.t 70) 2),o4 17 73,o4 18 74,o4 19 75])
 (.seq (.reg [o0 77 (.load (some 7) (.t 1)),o0 78 (.call (o6 26) [(.t 77),(o5 4),(o5 80)]),o4 76 78,o0 79 (.ext (.t 76) 0),o0 80 (.ext (.t 76) 1),o0 81 (.ext (.t 76) 2),o4 20 79,o4 21 80,o4 22 81])
 (.seq (.reg [o0 83 (.load (some 7) (.t 2)),o0 84 (.call (o6 76) [(.t 83),(o5 1)]),o4 82 84,o0 85 (.ext (.t 82) 0),o0 86 (.ext (.t 82) 1),o0 23 (.alloc [.int .i64 0,.int .i64 0]),o1 (.store 2 (.t 23) (.t 85)),o4 24 86])
 (.seq (.reg [o0 88 (.load (some 7) (.t 2)),o0 89 (.call (o6 77) [(.t 88),(o5 1)]),o4 87 89,o0 90 (.ext (.t 87) 0),o0 91 (.ext (.t 87) 1),o4 25 90,o4 26 91])
 (.seq (.reg [o0 93 (.load (some 7) (.t 3)),o0 94 (.call (o6 78) [.t 93]),o4 92 94,o0 95 (.ext (.t 92) 0),o0 96 (.ext (.t 92) 1),o4 27 95,o4 28 96])
 (.seq (.reg [o0 98 (.load (some 7) (.t 3)),o0 99 (.call (o6 75) [(.t 98),(o5 0)]),o4 97 99,o0 100 (.ext (.t 97) 0),o0 101 (.ext (.t 97) 1),o4 29 100,o4 30 101])
 (.seq (.dreg [o3 102 (.mov (.t 5)) 0 0,o3 103 (.eql (.one .i) false (.t 102) (o5 0)) 0 0,o3 104 (.mov (.t 103)) 0 0,⟨o2 105 (.mov (.t 7)) 104 true,0,0⟩,⟨o2 106 (.eql (.one .i) false (.t 105) (o5 0)) 104 true,0,0⟩,o3 107 (.pick (.t 104) (.t 106) (.c (.bool false))) 0 0,o3 108 (.mov (.t 107)) 0 0,⟨o2 109 (.mov (.t 9)) 108 true,0,0⟩,⟨o2 110 (.eql (.one .i) false (.t 109) (o5 0)) 108 true,0,0⟩,o3 111 (.pick (.t 108) (.t 110) (.c (.bool false))) 0 0,o3 112 (.mov (.t 111)) 0 0,⟨o2 113 (.mov (.t 11)) 112 true,0,0⟩,⟨o2 114 (.eql (.one .i) false (.t 113) (o5 0)) 112 true,0,0⟩,o3 115 (.pick (.t 112) (.t 114) (.c (.bool false))) 0 0,o3 116 (.mov (.t 115)) 0 0,⟨o2 117 (.mov (.t 14)) 116 true,0,0⟩,⟨o2 118 (.eql (.one .i) false (.t 117) (o5 0)) 116 true,0,0⟩,o3 119 (.pick (.t 116) (.t 118) (.c (.bool false))) 0 0,o3 120 (.mov (.t 119)) 0 0,⟨o2 121 (.mov (.t 16)) 120 true,0,0⟩,⟨o2 122 (.eql (.one .i) false (.t 121) (o5 0)) 120 true,0,0⟩,o3 123 (.pick (.t 120) (.t 122) (.c (.bool false))) 0 0,o3 124 (.mov (.t 123)) 0 0,⟨o2 125 (.mov (.t 19)) 124 true,0,0⟩,⟨o2 126 (.eql (.one .i) false (.t 125) (o5 0)) 124 true,0,0⟩,o3 127 (.pick (.t 124) (.t 126) (.c (.bool false))) 0 0,o3 128 (.mov (.t 127)) 0 0,⟨o2 129 (.mov (.t 22)) 128 true,0,0⟩,⟨o2 130 (.eql (.one .i) false (.t 129) (o5 9)) 128 true,0,0⟩,o3 131 (.pick (.t 128) (.t 130) (.c (.bool false))) 0 0,o3 132 (.mov (.t 131)) 0 0,⟨o2 133 (.mov (.t 24)) 132 true,0,0⟩,⟨o2 134 (.eql (.one .i) false (.t 133) (o5 0)) 132 true,0,0⟩,o3 135 (.pick (.t 132) (.t 134) (.c (.bool false))) 0 0,o3 136 (.mov (.t 135)) 0 0,⟨o2 137 (.mov (.t 26)) 136 true,0,0⟩,⟨o2 138 (.eql (.one .i) false (.t 137) (o5 0)) 136 true,0,0⟩,o3 139 (.pick (.t 136) (.t 138) (.c (.bool false))) 0 0,o3 140 (.mov (.t 139)) 0 0,⟨o2 141 (.mov (.t 28)) 140 true,0,0⟩,⟨o2 142 (.eql (.one .i) false (.t 141) (o5 0)) 140 true,0,0⟩,o3 143 (.pick (.t 140) (.t 142) (.c (.bool false))) 0 0,o3 144 (.mov (.t 143)) 0 0,⟨o2 145 (.mov (.t 30)) 144 true,0,0⟩,⟨o2 146 (.eql (.one .i) false (.t 145) (o5 8)) 144 true,0,0⟩,o3 147 (.pick (.t 144) (.t 146) (.c (.bool false))) 0 0,o3 148 (.mov (.t 147)) 0 0,⟨o2 149 (.load (some 2) (.t 4)) 148 true,0,1⟩,⟨o2 150 (.call (o6 79) [(o5 3),(o5 6)]) 148 true,0,1⟩,⟨o2 151 (.eql (.agg [.i,.i]) false (.t 149) (.t 150)) 148 true,1,1⟩,o3 152 (.pick (.t 148) (.t 151) (.c (.bool false))) 1 1,o3 153 (.mov (.t 152)) 1 1,⟨o2 154 (.load (some 2) (.t 6)) 153 true,1,2⟩,⟨o2 155 (.call (o6 79) [(o5 4),(o5 5)]) 153 true,1,2⟩,⟨o2 156 (.eql (.agg [.i,.i]) false (.t 154) (.t 155)) 153 true,2,2⟩,o3 157 (.pick (.t 153) (.t 156) (.c (.bool false))) 2 2,o3 158 (.mov (.t 157)) 2 2,⟨o2 159 (.mov (.t 8)) 158 true,2,2⟩,⟨o2 160 (.eql (.one .i) false (.t 159) (o5 1)) 158 true,2,2⟩,o3 161 (.pick (.t 158) (.t 160) (.c (.bool false))) 2 2,o3 162 (.mov (.t 161)) 2 2,⟨o2 163 (.mov (.t 10)) 162 true,2,2⟩,⟨o2 164 (.eql (.one .i) false (.t 163) (o5 2)) 162 true,2,2⟩,o3 165 (.pick (.t 162) (.t 164) (.c (.bool false))) 2 2,o3 166 (.mov (.t 165)) 2 2,⟨o2 167 (.mov (.t 12)) 166 true,2,2⟩,⟨o2 168 (.mklit 1 [(o5 4)]) 166 true,2,2⟩,⟨o2 169 (.call (o6 44) [.t 167,.t 168]) 166 true,2,3⟩,o3 170 (.pick (.t 166) (.t 169) (.c (.bool false))) 3 3,o3 171 (.mov (.t 170)) 3 3,⟨o2 172 (.mov (.t 13)) 171 true,3,3⟩,⟨o2 173 (.mklit 1 [(o5 4),(o5 5)]) 171 true,3,3⟩,⟨o2 174 (.call (o6 44) [.t 172,.t 173]) 171 true,3,4⟩,o3 175 (.pick (.t 171) (.t 174) (.c (.bool false))) 4 4,o3 176 (.mov (.t 175)) 4 4,⟨o2 177 (.mov (.t 15)) 176 true,4,4⟩,⟨o2 178 (.eql (.one .i) false (.t 177) (o5 4)) 176 true,4,4⟩,o3 179 (.pick (.t 176) (.t 178) (.c (.bool false))) 4 4,o3 180 (.mov (.t 179)) 4 4,⟨o2 181 (.mov (.t 17)) 180 true,4,4⟩,⟨o2 182 (.mklit 1 [(o5 0),(o5 1)]) 180 true,4,4⟩,⟨o2 183 (.call (o6 44) [.t 181,.t 182]) 180 true,4,5⟩,o3 184 (.pick (.t 180) (.t 183) (.c (.bool false))) 5 5,o3 185 (.mov (.t 184)) 5 5,⟨o2 186 (.mov (.t 18)) 185 true,5,5⟩,⟨o2 187 (.mklit 1 [(o5 1)]) 185 true,5,5⟩,⟨o2 188 (.call (o6 44) [.t 186,.t 187]) 185 true,5,6⟩,o3 189 (.pick (.t 185) (.t 188) (.c (.bool false))) 6 6,o3 190 (.mov (.t 189)) 6 6,⟨o2 191 (.load (some 2) (.t 23)) 190 true,6,7⟩,⟨o2 192 (.call (o6 79) [(o5 0),(o5 0)]) 190 true,6,7⟩,⟨o2 193 (.eql (.agg [.i,.i]) false (.t 191) (.t 192)) 190 true,7,7⟩,o3 194 (.pick (.t 190) (.t 193) (.c (.bool false))) 7 7,o3 195 (.mov (.t 194)) 7 7,⟨o2 196 (.mov (.t 25)) 195 true,7,7⟩,⟨o2 197 (.mklit 1 [(o5 1)]) 195 true,7,7⟩,⟨o2 198 (.call (o6 44) [.t 196,.t 197]) 195 true,7,8⟩,o3 199 (.pick (.t 195) (.t 198) (.c (.bool false))) 8 8,o3 200 (.mov (.t 199)) 8 8,⟨o2 201 (.mov (.t 27)) 200 true,8,8⟩,⟨o2 202 (.mklit 1 [(o5 1)]) 200 true,8,8⟩,⟨o2 203 (.call (o6 44) [.t 201,.t 202]) 200 true,8,9⟩,o3 204 (.pick (.t 200) (.t 203) (.c (.bool false))) 9 9,o3 0 (.mov (.t 204)) 9 9])
 (.jump .ret))))))))))))))))⟩
def a13:AFunc:=⟨188,[.tmp 0],
 .seq (.reg [o0 0 (.mov (.c (.bool false)))])
 (.seq (.reg [o0 29 (.call (o6 80) [(.c (.lit [] true none))]),o0 30 (.call (o6 81) [(o5 1),(o5 1)]),o0 31 (.mklit 2 [.t 30]),o0 32 (.call (o6 80) [.t 31]),o0 33 (.call (o6 81) [(o5 1),(o5 1)]),o0 34 (.call (o6 81) [(o5 2),(o5 3)]),o0 35 (.mklit 2 [.t 33,.t 34]),o0 36 (.call (o6 80) [.t 35]),o0 1 (.alloc [.int .i64 0,.int .i64 0,.int .i64 0,.lit [] true none,.int .i64 0,.lit [] true none,.lit [] true none]),o0 2 (.alloc [.int .i64 0,.int .i64 0,.int .i64 0,.lit [] true none,.int .i64 0,.lit [] true none,.lit [] true none]),o0 3 (.alloc [.int .i64 0,.int .i64 0,.int .i64 0,.lit [] true none,.int .i64 0,.lit [] true none,.lit [] true none]),o1 (.store 7 (.t 1) (.t 29)),o1 (.store 7 (.t 2) (.t 32)),o1 (.store 7 (.t 3) (.t 36))])
 (.seq (.reg [o0 37 (.load (some 7) (.t 2)),o0 4 (.alloc [.int .i64 0,.int .i64 0,.int .i64 0,.lit [] true none,.int .i64 0,.lit [] true none,.lit [] true none]),o1 (.store 7 (.t 4) (.t 37))])
 (.seq (.reg [o0 38 (.faddr (.t 4) 4),o1 (.store 1 (.t 38) (o5 1))])
 (.seq (.reg [o0 40 (.load (some 7) (.t 1)),o0 41 (.call (o6 82) [(.t 40),(o5 2)]),o4 39 41,o0 42 (.ext (.t 39) 0),o0 43 (.ext (.t 39) 1),o0 5 (.alloc [.int .i64 0,.int .i64 0]),o1 (.store 2 (.t 5) (.t 42)),o4 6 43])
 (.seq (.reg [o0 45 (.load (some 7) (.t 2)),o0 46 (.call (o6 82) [(.t 45),(o5 2)]),o4 44 46,o0 47 (.ext (.t 44) 0),o0 48 (.ext (.t 44) 1),o0 7 (.alloc [.int .i64 0,.int .i64 0]),o1 (.store 2 (.t 7) (.t 47)),o4 8 48])
 (.seq (.reg [o0 50 (.load (some 7) (.t 1)),o0 51 (.call (o6 83) [(.t 50),(o5 2)]),o4 49 51,o0 52 (.ext (.t 49) 0),o0 53 (.ext (.t 49) 1),o0 9 (.alloc [.int .i64 0,.int .i64 0]),o1 (.store 2 (.t 9) (.t 52)),o4 10 53])
 (.seq (.reg [o0 55 (.load (some 7) (.t 2)),o0 56 (.call (o6 84) [.t 55]),o4 54 56,o0 57 (.ext (.t 54) 0),o0 58 (.ext (.t 54) 1),o0 11 (.alloc [.int .i64 0,.int .i64 0]),o1 (.store 2 (.t 11) (.t 57)),o4 12 58])
 (.seq (.reg [o0 60 (.load (some 7) (.t 2)),o0 61 (.mklit 1 [(o5 2)]),o0 62 (.call (o6 85) [.t 60,.t 61]),o4 59 62,o0 63 (.ext (.t 59) 0),o0 64 (.ext (.t 59) 1),o0 13 (.alloc [.int .i64 0,.int .i64 0]),o1 (.store 2 (.t 13) (.t 63)),o4 14 64])
 (.seq (.reg [o0 66 (.load (some 7) (.t 2)),o0 67 (.call (o6 16) [(.t 66),(o5 4),(o5 3)]),o4 65 67,o0 68 (.ext (.t 65) 0),o0 69 (.ext (.t 65) 1),o0 70 (.ext (.t 65) 2),o4 15 68,o4 16 69,o4 17 70])
 (.seq (.reg [o0 72 (.load (some 7) (.t 4)),o0 73 (.call (o6 16) [(.t 72),(o5 4),(o5 3)]),o4 71 73,o0 74 (.ext (.t 71) 0),o0 75 (.ext (.t 71) 1),o0 76 (.ext (.t 71) 2),o4 18 74,o4 19 75,o4 20 76])
 (.seq (.reg [o0 78 (.load (some 7) (.t 2)),o0 79 (.call (o6 86) [(.t 78),(o5 3)]),o4 77 79,o0 80 (.ext (.t 77) 0),o0 81 (.ext (.t 77) 1),o4 21 80,o4 22 81])
 (.seq (.reg [o0 83 (.load (some 7) (.t 1)),o0 84 (.call (o6 87) [(.t 83),(o5 5),(o5 4)]),o4 82 84,o0 85 (.ext (.t 82) 0),o0 86 (.ext (.t 82) 1),o4 23 85,o4 24 86])
 (.seq (.reg [o0 88 (.load (some 7) (.t 3)),o0 89 (.call (o6 88) [.t 88]),o4 87 89,o0 90 (.ext (.t 87) 0),o0 91 (.ext (.t 87) 1),o4 25 90,o4 26 91])
 (.seq (.reg [o0 93 (.load (some 7) (.t 3)),o0 94 (.call (o6 86) [(.t 93),(o5 2)]),o4 92 94,o0 95 (.ext (.t 92) 0),o0 96 (.ext (.t 92) 1),o4 27 95,o4 28 96])
 (.seq (.dreg [o3 97 (.mov (.t 6)) 0 0,o3 98 (.eql (.one .i) false (.t 97) (o5 0)) 0 0,o3 99 (.mov (.t 98)) 0 0,⟨o2 100 (.mov (.t 8)) 99 true,0,0⟩,⟨o2 101 (.eql (.one .i) false (.t 100) (o5 0)) 99 true,0,0⟩,o3 102 (.pick (.t 99) (.t 101) (.c (.bool false))) 0 0,o3 103 (.mov (.t 102)) 0 0,⟨o2 104 (.mov (.t 10)) 103 true,0,0⟩,⟨o2 105 (.eql (.one .i) false (.t 104) (o5 0)) 103 true,0,0⟩,o3 106 (.pick (.t 103) (.t 105) (.c (.bool false))) 0 0,o3 107 (.mov (.t 106)) 0 0,⟨o2 108 (.mov (.t 12)) 107 true,0,0⟩,⟨o2 109 (.eql (.one .i) false (.t 108) (o5 0)) 107 true,0,0⟩,o3 110 (.pick (.t 107) (.t 109) (.c (.bool false))) 0 0,o3 111 (.mov (.t 110)) 0 0,⟨o2 112 (.mov (.t 14)) 111 true,0,0⟩,⟨o2 113 (.eql (.one .i) false (.t 112) (o5 0)) 111 true,0,0⟩,o3 114 (.pick (.t 111) (.t 113) (.c (.bool false))) 0 0,o3 115 (.mov (.t 114)) 0 0,⟨o2 116 (.mov (.t 17)) 115 true,0,0⟩,⟨o2 117 (.eql (.one .i) false (.t 116) (o5 0)) 115 true,0,0⟩,o3 118 (.pick (.t 115) (.t 117) (.c (.bool false))) 0 0,o3 119 (.mov (.t 118)) 0 0,⟨o2 120 (.mov (.t 20)) 119 true,0,0⟩,⟨o2 121 (.eql (.one .i) false (.t 120) (o5 9)) 119 true,0,0⟩,o3 122 (.pick (.t 119) (.t 121) (.c (.bool false))) 0 0,o3 123 (.mov (.t 122)) 0 0,⟨o2 124 (.mov (.t 22)) 123 true,0,0⟩,⟨o2 125 (.eql (.one .i) false (.t 124) (o5 0)) 123 true,0,0⟩,o3 126 (.pick (.t 123) (.t 125) (.c (.bool false))) 0 0,o3 127 (.mov (.t 126)) 0 0,⟨o2 128 (.mov (.t 24)) 127 true,0,0⟩,⟨o2 129 (.eql (.one .i) false (.t 128) (o5 0)) 127 true,0,0⟩,o3 130 (.pick (.t 127) (.t 129) (.c (.bool false))) 0 0,o3 131 (.mov (.t 130)) 0 0,⟨o2 132 (.mov (.t 26)) 131 true,0,0⟩,⟨o2 133 (.eql (.one .i) false (.t 132) (o5 0)) 131 true,0,0⟩,o3 134 (.pick (.t 131) (.t 133) (.c (.bool false))) 0 0,o3 135 (.mov (.t 134)) 0 0,⟨o2 136 (.mov (.t 28)) 135 true,0,0⟩,⟨o2 137 (.eql (.one .i) false (.t 136) (o5 8)) 135 true,0,0⟩,o3 138 (.pick (.t 135) (.t 137) (.c (.bool false))) 0 0,o3 139 (.mov (.t 138)) 0 0,⟨o2 140 (.load (some 2) (.t 5)) 139 true,0,1⟩,⟨o2 141 (.call (o6 89) [(o5 13),(o5 22)]) 139 true,0,1⟩,⟨o2 142 (.eql (.agg [.i,.i]) false (.t 140) (.t 141)) 139 true,1,1⟩,o3 143 (.pick (.t 139) (.t 142) (.c (.bool false))) 1 1,o3 144 (.mov (.t 143)) 1 1,⟨o2 145 (.load (some 2) (.t 7)) 144 true,1,2⟩,⟨o2 146 (.call (o6 89) [(o5 13),(o5 16)]) 144 true,1,2⟩,⟨o2 147 (.eql (.agg [.i,.i]) false (.t 145) (.t 146)) 144 true,2,2⟩,o3 148 (.pick (.t 144) (.t 147) (.c (.bool false))) 2 2,o3 149 (.mov (.t 148)) 2 2,⟨o2 150 (.load (some 2) (.t 9)) 149 true,2,3⟩,⟨o2 151 (.call (o6 89) [(o5 2),(o5 3)]) 149 true,2,3⟩,⟨o2 152 (.eql (.agg [.i,.i]) false (.t 150) (.t 151)) 149 true,3,3⟩,o3 153 (.pick (.t 149) (.t 152) (.c (.bool false))) 3 3,o3 154 (.mov (.t 153)) 3 3,⟨o2 155 (.load (some 2) (.t 11)) 154 true,3,4⟩,⟨o2 156 (.call (o6 89) [(o5 3),(o5 4)]) 154 true,3,4⟩,⟨o2 157 (.eql (.agg [.i,.i]) false (.t 155) (.t 156)) 154 true,4,4⟩,o3 158 (.pick (.t 154) (.t 157) (.c (.bool false))) 4 4,o3 159 (.mov (.t 158)) 4 4,⟨o2 160 (.load (some 2) (.t 13)) 159 true,4,5⟩,⟨o2 161 (.call (o6 89) [(o5 3),(o5 3)]) 159 true,4,5⟩,⟨o2 162 (.eql (.agg [.i,.i]) false (.t 160) (.t 161)) 159 true,5,5⟩,o3 163 (.pick (.t 159) (.t 162) (.c (.bool false))) 5 5,o3 164 (.mov (.t 163)) 5 5,⟨o2 165 (.mov (.t 15)) 164 true,5,5⟩,⟨o2 166 (.mklit 1 [(o5 0),(o5 2)]) 164 true,5,5⟩,⟨o2 167 (.call (o6 44) [.t 165,.t 166]) 164 true,5,6⟩,o3 168 (.pick (.t 164) (.t 167) (.c (.bool false))) 6 6,o3 169 (.mov (.t 168)) 6 6,⟨o2 170 (.mov (.t 16)) 169 true,6,6⟩,⟨o2 171 (.eql (.one .i) false (.t 170) (o5 2)) 169 true,6,6⟩,o3 172 (.pick (.t 169) (.t 171) (.c (.bool false))) 6 6,o3 173 (.mov (.t 172)) 6 6,⟨o2 174 (.mov (.t 21)) 173 true,6,6⟩,⟨o2 175 (.mklit 1 [(o5 2),(o5 3)]) 173 true,6,6⟩,⟨o2 176 (.call (o6 44) [.t 174,.t 175]) 173 true,6,7⟩,o3 177 (.pick (.t 173) (.t 176) (.c (.bool false))) 7 7,o3 178 (.mov (.t 177)) 7 7,⟨o2 179 (.mov (.t 23)) 178 true,7,7⟩,⟨o2 180 (.mklit 1 [(o5 2)]) 178 true,7,7⟩,⟨o2 181 (.call (o6 44) [.t 179,.t 180]) 178 true,7,8⟩,o3 182 (.pick (.t 178) (.t 181) (.c (.bool false))) 8 8,o3 183 (.mov (.t 182)) 8 8,⟨o2 184 (.mov (.t 25)) 183 true,8,8⟩,⟨o2 185 (.mklit 1 [(o5 0)]) 183 true,8,8⟩,⟨o2 186 (.call (o6 44) [.t 184,.t 185]) 183 true,8,9⟩,o3 187 (.pick (.t 183) (.t 186) (.c (.bool false))) 9 9,o3 0 (.mov (.t 187)) 9 9])
 (.jump .ret))))))))))))))))⟩
def J3:ACode:=.seq (.seq (.reg [o4 25 10,o0 26 (.faddr (.t 2) 5),o0 27 (.load none (.t 26)),o0 28 (.len 1 (.t 27)),o0 29 (.bin .lss (.t 25) (.t 28)),o4 30 29,o2 31 (.mov (.t 9)) 30 true,o0 32 (.pick (.t 30) (.t 31) (.c (.bool false)))])
 (.cond (.t 32) .skip
 (.jump (.exit 2))))
 (.seq (.block 3 (.seq (.dreg [o3 35 (.load (some 7) (.t 2)) 0 0,o3 36 (.mov (.t 10)) 0 0,o3 37 (.mov (.t 5)) 0 0,o3 38 (.mov (.t 7)) 0 0,o3 39 (.iaddr none 1 (.t 37) (.t 38)) 0 0,o3 40 (.load none (.t 39)) 0 0,o3 41 (.mov (.t 1)) 0 0,o3 42 (.call (o6 91) [.t 35,.t 36,.t 40,.t 41]) 0 1,o3 11 (.mov (.t 42)) 1 1])
 (.seq (.reg [o4 43 11,o0 44 (.len 1 (.t 43)),o0 45 (.bin .gtr (.t 44) (o5 0)),o4 9 45])
 (.reg [o0 46 (.mklit 1 []),o0 47 (.faddr (.t 8) 1),o0 48 (.load none (.t 47)),o0 49 (.append 1 24 (.t 46) (.t 48)),o4 50 11,o0 51 (.mklit 1 [.t 50]),o0 52 (.append 1 24 (.t 49) (.t 51)),o0 53 (.faddr (.t 8) 1),o1 (.store 1 (.t 53) (.t 52))]))))
 (.reg [o4 33 10,o0 34 (.bin .add (.t 33) (o5 1)),o4 10 34]))
def Y4:ACode:=.seq (.seq (.reg [o4 14 7,o4 15 5,o0 16 (.len 1 (.t 15)),o0 17 (.bin .lss (.t 14) (.t 16))])
 (.cond (.t 17) .skip
 (.jump (.exit 0))))
 (.seq (.block 1 (.seq (.reg [o4 20 5,o4 21 7,o0 22 (.iaddr none 1 (.t 20) (.t 21)),o0 23 (.load none (.t 22)),o0 24 (.build [.lit [] true none,.lit [] true none] [(0,1,(.t 23))]),o0 8 (.alloc [.lit [] true none,.lit [] true none]),o1 (.store 2 (.t 8) (.t 24))])
 (.seq (.reg [o0 9 (.mov (.c (.bool true)))])
 (.seq (.seq (.reg [o0 10 (.mov (o5 0))])
 (.block 2 (.loop J3)))
 (.seq (.reg [o4 54 9])
 (.cond (.t 54) (.reg [o4 55 6,o0 56 (.load (some 2) (.t 8)),o0 57 (.mklit 2 [.t 56]),o0 58 (.append 2 48 (.t 55) (.t 57)),o4 6 58])
 .skip))))))
 (.reg [o4 18 7,o0 19 (.bin .add (.t 18) (o5 1)),o4 7 19]))
def a14:AFunc:=⟨60,[.tmp 4],
 .seq (.reg [o0 2 (.box 7 (.t 0)),o0 4 (.mov (.c (.lit [] true none)))])
 (.seq (.reg [o0 12 (.load (some 7) (.t 2)),o0 13 (.call (o6 90) [.t 12]),o4 5 13])
 (.seq (.reg [o0 6 (.mov (.c (.lit [] true none)))])
 (.seq (.seq (.reg [o0 7 (.mov (o5 0))])
 (.block 0 (.loop Y4)))
 (.seq (.reg [o4 59 6,o4 4 59])
 (.jump .ret)))))⟩
def a15:AFunc:=⟨31,[.cell 6 (some 2),.tmp 7],
 .seq (.reg [o0 3 (.box 7 (.t 0)),o0 6 (.alloc [.int .i64 0,.int .i64 0]),o0 7 (.mov (o5 0))])
 (.seq (.dreg [o3 11 (.load (some 7) (.t 3)) 0 1,o3 12 (.mov (.t 1)) 0 1,o3 13 (.max [(.t 12),(.c (.int .i64 (-1099511627775)))]) 0 1,o3 14 (.mov (.t 2)) 0 0,o3 15 (.faddr (.t 3) 0) 0 0,o3 16 (.load none (.t 15)) 0 0,o3 17 (.len 1 (.t 16)) 0 0,o3 18 (.mklit 1 [.t 14,.t 17]) 0 0,o3 19 (.call (o6 93) [.t 18]) 0 1,o3 20 (.call (o6 92) [.t 11,.t 13,.t 19]) 1 2,o3 10 (.mov (.t 20)) 2 2,o3 21 (.ext (.t 10) 0) 2 2,o3 22 (.ext (.t 10) 1) 2 2,o3 8 (.mov (.t 21)) 2 2,o3 9 (.mov (.t 22)) 2 2])
 (.seq (.seq (.reg [o4 23 9,o0 24 (.eql (.one .i) true (.t 23) (o5 0))])
 (.cond (.t 24) (.seq (.reg [o0 25 (.build [.int .i64 0,.int .i64 0] []),o4 26 9,o1 (.store 2 (.t 6) (.t 25)),o4 7 26])
 (.jump .ret))
 .skip))
 (.seq (.reg [o4 27 8,o4 28 1,o4 29 2,o0 30 (.call (o6 94) [.t 27,.t 28,.t 29]),o1 (.store 2 (.t 6) (.t 30)),o0 7 (.mov (o5 0))])
 (.jump .ret))))⟩
def a16:AFunc:=⟨54,[.tmp 6,.tmp 7,.tmp 8],
 .seq (.reg [o0 3 (.box 7 (.t 0)),o0 6 (.mov (.c (.lit [] true none))),o0 7 (.mov (o5 0)),o0 8 (.mov (o5 0))])
 (.seq (.dreg [o3 13 (.load (some 7) (.t 3)) 0 1,o3 14 (.mov (.t 1)) 0 0,o3 15 (.faddr (.t 3) 5) 0 0,o3 16 (.load none (.t 15)) 0 0,o3 17 (.len 1 (.t 16)) 0 0,o3 18 (.faddr (.t 3) 0) 0 0,o3 19 (.load none (.t 18)) 0 0,o3 20 (.mov (.t 2)) 0 0,o3 21 (.mklit 1 [(.t 14),(.t 17),(.t 19),(.t 20),(o5 1),(o5 7)]) 0 0,o3 22 (.call (o6 96) [.t 21]) 0 1,o3 23 (.call (o6 95) [.t 13,.t 22]) 1 2,o3 12 (.mov (.t 23)) 2 2,o3 24 (.ext (.t 12) 0) 2 2,o3 25 (.ext (.t 12) 1) 2 2,o3 9 (.mov (.t 24)) 2 2,o3 8 (.mov (.t 25)) 2 2])
 (.seq (.seq (.reg [o4 26 8,o0 27 (.eql (.one .i) true (.t 26) (o5 0))])
 (.cond (.t 27) (.seq (.reg [o4 28 8,o0 6 (.mov (.c (.lit [] true none))),o0 7 (.mov (o5 0)),o4 8 28])
 (.jump .ret))
 .skip))
 (.seq (.dreg [o3 30 (.mov (.t 9)) 0 3,o3 31 (.mov (.t 9)) 0 3,o3 32 (.mov (.t 9)) 0 0,o3 33 (.call (o6 98) [.t 32]) 0 1,o3 34 (.nilCheck (.t 31)) 0 3,o3 35 (.faddr (.t 34) 7) 0 3,o3 36 (.iaddr (some 7) 2 (.t 35) (.t 33)) 1 3,o3 37 (.load (some 2) (.t 36)) 1 3,o3 38 (.mov (.t 9)) 0 1,o3 39 (.call (o6 99) [.t 38]) 1 2,o3 40 (.mov (.t 1)) 0 3,o3 41 (.mov (.t 9)) 0 2,o3 42 (.call (o6 98) [.t 41]) 2 3,o3 43 (.bin .sub (.t 40) (.t 42)) 3 3,o3 44 (.mov (.t 2)) 0 3,o3 45 (.call (o6 97) [.t 30,.t 37,.t 39,.t 43,.t 44]) 3 4,o3 29 (.mov (.t 45)) 4 4,o3 46 (.ext (.t 29) 0) 4 4,o3 47 (.ext (.t 29) 1) 4 5,o3 10 (.alloc [.lit [] true none,.int .i64 0,.int .i64 0,.int .i64 0,.int .i64 0,.int .i64 0]) 0 4,⟨o1 (.store 6 (.t 10) (.t 46)),4,5⟩,o3 11 (.mov (.t 47)) 5 5])
 (.seq (.seq (.reg [o4 48 11,o0 49 (.not (.t 48))])
 (.cond (.t 49) (.seq (.reg [o0 6 (.mov (.c (.lit [] true none))),o0 7 (.mov (o5 0)),o0 8 (.mov (o5 9))])
 (.jump .ret))
 .skip))
 (.seq (.dreg [o3 50 (.faddr (.t 10) 0) 0 0,o3 51 (.load none (.t 50)) 0 0,o3 52 (.faddr (.t 10) 5) 0 0,o3 53 (.load none (.t 52)) 0 0,o3 6 (.mov (.t 51)) 0 0,o3 7 (.mov (.t 53)) 0 0,o3 8 (.mov (o5 0)) 0 0])
 (.jump .ret))))))⟩
def a17:AFunc:=⟨16,[.tmp 4],
 .seq (.reg [o0 4 (.mov (o5 0))])
 (.seq (.seq (.reg [o4 5 0,o0 6 (.len 1 (.t 5)),o0 7 (.eql (.one .i) false (.t 6) (o5 0))])
 (.cond (.t 7) (.seq (.reg [o0 4 (.mov (o5 0))])
 (.jump .ret))
 .skip))
 (.seq (.reg [o4 8 0,o4 9 1,o4 10 0,o0 11 (.len 1 (.t 10)),o0 12 (.bin .rem (.t 9) (.t 11)),o0 13 (.iaddr none 1 (.t 8) (.t 12)),o0 14 (.load none (.t 13)),o0 15 (.conv .i64 (.t 14)),o4 4 15])
 (.jump .ret)))⟩
def T0:ACode:=.seq (.seq (.reg [o4 10 8,o4 11 2,o0 12 (.bin .lss (.t 10) (.t 11))])
 (.cond (.t 12) .skip
 (.jump (.exit 0))))
 (.seq (.block 1 (.reg [o4 15 7,o0 16 (.bin .add (.t 15) (o5 1)),o4 17 0,o4 18 8,o0 19 (.iaddr none 1 (.t 17) (.t 18)),o0 20 (.load none (.t 19)),o0 21 (.bin .add (.t 16) (.t 20)),o4 7 21]))
 (.reg [o4 13 8,o0 14 (.bin .add (.t 13) (o5 1)),o4 8 14]))
def a18:AFunc:=⟨23,[.tmp 6],
 .seq (.reg [o0 6 (.mov (o5 0))])
 (.seq (.reg [o0 7 (.mov (o5 0))])
 (.seq (.seq (.reg [o4 9 1,o4 8 9])
 (.block 0 (.loop T0)))
 (.seq (.reg [o4 22 7,o4 6 22])
 (.jump .ret))))⟩
def a19:AFunc:=⟨16,[.tmp 4],
 .seq (.reg [o0 2 (.box 2 (.t 0)),o0 4 (.mov (o5 0))])
 (.seq (.dreg [o3 5 (.faddr (.t 2) 0) 0 0,o3 6 (.load none (.t 5)) 0 0,o3 7 (.mov (.t 1)) 0 0,o3 8 (.faddr (.t 2) 1) 0 0,o3 9 (.load none (.t 8)) 0 0,o3 10 (.faddr (.t 2) 0) 0 0,o3 11 (.load none (.t 10)) 0 0,o3 12 (.bin .sub (.t 9) (.t 11)) 0 0,o3 13 (.bin .add (.t 12) (o5 1)) 0 0,o3 14 (.bin .rem (.t 7) (.t 13)) 0 0,o3 15 (.bin .add (.t 6) (.t 14)) 0 0,o3 4 (.mov (.t 15)) 0 0])
 (.jump .ret))⟩
def a20:AFunc:=⟨15,[.tmp 6],
 .seq (.reg [o0 6 (.mov (.c (.bool false)))])
 (.seq (.reg [o4 7 0,o4 8 1,o0 9 (.bin .geq (.t 7) (.t 8)),o4 10 9,o2 11 (.mov (.t 0)) 10 true,o2 12 (.mov (.t 2)) 10 true,o2 13 (.bin .leq (.t 11) (.t 12)) 10 true,o0 14 (.pick (.t 10) (.t 13) (.c (.bool false))),o4 6 14])
 (.jump .ret))⟩
def a21:AFunc:=⟨7,[.tmp 2],
 .seq (.reg [o0 2 (.mov (o5 0))])
 (.seq (.reg [o4 3 0,o0 4 (.bin .quo (.t 3) (o5 10)),o0 5 (.bin .add (o5 1) (.t 4)),o0 6 (.min [(o5 7),(.t 5)]),o4 2 6])
 (.jump .ret))⟩
def Y6:ACode:=.seq (.reg [o0 49 (.bin .lss (.t 48) (.t 47))])
 (.seq (.cond (.t 49) .skip
 (.jump (.exit 0)))
 (.seq (.block 1 (.seq (.reg [o4 50 48,o4 13 50])
 (.seq (.reg [o4 51 9,o4 52 13,o4 53 1,o0 54 (.call (o6 94) [.t 51,.t 52,.t 53]),o0 14 (.alloc [.int .i64 0,.int .i64 0]),o1 (.store 2 (.t 14) (.t 54))])
 (.seq (.seq (.reg [o0 55 (.faddr (.t 14) 1),o0 56 (.load none (.t 55)),o0 57 (.faddr (.t 3) 3),o0 58 (.faddr (.t 57) 1),o0 59 (.load none (.t 58)),o0 60 (.bin .add (.t 56) (.t 59)),o0 61 (.faddr (.t 3) 2),o0 62 (.load none (.t 61)),o0 63 (.bin .leq (.t 60) (.t 62))])
 (.cond (.t 63) (.reg [o4 64 10,o4 65 13,o0 66 (.bin .shl (o5 1) (.t 65)),o0 67 (.bin .or (.t 64) (.t 66)),o4 10 67])
 .skip))
 (.seq (.reg [o0 68 (.faddr (.t 14) 0),o0 69 (.load none (.t 68)),o0 70 (.faddr (.t 3) 1),o0 71 (.load none (.t 70)),o0 72 (.bin .lss (.t 69) (.t 71))])
 (.cond (.t 72) (.reg [o4 73 11,o4 74 13,o0 75 (.bin .shl (o5 1) (.t 74)),o0 76 (.bin .or (.t 73) (.t 75)),o4 11 76])
 .skip))))))
 (.reg [o0 77 (.bin .add (.t 48) (o5 1)),o4 48 77])))
def Y9:ACode:=.seq (.reg [o0 97 (.bin .lss (.t 96) (.t 95))])
 (.seq (.cond (.t 97) .skip
 (.jump (.exit 4)))
 (.seq (.block 5 (.seq (.reg [o0 98 (.iaddr none 1 (.t 94) (.t 96)),o0 99 (.load none (.t 98)),o4 21 99])
 (.reg [o4 100 19,o4 101 12,o4 102 21,o0 103 (.iaddr none 4 (.t 101) (.t 102)),o0 104 (.faddr (.t 103) 3),o0 105 (.load none (.t 104)),o0 106 (.bin .add (.t 100) (.t 105)),o4 19 106])))
 (.reg [o0 107 (.bin .add (.t 96) (o5 1)),o4 96 107])))
def aAI:ACode:=.seq (.reg [o0 82 (.bin .lss (.t 81) (.t 80))])
 (.seq (.cond (.t 82) .skip
 (.jump (.exit 2)))
 (.seq (.block 3 (.seq (.reg [o4 83 81,o4 16 83])
 (.seq (.reg [o4 84 16,o4 85 12,o0 86 (.len 1 (.t 85)),o0 87 (.call (o6 117) [.t 84,.t 86]),o4 88 16,o4 89 11,o0 90 (.bin .and (.t 88) (.t 89)),o4 91 12,o0 92 (.len 1 (.t 91)),o0 93 (.call (o6 117) [.t 90,.t 92]),o4 17 87,o4 18 93,o0 19 (.mov (o5 0))])
 (.seq (.seq (.reg [o4 94 17,o0 95 (.len 1 (.t 94)),o0 96 (.mov (o5 0))])
 (.block 4 (.loop Y9)))
 (.seq (.seq (.reg [o4 108 16,o4 109 10,o0 110 (.bin .andNot (.t 108) (.t 109)),o0 111 (.eql (.one .i) true (.t 110) (o5 0)),o4 112 111,o2 113 (.mov (.t 19)) 112 false,o2 114 (.mov (.t 2)) 112 false,o2 115 (.bin .lss (.t 113) (.t 114)) 112 false,o0 116 (.pick (.t 112) (.c (.bool true)) (.t 115))])
 (.cond (.t 116) (.jump (.exit 3))
 .skip))
 (.seq (.reg [o4 117 18,o0 118 (.len 1 (.t 117)),o4 119 7,o0 120 (.len 1 (.t 119)),o0 121 (.bin .lss (.t 118) (.t 120)),o4 122 121,o2 123 (.mov (.t 18)) 122 false,o2 124 (.len 1 (.t 123)) 122 false,o2 125 (.mov (.t 7)) 122 false,o2 126 (.len 1 (.t 125)) 122 false,o2 127 (.eql (.one .i) false (.t 124) (.t 126)) 122 false,o2 128 (.mov (.t 127)) 122 false,o2 129 (.mov (.t 17)) 128 true,o2 130 (.len 1 (.t 129)) 128 true,o2 131 (.mov (.t 6)) 128 true,o2 132 (.len 1 (.t 131)) 128 true,o2 133 (.bin .lss (.t 130) (.t 132)) 128 true,o2 134 (.mov (.t 133)) 128 true,o2 135 (.mov (.t 17)) 134 false,o2 136 (.len 1 (.t 135)) 134 false,o2 137 (.mov (.t 6)) 134 false,o2 138 (.len 1 (.t 137)) 134 false,o2 139 (.eql (.one .i) false (.t 136) (.t 138)) 134 false,o2 140 (.mov (.t 139)) 134 false,o2 141 (.mov (.t 17)) 140 true,o2 142 (.mov (.t 6)) 140 true,o2 143 (.call (o6 118) [.t 141,.t 142]) 140 true,o2 144 (.bin .lss (.t 143) (o5 0)) 140 true,o2 145 (.pick (.t 140) (.t 144) (.c (.bool false))) 134 false,o2 146 (.pick (.t 134) (.c (.bool true)) (.t 145)) 128 true,o2 147 (.pick (.t 128) (.t 146) (.c (.bool false))) 122 false,o0 148 (.pick (.t 122) (.c (.bool true)) (.t 147)),o4 22 148])
 (.seq (.reg [o4 149 15,o0 150 (.not (.t 149)),o4 151 150,o2 152 (.mov (.t 22)) 151 false,o0 153 (.pick (.t 151) (.c (.bool true)) (.t 152))])
 (.cond (.t 153) (.reg [o4 154 17,o4 155 18,o4 6 154,o4 7 155,o0 15 (.mov (.c (.bool true)))])
 .skip))))))))
 (.reg [o0 156 (.bin .add (.t 81) (o5 1)),o4 81 156])))
def a26:AFunc:=⟨161,[.tmp 6,.tmp 7,.tmp 8],
 .seq (.reg [o0 3 (.box 7 (.t 0)),o0 6 (.mov (.c (.lit [] true none))),o0 7 (.mov (.c (.lit [] true none))),o0 8 (.mov (o5 0))])
 (.seq (.dreg [o3 24 (.load (some 7) (.t 3)) 0 1,o3 25 (.mov (.t 1)) 0 0,o3 26 (.faddr (.t 3) 0) 0 0,o3 27 (.load none (.t 26)) 0 0,o3 28 (.len 1 (.t 27)) 0 0,o3 29 (.mov (.t 2)) 0 0,o3 30 (.mklit 1 [(.t 25),(.t 28),(.t 29),(o5 400)]) 0 0,o3 31 (.call (o6 93) [.t 30]) 0 1,o3 32 (.call (o6 92) [(.t 24),(.c (.int .i64 (-1099511627776))),(.t 31)]) 1 2,o3 23 (.mov (.t 32)) 2 2,o3 33 (.ext (.t 23) 0) 2 2,o3 34 (.ext (.t 23) 1) 2 2,o3 9 (.mov (.t 33)) 2 2,o3 8 (.mov (.t 34)) 2 2])
 (.seq (.seq (.reg [o4 35 8,o0 36 (.eql (.one .i) true (.t 35) (o5 0))])
 (.cond (.t 36) (.seq (.reg [o4 37 8,o0 6 (.mov (.c (.lit [] true none))),o0 7 (.mov (.c (.lit [] true none))),o4 8 37])
 (.jump .ret))
 .skip))
 (.seq (.reg [o0 10 (.mov (o5 0)),o0 11 (.mov (o5 0))])
 (.seq (.reg [o0 38 (.faddr (.t 3) 5),o0 39 (.load none (.t 38)),o0 40 (.len 1 (.t 39)),⟨some 41,.mkslice [.str ⟨#[]⟩,.int .i64 0,.int .i64 0,.int .i64 0] 40 (.t 40) (.t 40),none⟩,o4 12 41])
 (.seq (.reg [o4 42 12,o0 43 (.faddr (.t 3) 5),o0 44 (.load none (.t 43)),o0 45 (.copy 4 (.t 42) (.t 44))])
 (.seq (.seq (.reg [o4 46 12,o0 47 (.len 1 (.t 46)),o0 48 (.mov (o5 0))])
 (.block 0 (.loop Y6)))
 (.seq (.reg [o0 15 (.mov (.c (.bool false)))])
 (.seq (.seq (.reg [o4 78 12,o0 79 (.len 1 (.t 78)),o0 80 (.bin .shl (o5 1) (.t 79)),o0 81 (.mov (o5 0))])
 (.block 2 (.loop aAI)))
 (.seq (.seq (.reg [o4 157 15,o0 158 (.not (.t 157))])
 (.cond (.t 158) (.seq (.reg [o0 6 (.mov (.c (.lit [] true none))),o0 7 (.mov (.c (.lit [] true none))),o0 8 (.mov (o5 9))])
 (.jump .ret))
 .skip))
 (.seq (.reg [o4 159 6,o4 160 7,o4 6 159,o4 7 160,o0 8 (.mov (o5 0))])
 (.jump .ret)))))))))))⟩
def a29:AFunc:=⟨26,[.tmp 6],
 .seq (.reg [o0 3 (.box 2 (.t 0)),o0 6 (.mov (o5 0))])
 (.seq (.seq (.reg [o0 7 (.faddr (.t 3) 0),o0 8 (.load none (.t 7)),o4 9 1,o4 10 2,o0 11 (.call (o6 20) [.t 8,.t 9,.t 10]),o0 12 (.not (.t 11)),o4 13 12,o2 14 (.faddr (.t 3) 1) 13 false,o2 15 (.load none (.t 14)) 13 false,o2 16 (.mov (.t 1)) 13 false,o2 17 (.mov (.t 2)) 13 false,o2 18 (.call (o6 20) [.t 15,.t 16,.t 17]) 13 false,o2 19 (.not (.t 18)) 13 false,o0 20 (.pick (.t 13) (.c (.bool true)) (.t 19))])
 (.cond (.t 20) (.seq (.reg [o0 6 (.mov (o5 7))])
 (.jump .ret))
 .skip))
 (.seq (.seq (.reg [o0 21 (.faddr (.t 3) 1),o0 22 (.load none (.t 21)),o0 23 (.faddr (.t 3) 0),o0 24 (.load none (.t 23)),o0 25 (.bin .lss (.t 22) (.t 24))])
 (.cond (.t 25) (.seq (.reg [o0 6 (.mov (o5 2))])
 (.jump .ret))
 .skip))
 (.seq (.reg [o0 6 (.mov (o5 0))])
 (.jump .ret))))⟩
def a44:AFunc:=⟨22,[.tmp 4],
 .seq (.reg [o0 4 (.mov (.c (.bool false)))])
 (.seq (.reg [o4 5 0,o0 6 (.len 1 (.t 5)),o4 7 1,o0 8 (.len 1 (.t 7)),o0 9 (.eql (.one .i) false (.t 6) (.t 8)),o4 10 9,o2 11 (.mov (.t 0)) 10 true,o2 12 (.mov (.t 1)) 10 true,o2 13 (.call (o6 170) [.t 11,.t 12]) 10 true,o2 14 (.not (.t 13)) 10 true,o0 15 (.pick (.t 10) (.t 14) (.c (.bool false))),o4 16 15,o2 17 (.mov (.t 1)) 16 true,o2 18 (.mov (.t 0)) 16 true,o2 19 (.call (o6 170) [.t 17,.t 18]) 16 true,o2 20 (.not (.t 19)) 16 true,o0 21 (.pick (.t 16) (.t 20) (.c (.bool false))),o4 4 21])
 (.jump .ret))⟩
def a59:AFunc:=⟨30,[.tmp 6,.tmp 7],
 .seq (.reg [o0 3 (.box 7 (.t 0)),o0 6 (.mov (o5 0)),o0 7 (.mov (o5 0))])
 (.seq (.dreg [o3 11 (.load (some 7) (.t 3)) 0 1,o3 12 (.mov (.t 1)) 0 1,o3 13 (.max [(.t 12),(.c (.int .i64 (-1099511627775)))]) 0 1,o3 14 (.mov (.t 2)) 0 0,o3 15 (.faddr (.t 3) 0) 0 0,o3 16 (.load none (.t 15)) 0 0,o3 17 (.len 1 (.t 16)) 0 0,o3 18 (.mklit 1 [.t 14,.t 17]) 0 0,o3 19 (.call (o6 93) [.t 18]) 0 1,o3 20 (.call (o6 92) [.t 11,.t 13,.t 19]) 1 2,o3 10 (.mov (.t 20)) 2 2,o3 21 (.ext (.t 10) 0) 2 2,o3 22 (.ext (.t 10) 1) 2 2,o3 8 (.mov (.t 21)) 2 2,o3 9 (.mov (.t 22)) 2 2])
 (.seq (.seq (.reg [o4 23 9,o0 24 (.eql (.one .i) true (.t 23) (o5 0))])
 (.cond (.t 24) (.seq (.reg [o4 25 9,o0 6 (.mov (o5 0)),o4 7 25])
 (.jump .ret))
 .skip))
 (.seq (.reg [o4 26 8,o4 27 1,o4 28 2,o0 29 (.call (o6 204) [.t 26,.t 27,.t 28]),o4 6 29,o0 7 (.mov (o5 0))])
 (.jump .ret))))⟩
def ZE:ACode:=.seq (.seq (.reg [o4 7 6,o4 8 0,o0 9 (.len 1 (.t 8)),o0 10 (.bin .lss (.t 7) (.t 9))])
 (.cond (.t 10) .skip
 (.jump (.exit 0))))
 (.seq (.block 1 (.reg [o4 13 5,o4 14 13,o2 15 (.mov (.t 0)) 14 false,o2 16 (.mov (.t 6)) 14 false,o2 17 (.iaddr none 1 (.t 15) (.t 16)) 14 false,o2 18 (.load none (.t 17)) 14 false,o2 19 (.mov (.t 1)) 14 false,o2 20 (.eql (.one .i) false (.t 18) (.t 19)) 14 false,o0 21 (.pick (.t 14) (.c (.bool true)) (.t 20)),o4 5 21]))
 (.reg [o4 11 6,o0 12 (.bin .add (.t 11) (o5 1)),o4 6 12]))
def a64:AFunc:=⟨23,[.tmp 4],
 .seq (.reg [o0 4 (.mov (.c (.bool false)))])
 (.seq (.reg [o0 5 (.mov (.c (.bool false)))])
 (.seq (.seq (.reg [o0 6 (.mov (o5 0))])
 (.block 0 (.loop ZE)))
 (.seq (.reg [o4 22 5,o4 4 22])
 (.jump .ret))))⟩
def a67:AFunc:=⟨14,[.tmp 4],
 .seq (.reg [o0 4 (.mov (o5 0))])
 (.seq (.reg [o0 5 (.mov (o5 0))])
 (.seq (.seq (.reg [o4 6 1,o4 7 0,o0 8 (.call (o6 220) [.t 6,.t 7]),o0 9 (.bin .geq (.t 8) (o5 0))])
 (.cond (.t 9) (.reg [o0 5 (.mov (o5 5))])
 .skip))
 (.seq (.seq (.reg [o4 10 0,o0 11 (.call (o6 221) [.t 10]),o0 12 (.not (.t 11))])
 (.cond (.t 12) (.reg [o0 5 (.mov (o5 6))])
 .skip))
 (.seq (.reg [o4 13 5,o4 4 13])
 (.jump .ret)))))⟩
def a68:AFunc:=⟨6,[.tmp 2],
 .seq (.reg [o0 1 (.box 7 (.t 0)),o0 2 (.mov (o5 0))])
 (.seq (.reg [o0 3 (.faddr (.t 1) 0),o0 4 (.load none (.t 3)),o0 5 (.len 1 (.t 4)),o4 2 5])
 (.jump .ret))⟩
def a69:AFunc:=⟨11,[.tmp 4],
 .seq (.reg [o0 2 (.box 7 (.t 0)),o0 4 (.mov (.c (.bool false)))])
 (.seq (.reg [o4 5 1,o0 6 (.faddr (.t 2) 3),o0 7 (.load none (.t 6)),o0 8 (.len 1 (.t 7)),o0 9 (.bin .sub (.t 8) (o5 1)),o0 10 (.call (o6 20) [(.t 5),(o5 0),(.t 9)]),o4 4 10])
 (.jump .ret))⟩
def a70:AFunc:=⟨6,[.tmp 2],
 .seq (.reg [o0 1 (.box 7 (.t 0)),o0 2 (.mov (o5 0))])
 (.seq (.reg [o0 3 (.faddr (.t 1) 5),o0 4 (.load none (.t 3)),o0 5 (.len 1 (.t 4)),o4 2 5])
 (.jump .ret))⟩
def a71:AFunc:=⟨5,[.tmp 2],
 .seq (.reg [o0 2 (.mov (.c (.bool false)))])
 (.seq (.reg [o4 3 0,o0 4 (.call (o6 20) [(.t 3),(o5 1),(o5 7)]),o4 2 4])
 (.jump .ret))⟩
def a72:AFunc:=⟨18,[.cell 2 (some 7)],
 .seq (.reg [o0 2 (.alloc [.lit [] true none,.int .i64 0,.int .i64 0,.int .i64 0,.int .i64 0,.lit [] true none,.lit [] true none])])
 (.seq (.reg [o0 3 (.call (o6 79) [(o5 1),(o5 1)]),o0 4 (.call (o6 79) [(o5 0),(o5 1)]),o0 5 (.call (o6 79) [(o5 0),(o5 0)]),o0 6 (.call (o6 79) [(o5 1),(o5 2)]),o0 7 (.call (o6 79) [(o5 0),(o5 1)]),o0 8 (.mklit 2 [.t 3,.t 4,.t 5,.t 6,.t 7]),o0 9 (.call (o6 79) [(o5 2),(o5 3)]),⟨some 10,.build [.str ⟨#[]⟩,.int .i64 0,.int .i64 0,.int .i64 0] [(0,1,(.c (.str ⟨#[104,105,108,108]⟩))),(3,1,(o5 30))],none⟩,o0 11 (.call (o6 79) [(o5 1),(o5 2)]),⟨some 12,.build [.str ⟨#[]⟩,.int .i64 0,.int .i64 0,.int .i64 0] [(0,1,(.c (.str ⟨#[98,97,110,107]⟩))),(1,2,(.t 11)),(3,1,(o5 20))],none⟩,o0 13 (.call (o6 79) [(o5 0),(o5 1)]),⟨some 14,.build [.str ⟨#[]⟩,.int .i64 0,.int .i64 0,.int .i64 0] [(0,1,(.c (.str ⟨#[98,101,110,100]⟩))),(1,2,(.t 13)),(3,1,(o5 25))],none⟩,o0 15 (.mklit 4 [.t 10,.t 12,.t 14]),o4 16 0,o0 17 (.build [.lit [] true none,.int .i64 0,.int .i64 0,.int .i64 0,.int .i64 0,.lit [] true none,.lit [] true none] [(0,1,(.t 8)),(1,1,(o5 6)),(2,1,(o5 11)),(3,2,(.t 9)),(5,1,(.t 15)),(6,1,(.t 16))]),o1 (.store 7 (.t 2) (.t 17))])
 (.jump .ret))⟩
def a73:AFunc:=⟨11,[.cell 6 (some 3)],
 .seq (.reg [o0 6 (.alloc [.int .i64 0,.int .i64 0,.int .i64 0])])
 (.seq (.reg [o4 7 0,o4 8 1,o4 9 2,o0 10 (.build [.int .i64 0,.int .i64 0,.int .i64 0] [(0,1,(.t 7)),(1,1,(.t 8)),(2,1,(.t 9))]),o1 (.store 3 (.t 6) (.t 10))])
 (.jump .ret))⟩
def Z8:ACode:=.seq (.reg [o0 25 (.bin .lss (.t 24) (.t 23))])
 (.seq (.cond (.t 25) .skip
 (.jump (.exit 0)))
 (.seq (.block 1 (.seq (.reg [o4 26 24,o4 8 26])
 (.seq (.reg [o4 27 7,o4 28 1,o4 29 8,o0 30 (.call (o6 204) [.t 27,.t 28,.t 29]),o4 9 30])
 (.seq (.seq (.reg [o4 31 9,o0 32 (.eql (.one .i) false (.t 31) (o5 1))])
 (.cond (.t 32) (.reg [o4 33 4,o4 34 8,o0 35 (.mklit 1 [.t 34]),o0 36 (.append 1 8 (.t 33) (.t 35)),o4 4 36])
 .skip))
 (.seq (.reg [o4 37 9,o0 38 (.eql (.one .i) true (.t 37) (o5 2))])
 (.cond (.t 38) (.reg [o4 39 5,o4 40 8,o0 41 (.mklit 1 [.t 40]),o0 42 (.append 1 8 (.t 39) (.t 41)),o4 5 42])
 .skip))))))
 (.reg [o0 43 (.bin .add (.t 24) (o5 1)),o4 24 43])))
def a74:AFunc:=⟨46,[.tmp 4,.tmp 5,.tmp 6],
 .seq (.reg [o0 2 (.box 7 (.t 0)),o0 4 (.mov (.c (.lit [] true none))),o0 5 (.mov (.c (.lit [] true none))),o0 6 (.mov (o5 0))])
 (.seq (.reg [o0 11 (.load (some 7) (.t 2)),o4 12 1,o0 13 (.max [(.t 12),(.c (.int .i64 (-1099511627775)))]),o0 14 (.call (o6 92) [(.t 11),(.t 13),(o6 222)]),o4 10 14,o0 15 (.ext (.t 10) 0),o0 16 (.ext (.t 10) 1),o4 7 15,o4 6 16])
 (.seq (.seq (.reg [o4 17 6,o0 18 (.eql (.one .i) true (.t 17) (o5 0))])
 (.cond (.t 18) (.seq (.reg [o4 19 6,o0 4 (.mov (.c (.lit [] true none))),o0 5 (.mov (.c (.lit [] true none))),o4 6 19])
 (.jump .ret))
 .skip))
 (.seq (.seq (.reg [o0 20 (.faddr (.t 2) 0),o0 21 (.load none (.t 20)),o0 22 (.len 1 (.t 21)),o0 23 (.bin .add (.t 22) (o5 1)),o0 24 (.mov (o5 0))])
 (.block 0 (.loop Z8)))
 (.seq (.reg [o4 44 4,o4 45 5,o4 4 44,o4 5 45,o0 6 (.mov (o5 0))])
 (.jump .ret)))))⟩
def ZU:ACode:=.seq (.reg [o0 25 (.bin .lss (.t 24) (.t 23))])
 (.seq (.cond (.t 25) .skip
 (.jump (.exit 0)))
 (.seq (.block 1 (.seq (.reg [o4 26 24,o4 9 26])
 (.seq (.dreg [o3 27 (.mov (.t 6)) 0 0,o3 28 (.mov (.t 1)) 0 0,o3 29 (.mov (.t 9)) 0 0,o3 30 (.call (o6 94) [.t 27,.t 28,.t 29]) 0 1,o3 31 (.field (.t 30) 1 none) 1 1,o3 32 (.faddr (.t 2) 3) 0 1,o3 33 (.faddr (.t 32) 1) 0 1,o3 34 (.load none (.t 33)) 0 1,o3 35 (.bin .add (.t 31) (.t 34)) 1 1,o3 36 (.faddr (.t 2) 2) 0 1,o3 37 (.load none (.t 36)) 0 1,o3 38 (.bin .leq (.t 35) (.t 37)) 1 1])
 (.cond (.t 38) (.reg [o4 39 9,o4 8 39])
 .skip))))
 (.reg [o0 40 (.bin .add (.t 24) (o5 1)),o4 24 40])))
def a75:AFunc:=⟨44,[.tmp 4,.tmp 5],
 .seq (.reg [o0 2 (.box 7 (.t 0)),o0 4 (.mov (o5 0)),o0 5 (.mov (o5 0))])
 (.seq (.reg [o0 11 (.load (some 7) (.t 2)),o4 12 1,o0 13 (.max [(.t 12),(.c (.int .i64 (-1099511627775)))]),o0 14 (.call (o6 92) [(.t 11),(.t 13),(o6 222)]),o4 10 14,o0 15 (.ext (.t 10) 0),o0 16 (.ext (.t 10) 1),o4 6 15,o4 7 16])
 (.seq (.seq (.reg [o4 17 7,o0 18 (.eql (.one .i) true (.t 17) (o5 0))])
 (.cond (.t 18) (.seq (.reg [o4 19 7,o0 4 (.mov (o5 0)),o4 5 19])
 (.jump .ret))
 .skip))
 (.seq (.reg [o0 8 (.mov (.c (.int .i64 (-1))))])
 (.seq (.seq (.reg [o0 20 (.faddr (.t 2) 0),o0 21 (.load none (.t 20)),o0 22 (.len 1 (.t 21)),o0 23 (.bin .add (.t 22) (o5 1)),o0 24 (.mov (o5 0))])
 (.block 0 (.loop ZU)))
 (.seq (.seq (.reg [o4 41 8,o0 42 (.bin .lss (.t 41) (o5 0))])
 (.cond (.t 42) (.seq (.reg [o0 4 (.mov (o5 0)),o0 5 (.mov (o5 9))])
 (.jump .ret))
 .skip))
 (.seq (.reg [o4 43 8,o4 4 43,o0 5 (.mov (o5 0))])
 (.jump .ret)))))))⟩
def aDU:ACode:=.seq (.reg [o0 30 (.mnext (.t 29)),o0 31 (.ext (.t 30) 0)])
 (.seq (.cond (.t 31) .skip
 (.jump (.exit 0)))
 (.block 1 (.seq (.reg [o0 32 (.entry (.t 29)),o0 33 (.ext (.t 32) 0),o0 7 (.alloc [.int .i64 0,.int .i64 0,.int .i64 0,.int .i64 0,.int .i64 0,.int .i64 0,.int .i64 0]),o1 (.store 7 (.t 7) (.t 33))])
 (.dreg [o3 34 (.faddr (.t 4) 0) 0 0,o3 35 (.load none (.t 34)) 0 0,o3 36 (.mov (.t 1)) 0 0,o3 37 (.iaddr (some 7) 1 (.t 7) (.t 36)) 0 0,o3 38 (.load none (.t 37)) 0 0,o3 39 (.min [.t 35,.t 38]) 0 0,o3 40 (.faddr (.t 4) 1) 0 0,o3 41 (.load none (.t 40)) 0 0,o3 42 (.mov (.t 1)) 0 0,o3 43 (.iaddr (some 7) 1 (.t 7) (.t 42)) 0 0,o3 44 (.load none (.t 43)) 0 0,o3 45 (.max [.t 41,.t 44]) 0 0,o3 46 (.build [.int .i64 0,.int .i64 0] [(0,1,(.t 39)),(1,1,(.t 45))]) 0 0,⟨o1 (.store 2 (.t 4) (.t 46)),0,1⟩]))))
def a76:AFunc:=⟨48,[.cell 4 (some 2),.tmp 5],
 .seq (.reg [o0 2 (.box 7 (.t 0)),o0 4 (.alloc [.int .i64 0,.int .i64 0]),o0 5 (.mov (o5 0))])
 (.seq (.dreg [o3 9 (.load (some 7) (.t 2)) 0 1,o3 10 (.mov (.t 1)) 0 0,o3 11 (.faddr (.t 2) 0) 0 0,o3 12 (.load none (.t 11)) 0 0,o3 13 (.len 1 (.t 12)) 0 0,o3 14 (.bin .sub (.t 13) (o5 1)) 0 0,o3 15 (.mklit 1 [.t 10,.t 14]) 0 0,o3 16 (.call (o6 93) [.t 15]) 0 1,o3 17 (.call (o6 92) [(.t 9),(.c (.int .i64 (-1099511627776))),(.t 16)]) 1 2,o3 8 (.mov (.t 17)) 2 2,o3 18 (.ext (.t 8) 0) 2 2,o3 19 (.ext (.t 8) 1) 2 2,o3 6 (.mov (.t 18)) 2 2,o3 5 (.mov (.t 19)) 2 2])
 (.seq (.seq (.reg [o4 20 5,o0 21 (.eql (.one .i) true (.t 20) (o5 0))])
 (.cond (.t 21) (.seq (.reg [o0 22 (.load (some 2) (.t 4)),o4 23 5,o1 (.store 2 (.t 4) (.t 22)),o4 5 23])
 (.jump .ret))
 .skip))
 (.seq (.reg [o0 24 (.build [.int .i64 0,.int .i64 0] [(0,1,(o5 2))]),o1 (.store 2 (.t 4) (.t 24))])
 (.seq (.seq (.reg [o4 25 6,o0 26 (.nilCheck (.t 25)),o0 27 (.faddr (.t 26) 8),o0 28 (.load none (.t 27)),o0 29 (.mrange (.t 28))])
 (.block 0 (.loop aDU)))
 (.seq (.reg [o0 47 (.load (some 2) (.t 4)),o1 (.store 2 (.t 4) (.t 47)),o0 5 (.mov (o5 0))])
 (.jump .ret))))))⟩
def aED:ACode:=.seq (.reg [o0 26 (.mnext (.t 25)),o0 27 (.ext (.t 26) 0)])
 (.seq (.cond (.t 27) .skip
 (.jump (.exit 0)))
 (.block 1 (.seq (.reg [o0 28 (.entry (.t 25)),o0 29 (.ext (.t 28) 1),o0 10 (.alloc [.int .i64 0,.int .i64 0,.int .i64 0,.int .i64 0]),o1 (.store 4 (.t 10) (.t 29))])
 (.reg [o4 30 8,o4 31 1,o0 32 (.iaddr (some 4) 1 (.t 10) (.t 31)),o0 33 (.load none (.t 32)),o0 34 (.bin .or (.t 30) (.t 33)),o4 8 34]))))
def a77:AFunc:=⟨40,[.tmp 4,.tmp 5],
 .seq (.reg [o0 2 (.box 7 (.t 0)),o0 4 (.mov (.c (.lit [] true none))),o0 5 (.mov (o5 0))])
 (.seq (.reg [o0 12 (.load (some 7) (.t 2)),o4 13 1,o0 14 (.max [(.t 13),(.c (.int .i64 (-1099511627775)))]),o0 15 (.call (o6 92) [(.t 12),(.t 14),(o6 222)]),o4 11 15,o0 16 (.ext (.t 11) 0),o0 17 (.ext (.t 11) 1),o4 6 16,o4 7 17])
 (.seq (.seq (.reg [o4 18 7,o0 19 (.eql (.one .i) true (.t 18) (o5 0))])
 (.cond (.t 19) (.seq (.reg [o4 20 7,o0 4 (.mov (.c (.lit [] true none))),o4 5 20])
 (.jump .ret))
 .skip))
 (.seq (.reg [o0 8 (.mov (o5 0))])
 (.seq (.seq (.reg [o4 21 6,o0 22 (.nilCheck (.t 21)),o0 23 (.faddr (.t 22) 8),o0 24 (.load none (.t 23)),o0 25 (.mrange (.t 24))])
 (.block 0 (.loop aED)))
 (.seq (.reg [o4 35 8,o0 36 (.faddr (.t 2) 0),o0 37 (.load none (.t 36)),o0 38 (.len 1 (.t 37)),o0 39 (.call (o6 117) [.t 35,.t 38]),o4 4 39,o0 5 (.mov (o5 0))])
 (.jump .ret))))))⟩
def Y5:ACode:=.seq (.reg [o0 21 (.bin .lss (.t 20) (.t 19))])
 (.seq (.cond (.t 21) .skip
 (.jump (.exit 0)))
 (.seq (.block 1 (.seq (.reg [o4 22 20,o4 5 22])
 (.seq (.reg [o4 23 5,o0 24 (.faddr (.t 1) 6),o0 25 (.load none (.t 24)),o0 26 (.len 1 (.t 25)),o0 27 (.call (o6 117) [.t 23,.t 26]),o4 6 27])
 (.seq (.seq (.reg [o4 28 4,o4 29 28,o2 30 (.mov (.t 6)) 29 true,o2 31 (.len 1 (.t 30)) 29 true,o2 32 (.mov (.t 2)) 29 true,o2 33 (.len 1 (.t 32)) 29 true,o2 34 (.bin .gtr (.t 31) (.t 33)) 29 true,o2 35 (.mov (.t 34)) 29 true,o2 36 (.mov (.t 6)) 35 false,o2 37 (.len 1 (.t 36)) 35 false,o2 38 (.mov (.t 2)) 35 false,o2 39 (.len 1 (.t 38)) 35 false,o2 40 (.eql (.one .i) false (.t 37) (.t 39)) 35 false,o2 41 (.mov (.t 40)) 35 false,o2 42 (.mov (.t 6)) 41 true,o2 43 (.mov (.t 2)) 41 true,o2 44 (.call (o6 118) [.t 42,.t 43]) 41 true,o2 45 (.bin .gtr (.t 44) (o5 0)) 41 true,o2 46 (.pick (.t 41) (.t 45) (.c (.bool false))) 35 false,o2 47 (.pick (.t 35) (.c (.bool true)) (.t 46)) 29 true,o0 48 (.pick (.t 29) (.t 47) (.c (.bool false)))])
 (.cond (.t 48) (.jump (.exit 1))
 .skip))
 (.seq (.reg [o0 49 (.load (some 7) (.t 1)),o4 50 5,o0 51 (.call (o6 224) [.t 49,.t 50]),o0 52 (.nilCheck (.t 51)),o0 53 (.faddr (.t 52) 8),o0 54 (.load none (.t 53)),o0 55 (.len 2 (.t 54)),o0 56 (.bin .gtr (.t 55) (o5 0))])
 (.cond (.t 56) (.reg [o4 57 6,o4 2 57,o0 4 (.mov (.c (.bool true)))])
 .skip))))))
 (.reg [o0 58 (.bin .add (.t 20) (o5 1)),o4 20 58])))
def a78:AFunc:=⟨60,[.tmp 2,.tmp 3],
 .seq (.reg [o0 1 (.box 7 (.t 0)),o0 2 (.mov (.c (.lit [] true none))),o0 3 (.mov (o5 0))])
 (.seq (.seq (.reg [o0 8 (.load (some 7) (.t 1)),o0 9 (.call (o6 223) [.t 8]),o4 7 9,o0 10 (.ext (.t 7) 0),o0 11 (.ext (.t 7) 1),o0 12 (.ext (.t 7) 2),o4 3 12])
 (.seq (.reg [o4 13 3,o0 14 (.eql (.one .i) true (.t 13) (o5 0))])
 (.cond (.t 14) (.seq (.reg [o4 15 3,o0 2 (.mov (.c (.lit [] true none))),o4 3 15])
 (.jump .ret))
 .skip)))
 (.seq (.reg [o0 4 (.mov (.c (.bool false)))])
 (.seq (.seq (.reg [o0 16 (.faddr (.t 1) 6),o0 17 (.load none (.t 16)),o0 18 (.len 1 (.t 17)),o0 19 (.bin .shl (o5 1) (.t 18)),o0 20 (.mov (o5 0))])
 (.block 0 (.loop Y5)))
 (.seq (.reg [o4 59 2,o4 2 59,o0 3 (.mov (o5 0))])
 (.jump .ret)))))⟩
def a79:AFunc:=⟨8,[.cell 4 (some 2)],
 .seq (.reg [o0 4 (.alloc [.int .i64 0,.int .i64 0])])
 (.seq (.reg [o4 5 0,o4 6 1,o0 7 (.build [.int .i64 0,.int .i64 0] [(0,1,(.t 5)),(1,1,(.t 6))]),o1 (.store 2 (.t 4) (.t 7))])
 (.jump .ret))⟩
def a80:AFunc:=⟨14,[.cell 2 (some 7)],
 .seq (.reg [o0 2 (.alloc [.int .i64 0,.int .i64 0,.int .i64 0,.lit [] true none,.int .i64 0,.lit [] true none,.lit [] true none])])
 (.seq (.reg [o0 3 (.call (o6 89) [(o5 3),(o5 8)]),o0 4 (.call (o6 89) [(o5 1),(o5 2)]),⟨some 5,.build [.str ⟨#[]⟩,.int .i64 0,.int .i64 0] [(0,1,(.c (.str ⟨#[99,111,111,108]⟩))),(1,2,(.t 4))],none⟩,o0 6 (.call (o6 89) [(o5 5),(o5 7)]),⟨some 7,.build [.str ⟨#[]⟩,.int .i64 0,.int .i64 0] [(0,1,(.c (.str ⟨#[119,97,114,109]⟩))),(1,2,(.t 6))],none⟩,o0 8 (.call (o6 89) [(o5 9),(o5 10)]),⟨some 9,.build [.str ⟨#[]⟩,.int .i64 0,.int .i64 0] [(0,1,(.c (.str ⟨#[103,97,115]⟩))),(1,2,(.t 8))],none⟩,o0 10 (.mklit 3 [.t 5,.t 7,.t 9]),o0 11 (.mklit 1 [(o5 1),(o5 1)]),o4 12 0,o0 13 (.build [.int .i64 0,.int .i64 0,.int .i64 0,.lit [] true none,.int .i64 0,.lit [] true none,.lit [] true none] [(0,1,(o5 5)),(1,2,(.t 3)),(3,1,(.t 10)),(4,1,(o5 2)),(5,1,(.t 11)),(6,1,(.t 12))]),o1 (.store 7 (.t 2) (.t 13))])
 (.jump .ret))⟩
def a81:AFunc:=⟨8,[.cell 4 (some 2)],
 .seq (.reg [o0 4 (.alloc [.int .i64 0,.int .i64 0])])
 (.seq (.reg [o4 5 0,o4 6 1,o0 7 (.build [.int .i64 0,.int .i64 0] [(0,1,(.t 5)),(1,1,(.t 6))]),o1 (.store 2 (.t 4) (.t 7))])
 (.jump .ret))⟩
def a82:AFunc:=⟨29,[.cell 4 (some 2),.tmp 5],
 .seq (.reg [o0 2 (.box 7 (.t 0)),o0 4 (.alloc [.int .i64 0,.int .i64 0]),o0 5 (.mov (o5 0))])
 (.seq (.dreg [o3 9 (.load (some 7) (.t 2)) 0 1,o3 10 (.mov (.t 1)) 0 0,o3 11 (.faddr (.t 2) 5) 0 0,o3 12 (.load none (.t 11)) 0 0,o3 13 (.len 1 (.t 12)) 0 0,o3 14 (.mklit 1 [(.t 10),(o5 0),(.t 13)]) 0 0,o3 15 (.call (o6 96) [.t 14]) 0 1,o3 16 (.call (o6 95) [.t 9,.t 15]) 1 2,o3 8 (.mov (.t 16)) 2 2,o3 17 (.ext (.t 8) 0) 2 2,o3 18 (.ext (.t 8) 1) 2 2,o3 6 (.mov (.t 17)) 2 2,o3 7 (.mov (.t 18)) 2 2])
 (.seq (.seq (.reg [o4 19 7,o0 20 (.eql (.one .i) true (.t 19) (o5 0))])
 (.cond (.t 20) (.seq (.reg [o0 21 (.build [.int .i64 0,.int .i64 0] []),o4 22 7,o1 (.store 2 (.t 4) (.t 21)),o4 5 22])
 (.jump .ret))
 .skip))
 (.seq (.reg [o4 23 6,o4 24 1,o0 25 (.nilCheck (.t 23)),o0 26 (.faddr (.t 25) 7),o0 27 (.iaddr (some 7) 2 (.t 26) (.t 24)),o0 28 (.load (some 2) (.t 27)),o1 (.store 2 (.t 4) (.t 28)),o0 5 (.mov (o5 0))])
 (.jump .ret))))⟩
def a83:AFunc:=⟨20,[.cell 4 (some 2),.tmp 5],
 .seq (.reg [o0 2 (.box 7 (.t 0)),o0 4 (.alloc [.int .i64 0,.int .i64 0]),o0 5 (.mov (o5 0))])
 (.seq (.reg [o0 9 (.load (some 7) (.t 2)),o4 10 1,o0 11 (.call (o6 82) [.t 9,.t 10]),o4 8 11,o0 12 (.ext (.t 8) 0),o0 13 (.ext (.t 8) 1),o0 6 (.alloc [.int .i64 0,.int .i64 0]),o1 (.store 2 (.t 6) (.t 12)),o4 7 13])
 (.seq (.seq (.reg [o4 14 7,o0 15 (.eql (.one .i) true (.t 14) (o5 0))])
 (.cond (.t 15) (.seq (.reg [o0 16 (.build [.int .i64 0,.int .i64 0] []),o4 17 7,o1 (.store 2 (.t 4) (.t 16)),o4 5 17])
 (.jump .ret))
 .skip))
 (.seq (.reg [o0 18 (.load (some 2) (.t 6)),o0 19 (.call (o6 225) [.t 18]),o1 (.store 2 (.t 4) (.t 19)),o0 5 (.mov (o5 0))])
 (.jump .ret))))⟩
def a84:AFunc:=⟨8,[.cell 2 (some 2),.tmp 3],
 .seq (.reg [o0 1 (.box 7 (.t 0)),o0 2 (.alloc [.int .i64 0,.int .i64 0]),o0 3 (.mov (o5 0))])
 (.seq (.reg [o0 4 (.load (some 7) (.t 1)),o0 5 (.call (o6 82) [(.t 4),(o5 0)]),o0 6 (.ext (.t 5) 0),o0 7 (.ext (.t 5) 1),o1 (.store 2 (.t 2) (.t 6)),o4 3 7])
 (.jump .ret))⟩
def ZI:ACode:=.seq (.reg [o0 38 (.bin .lss (.t 37) (.t 36))])
 (.seq (.cond (.t 38) .skip
 (.jump (.exit 0)))
 (.seq (.block 1 (.seq (.reg [o0 39 (.iaddr none 1 (.t 35) (.t 37)),o0 40 (.load none (.t 39)),o4 11 40])
 (.dreg [o3 41 (.load (some 2) (.t 9)) 0 0,o3 42 (.faddr (.t 2) 3) 0 0,o3 43 (.load none (.t 42)) 0 0,o3 44 (.mov (.t 11)) 0 0,o3 45 (.iaddr none 3 (.t 43) (.t 44)) 0 0,o3 46 (.faddr (.t 45) 1) 0 0,o3 47 (.load (some 2) (.t 46)) 0 0,o3 48 (.call (o6 228) [.t 41,.t 47]) 0 1,⟨o1 (.store 2 (.t 9) (.t 48)),1,2⟩])))
 (.reg [o0 49 (.bin .add (.t 37) (o5 1)),o4 37 49])))
def a85:AFunc:=⟨52,[.cell 4 (some 2),.tmp 5],
 .seq (.reg [o0 2 (.box 7 (.t 0)),o0 3 (.box 1 (.t 1)),o0 4 (.alloc [.int .i64 0,.int .i64 0]),o0 5 (.mov (o5 0))])
 (.seq (.reg [o0 13 (.load (some 7) (.t 2)),o0 14 (.mkfun 226 [] [.t 3,.t 2]),o0 15 (.call (o6 95) [.t 13,.t 14]),o4 12 15,o0 16 (.ext (.t 12) 0),o0 17 (.ext (.t 12) 1),o4 6 16,o4 7 17])
 (.seq (.seq (.reg [o4 18 7,o0 19 (.eql (.one .i) true (.t 18) (o5 0))])
 (.cond (.t 19) (.seq (.reg [o0 20 (.build [.int .i64 0,.int .i64 0] []),o4 21 7,o1 (.store 2 (.t 4) (.t 20)),o4 5 21])
 (.jump .ret))
 .skip))
 (.seq (.reg [o0 22 (.load none (.t 3)),o0 23 (.len 1 (.t 22)),o0 24 (.mkslice [.int .i64 0] 8 (.t 23) (.t 23)),o4 8 24])
 (.seq (.reg [o4 25 8,o0 26 (.load none (.t 3)),o0 27 (.copy 1 (.t 25) (.t 26))])
 (.seq (.dreg [o3 28 (.mov (.t 6)) 0 1,o3 29 (.mov (.t 6)) 0 0,o3 30 (.call (o6 98) [.t 29]) 0 1,o3 31 (.nilCheck (.t 28)) 0 1,o3 32 (.faddr (.t 31) 7) 0 1,o3 33 (.iaddr (some 7) 2 (.t 32) (.t 30)) 1 1,o3 34 (.load (some 2) (.t 33)) 1 1,o3 9 (.alloc [.int .i64 0,.int .i64 0]) 0 1,⟨o1 (.store 2 (.t 9) (.t 34)),1,2⟩])
 (.seq (.seq (.reg [o4 35 8,o0 36 (.len 1 (.t 35)),o0 37 (.mov (o5 0))])
 (.block 0 (.loop ZI)))
 (.seq (.reg [o0 50 (.load (some 2) (.t 9)),o0 51 (.call (o6 225) [.t 50]),o1 (.store 2 (.t 4) (.t 51)),o0 5 (.mov (o5 0))])
 (.jump .ret))))))))⟩
def Z4:ACode:=.seq (.reg [o0 30 (.bin .lss (.t 29) (o5 7))])
 (.seq (.cond (.t 30) .skip
 (.jump (.exit 0)))
 (.seq (.block 1 (.seq (.reg [o4 31 29,o4 8 31])
 (.seq (.dreg [o3 33 (.mov (.t 7)) 0 3,o3 34 (.mov (.t 6)) 0 3,o3 35 (.mov (.t 6)) 0 0,o3 36 (.call (o6 98) [.t 35]) 0 1,o3 37 (.nilCheck (.t 34)) 0 3,o3 38 (.faddr (.t 37) 7) 0 3,o3 39 (.iaddr (some 7) 2 (.t 38) (.t 36)) 1 3,o3 40 (.load (some 2) (.t 39)) 1 3,o3 41 (.mov (.t 6)) 0 1,o3 42 (.call (o6 99) [.t 41]) 1 2,o3 43 (.mov (.t 1)) 0 3,o3 44 (.mov (.t 6)) 0 2,o3 45 (.call (o6 98) [.t 44]) 2 3,o3 46 (.bin .sub (.t 43) (.t 45)) 3 3,o3 47 (.mov (.t 8)) 0 3,o3 48 (.bin .add (.t 47) (o5 1)) 0 3,o3 49 (.call (.t 33) [.t 40,.t 42,.t 46,.t 48]) 3 4,o3 32 (.mov (.t 49)) 4 4,o3 50 (.ext (.t 32) 0) 4 4,o3 51 (.ext (.t 32) 1) 4 5,o3 9 (.alloc [.lit [] true none,.int .i64 0,.int .i64 0,.int .i64 0,.int .i64 0,.int .i64 0]) 0 4,⟨o1 (.store 6 (.t 9) (.t 50)),4,5⟩,o3 10 (.mov (.t 51)) 5 5])
 (.seq (.reg [o4 52 10])
 (.cond (.t 52) (.reg [o4 53 4,o4 54 8,o0 55 (.bin .add (.t 54) (o5 1)),o0 56 (.mklit 1 [.t 55]),o0 57 (.append 1 8 (.t 53) (.t 56)),o4 4 57])
 .skip)))))
 (.reg [o0 58 (.bin .add (.t 29) (o5 1)),o4 29 58])))
def a86:AFunc:=⟨60,[.tmp 4,.tmp 5],
 .seq (.reg [o0 2 (.box 7 (.t 0)),o0 4 (.mov (.c (.lit [] true none))),o0 5 (.mov (o5 0))])
 (.seq (.dreg [o3 12 (.load (some 7) (.t 2)) 0 1,o3 13 (.mov (.t 1)) 0 0,o3 14 (.faddr (.t 2) 5) 0 0,o3 15 (.load none (.t 14)) 0 0,o3 16 (.len 1 (.t 15)) 0 0,o3 17 (.faddr (.t 2) 0) 0 0,o3 18 (.load none (.t 17)) 0 0,o3 19 (.mklit 1 [.t 13,.t 16,.t 18]) 0 0,o3 20 (.call (o6 96) [.t 19]) 0 1,o3 21 (.call (o6 95) [.t 12,.t 20]) 1 2,o3 11 (.mov (.t 21)) 2 2,o3 22 (.ext (.t 11) 0) 2 2,o3 23 (.ext (.t 11) 1) 2 2,o3 6 (.mov (.t 22)) 2 2,o3 5 (.mov (.t 23)) 2 2])
 (.seq (.seq (.reg [o4 24 5,o0 25 (.eql (.one .i) true (.t 24) (o5 0))])
 (.cond (.t 25) (.seq (.reg [o4 26 5,o0 4 (.mov (.c (.lit [] true none))),o4 5 26])
 (.jump .ret))
 .skip))
 (.seq (.reg [o4 27 6,o0 28 (.mkfun 97 [.t 27] []),o4 7 28])
 (.seq (.seq (.reg [o0 29 (.mov (o5 0))])
 (.block 0 (.loop Z4)))
 (.seq (.reg [o4 59 4,o4 4 59,o0 5 (.mov (o5 0))])
 (.jump .ret))))))⟩
def ZA:ACode:=.seq (.reg [o0 41 (.bin .lss (.t 40) (.t 39))])
 (.seq (.cond (.t 41) .skip
 (.jump (.exit 0)))
 (.seq (.block 1 (.seq (.reg [o4 42 40,o4 10 42])
 (.seq (.reg [o4 44 8,o0 45 (.faddr (.t 3) 1),o0 46 (.load (some 2) (.t 45)),o4 47 1,o4 48 10,o0 49 (.bin .sub (.t 47) (.t 48)),o4 50 2,o0 51 (.call (o6 97) [(.t 44),(.t 46),(.c (.int .i64 (-1))),(.t 49),(.t 50)]),o4 43 51,o0 52 (.ext (.t 43) 0),o0 53 (.ext (.t 43) 1),o0 11 (.alloc [.lit [] true none,.int .i64 0,.int .i64 0,.int .i64 0,.int .i64 0,.int .i64 0]),o1 (.store 6 (.t 11) (.t 52)),o4 12 53])
 (.seq (.reg [o4 54 12])
 (.cond (.t 54) (.reg [o4 55 6,o4 56 10,o0 57 (.mklit 1 [.t 56]),o0 58 (.append 1 8 (.t 55) (.t 57)),o4 6 58])
 .skip)))))
 (.reg [o0 59 (.bin .add (.t 40) (o5 1)),o4 40 59])))
def a87:AFunc:=⟨61,[.tmp 6,.tmp 7],
 .seq (.reg [o0 3 (.box 7 (.t 0)),o0 6 (.mov (.c (.lit [] true none))),o0 7 (.mov (o5 0))])
 (.seq (.seq (.reg [o0 14 (.load (some 7) (.t 3)),o0 15 (.call (o6 229) [.t 14]),o4 13 15,o0 16 (.ext (.t 13) 0),o0 17 (.ext (.t 13) 1),o0 18 (.ext (.t 13) 2),o4 7 18])
 (.seq (.reg [o4 19 7,o0 20 (.eql (.one .i) false (.t 19) (o5 0))])
 (.cond (.t 20) (.reg [o4 21 1,o0 22 (.faddr (.t 3) 0),o0 23 (.load none (.t 22)),o4 24 2,o0 25 (.mklit 1 [(.t 21),(o5 0),(.t 23),(.t 24),(o5 1),(o5 7)]),o0 26 (.call (o6 96) [.t 25]),o0 27 (.call (.t 26) []),o4 7 27])
 .skip)))
 (.seq (.seq (.reg [o4 28 7,o0 29 (.eql (.one .i) true (.t 28) (o5 0))])
 (.cond (.t 29) (.seq (.reg [o4 30 7,o0 6 (.mov (.c (.lit [] true none))),o4 7 30])
 (.jump .ret))
 .skip))
 (.seq (.reg [o0 31 (.faddr (.t 3) 5),o1 (.store 1 (.t 31) (.c (.lit [] true none))),o0 32 (.faddr (.t 3) 6),o1 (.store 1 (.t 32) (.c (.lit [] true none)))])
 (.seq (.reg [o0 34 (.load (some 7) (.t 3)),o0 35 (.call (o6 230) [(.t 34),(o5 0)]),o4 33 35,o0 36 (.ext (.t 33) 0),o0 37 (.ext (.t 33) 1),o4 8 36,o4 9 37])
 (.seq (.seq (.reg [o4 38 1,o0 39 (.bin .add (.t 38) (o5 1)),o0 40 (.mov (o5 0))])
 (.block 0 (.loop ZA)))
 (.seq (.reg [o4 60 6,o4 6 60,o0 7 (.mov (o5 0))])
 (.jump .ret)))))))⟩
def Z7:ACode:=.seq (.reg [o0 23 (.bin .lss (.t 22) (.t 21))])
 (.seq (.cond (.t 23) .skip
 (.jump (.exit 0)))
 (.seq (.block 1 (.seq (.reg [o4 24 22,o4 5 24])
 (.seq (.reg [o4 25 5,o0 26 (.faddr (.t 1) 6),o0 27 (.load none (.t 26)),o0 28 (.len 1 (.t 27)),o0 29 (.call (o6 231) [.t 25,.t 28]),o4 6 29])
 (.seq (.seq (.reg [o4 30 4,o4 31 30,o2 32 (.mov (.t 6)) 31 true,o2 33 (.len 1 (.t 32)) 31 true,o2 34 (.mov (.t 2)) 31 true,o2 35 (.len 1 (.t 34)) 31 true,o2 36 (.bin .gtr (.t 33) (.t 35)) 31 true,o2 37 (.mov (.t 36)) 31 true,o2 38 (.mov (.t 6)) 37 false,o2 39 (.len 1 (.t 38)) 37 false,o2 40 (.mov (.t 2)) 37 false,o2 41 (.len 1 (.t 40)) 37 false,o2 42 (.eql (.one .i) false (.t 39) (.t 41)) 37 false,o2 43 (.mov (.t 42)) 37 false,o2 44 (.mov (.t 6)) 43 true,o2 45 (.mov (.t 2)) 43 true,o2 46 (.call (o6 118) [.t 44,.t 45]) 43 true,o2 47 (.bin .gtr (.t 46) (o5 0)) 43 true,o2 48 (.pick (.t 43) (.t 47) (.c (.bool false))) 37 false,o2 49 (.pick (.t 37) (.c (.bool true)) (.t 48)) 31 true,o0 50 (.pick (.t 31) (.t 49) (.c (.bool false)))])
 (.cond (.t 50) (.jump (.exit 1))
 .skip))
 (.seq (.reg [o0 52 (.load (some 7) (.t 1)),o4 53 5,o0 54 (.call (o6 230) [.t 52,.t 53]),o4 51 54,o0 55 (.ext (.t 51) 0),o0 56 (.ext (.t 51) 1),o4 7 55,o4 8 56])
 (.seq (.reg [o4 57 8])
 (.cond (.t 57) (.reg [o4 58 6,o4 2 58,o0 4 (.mov (.c (.bool true)))])
 .skip)))))))
 (.reg [o0 59 (.bin .add (.t 22) (o5 1)),o4 22 59])))
def a88:AFunc:=⟨61,[.tmp 2,.tmp 3],
 .seq (.reg [o0 1 (.box 7 (.t 0)),o0 2 (.mov (.c (.lit [] true none))),o0 3 (.mov (o5 0))])
 (.seq (.seq (.reg [o0 10 (.load (some 7) (.t 1)),o0 11 (.call (o6 229) [.t 10]),o4 9 11,o0 12 (.ext (.t 9) 0),o0 13 (.ext (.t 9) 1),o0 14 (.ext (.t 9) 2),o4 3 14])
 (.seq (.reg [o4 15 3,o0 16 (.eql (.one .i) true (.t 15) (o5 0))])
 (.cond (.t 16) (.seq (.reg [o4 17 3,o0 2 (.mov (.c (.lit [] true none))),o4 3 17])
 (.jump .ret))
 .skip)))
 (.seq (.reg [o0 4 (.mov (.c (.bool false)))])
 (.seq (.seq (.reg [o0 18 (.faddr (.t 1) 6),o0 19 (.load none (.t 18)),o0 20 (.len 1 (.t 19)),o0 21 (.bin .shl (o5 1) (.t 20)),o0 22 (.mov (o5 0))])
 (.block 0 (.loop Z7)))
 (.seq (.reg [o4 60 2,o4 2 60,o0 3 (.mov (o5 0))])
 (.jump .ret)))))⟩
def a89:AFunc:=⟨8,[.cell 4 (some 2)],
 .seq (.reg [o0 4 (.alloc [.int .i64 0,.int .i64 0])])
 (.seq (.reg [o4 5 0,o4 6 1,o0 7 (.build [.int .i64 0,.int .i64 0] [(0,1,(.t 5)),(1,1,(.t 6))]),o1 (.store 2 (.t 4) (.t 7))])
 (.jump .ret))⟩
def Z2:ACode:=.seq (.seq (.reg [o4 28 7,o0 29 (.faddr (.t 1) 0),o0 30 (.load none (.t 29)),o4 31 4,o0 32 (.iaddr none 2 (.t 30) (.t 31)),o0 33 (.faddr (.t 32) 1),o0 34 (.load none (.t 33)),o0 35 (.bin .leq (.t 28) (.t 34))])
 (.cond (.t 35) .skip
 (.jump (.exit 4))))
 (.seq (.block 5 (.reg [o4 38 5,o0 39 (.mklit 1 []),o4 40 3,o4 41 6,o0 42 (.iaddr none 1 (.t 40) (.t 41)),o0 43 (.load none (.t 42)),o0 44 (.append 1 8 (.t 39) (.t 43)),o4 45 7,o0 46 (.mklit 1 [.t 45]),o0 47 (.append 1 8 (.t 44) (.t 46)),o0 48 (.mklit 1 [.t 47]),o0 49 (.append 1 24 (.t 38) (.t 48)),o4 5 49]))
 (.reg [o4 36 7,o0 37 (.bin .add (.t 36) (o5 1)),o4 7 37]))
def Y8:ACode:=.seq (.seq (.reg [o4 16 6,o4 17 3,o0 18 (.len 1 (.t 17)),o0 19 (.bin .lss (.t 16) (.t 18))])
 (.cond (.t 19) .skip
 (.jump (.exit 2))))
 (.seq (.block 3 (.seq (.reg [o0 22 (.faddr (.t 1) 0),o0 23 (.load none (.t 22)),o4 24 4,o0 25 (.iaddr none 2 (.t 23) (.t 24)),o0 26 (.faddr (.t 25) 0),o0 27 (.load none (.t 26)),o4 7 27])
 (.block 4 (.loop Z2))))
 (.reg [o4 20 6,o0 21 (.bin .add (.t 20) (o5 1)),o4 6 21]))
def Z6:ACode:=.seq (.seq (.reg [o4 9 4,o0 10 (.faddr (.t 1) 0),o0 11 (.load none (.t 10)),o0 12 (.len 1 (.t 11)),o0 13 (.bin .lss (.t 9) (.t 12))])
 (.cond (.t 13) .skip
 (.jump (.exit 0))))
 (.seq (.block 1 (.seq (.reg [o0 5 (.mov (.c (.lit [] true none)))])
 (.seq (.seq (.reg [o0 6 (.mov (o5 0))])
 (.block 2 (.loop Y8)))
 (.reg [o4 50 5,o4 3 50]))))
 (.reg [o4 14 4,o0 15 (.bin .add (.t 14) (o5 1)),o4 4 15]))
def a90:AFunc:=⟨52,[.tmp 2],
 .seq (.reg [o0 1 (.box 7 (.t 0)),o0 2 (.mov (.c (.lit [] true none)))])
 (.seq (.reg [o0 8 (.mklit 1 [(.c (.lit [] true none))]),o4 3 8])
 (.seq (.seq (.reg [o0 4 (.mov (o5 0))])
 (.block 0 (.loop Z6)))
 (.seq (.reg [o4 51 3,o4 2 51])
 (.jump .ret))))⟩
def aAB:ACode:=.seq (.seq (.reg [o4 32 12,o0 33 (.faddr (.t 4) 6),o0 34 (.load none (.t 33)),o0 35 (.len 1 (.t 34)),o0 36 (.bin .lss (.t 32) (.t 35))])
 (.cond (.t 36) .skip
 (.jump (.exit 2))))
 (.seq (.block 3 (.seq (.reg [o0 39 (.faddr (.t 4) 6),o0 40 (.load none (.t 39)),o4 41 12,o0 42 (.iaddr none 3 (.t 40) (.t 41)),o0 43 (.load (some 3) (.t 42)),o0 13 (.alloc [.int .i64 0,.int .i64 0,.int .i64 0]),o1 (.store 3 (.t 13) (.t 43))])
 (.seq (.reg [o0 44 (.faddr (.t 13) 0),o0 45 (.load none (.t 44)),o4 46 1,o0 47 (.eql (.one .i) false (.t 45) (.t 46)),o4 48 47,o2 49 (.mov (.t 3)) 48 true,o2 50 (.mov (.t 12)) 48 true,o2 51 (.call (o6 64) [.t 49,.t 50]) 48 true,o2 52 (.not (.t 51)) 48 true,o0 53 (.pick (.t 48) (.t 52) (.c (.bool false)))])
 (.cond (.t 53) (.dreg [o3 54 (.mov (.t 11)) 0 0,o3 55 (.mov (.t 54)) 0 0,⟨o2 56 (.mov (.t 2)) 55 true,0,0⟩,⟨o2 57 (.mov (.t 10)) 55 true,0,0⟩,⟨o2 58 (.faddr (.t 13) 1) 55 true,0,0⟩,⟨o2 59 (.load none (.t 58)) 55 true,0,0⟩,⟨o2 60 (.call (o6 18) [.t 56,.t 57,.t 59]) 55 true,0,1⟩,⟨o2 61 (.faddr (.t 13) 2) 55 true,0,1⟩,⟨o2 62 (.load none (.t 61)) 55 true,0,1⟩,⟨o2 63 (.eql (.one .i) false (.t 60) (.t 62)) 55 true,1,1⟩,o3 64 (.pick (.t 55) (.t 63) (.c (.bool false))) 1 1,o3 11 (.mov (.t 64)) 1 1])
 .skip))))
 (.reg [o4 37 12,o0 38 (.bin .add (.t 37) (o5 1)),o4 12 38]))
def ZC:ACode:=.seq (.seq (.reg [o4 21 10,o0 22 (.faddr (.t 4) 5),o0 23 (.load none (.t 22)),o4 24 1,o0 25 (.iaddr none 4 (.t 23) (.t 24)),o0 26 (.faddr (.t 25) 1),o0 27 (.faddr (.t 26) 1),o0 28 (.load none (.t 27)),o0 29 (.bin .leq (.t 21) (.t 28))])
 (.cond (.t 29) .skip
 (.jump (.exit 0))))
 (.seq (.block 1 (.seq (.reg [o0 11 (.mov (.c (.bool true)))])
 (.seq (.seq (.reg [o0 12 (.mov (o5 0))])
 (.block 2 (.loop aAB)))
 (.seq (.reg [o4 65 11])
 (.cond (.t 65) (.reg [o4 66 9,o4 67 10,o0 68 (.mklit 1 [.t 67]),o0 69 (.append 1 8 (.t 66) (.t 68)),o4 9 69])
 .skip)))))
 (.reg [o4 30 10,o0 31 (.bin .add (.t 30) (o5 1)),o4 10 31]))
def a91:AFunc:=⟨71,[.tmp 8],
 .seq (.reg [o0 4 (.box 7 (.t 0)),o0 8 (.mov (.c (.lit [] true none)))])
 (.seq (.reg [o0 9 (.mov (.c (.lit [] true none)))])
 (.seq (.seq (.reg [o0 14 (.faddr (.t 4) 5),o0 15 (.load none (.t 14)),o4 16 1,o0 17 (.iaddr none 4 (.t 15) (.t 16)),o0 18 (.faddr (.t 17) 1),o0 19 (.faddr (.t 18) 0),o0 20 (.load none (.t 19)),o4 10 20])
 (.block 0 (.loop ZC)))
 (.seq (.reg [o4 70 9,o4 8 70])
 (.jump .ret))))⟩
def a92:AFunc:=⟨47,[.tmp 6,.tmp 7],
 .seq (.reg [o0 3 (.box 7 (.t 0)),o0 6 (.mov (.c (.nilPtr))),o0 7 (.mov (o5 0))])
 (.seq (.seq (.reg [o0 14 (.load (some 7) (.t 3)),o0 15 (.call (o6 223) [.t 14]),o4 13 15,o0 16 (.ext (.t 13) 0),o0 17 (.ext (.t 13) 1),o0 18 (.ext (.t 13) 2),o4 8 16,o4 9 17,o4 10 18])
 (.seq (.reg [o4 19 10,o0 20 (.eql (.one .i) true (.t 19) (o5 0))])
 (.cond (.t 20) (.seq (.reg [o4 21 10,o0 6 (.mov (.c (.nilPtr))),o4 7 21])
 (.jump .ret))
 .skip)))
 (.seq (.seq (.reg [o4 22 1,o0 23 (.eql (.one .i) true (.t 22) (.c (.int .i64 (-1099511627776)))),o4 24 23,o2 25 (.faddr (.t 3) 5) 24 true,o2 26 (.load none (.t 25)) 24 true,o2 27 (.len 1 (.t 26)) 24 true,o2 28 (.bin .sub (.t 27) (o5 1)) 24 true,o2 29 (.mov (.t 1)) 24 true,o2 30 (.mklit 1 [.t 29]) 24 true,o2 31 (.call (o6 232) [(o5 0),(.t 28),(.t 30)]) 24 true,o0 32 (.pick (.t 24) (.t 31) (.c (.bool false)))])
 (.cond (.t 32) (.seq (.reg [o0 6 (.mov (.c (.nilPtr))),o0 7 (.mov (o5 4))])
 (.jump .ret))
 .skip))
 (.seq (.seq (.reg [o4 33 2,o0 34 (.call (.t 33) []),o4 11 34])
 (.seq (.reg [o4 35 11,o0 36 (.eql (.one .i) true (.t 35) (o5 0))])
 (.cond (.t 36) (.seq (.reg [o4 37 11,o0 6 (.mov (.c (.nilPtr))),o4 7 37])
 (.jump .ret))
 .skip)))
 (.seq (.reg [o0 38 (.load (some 7) (.t 3)),o0 39 (.call (o6 224) [(.t 38),(o5 0)]),o4 12 39])
 (.seq (.seq (.reg [o4 40 12,o0 41 (.nilCheck (.t 40)),o0 42 (.faddr (.t 41) 8),o0 43 (.load none (.t 42)),o0 44 (.len 2 (.t 43)),o0 45 (.eql (.one .i) false (.t 44) (o5 0))])
 (.cond (.t 45) (.seq (.reg [o0 6 (.mov (.c (.nilPtr))),o0 7 (.mov (o5 8))])
 (.jump .ret))
 .skip))
 (.seq (.reg [o4 46 12,o4 6 46,o0 7 (.mov (o5 0))])
 (.jump .ret)))))))⟩
def a93:AFunc:=⟨4,[.tmp 2],
 .seq (.reg [o0 1 (.box 1 (.t 0)),o0 2 (.mov (.c (.nilFunc)))])
 (.seq (.reg [o0 3 (.mkfun 233 [] [.t 1]),o4 2 3])
 (.jump .ret))⟩
def ZP:ACode:=.seq (.reg [o0 35 (.bin .lss (.t 34) (.t 33))])
 (.seq (.cond (.t 35) .skip
 (.jump (.exit 2)))
 (.seq (.block 3 (.seq (.reg [o0 36 (.iaddr none 1 (.t 32) (.t 34)),o0 37 (.load none (.t 36)),o4 10 37])
 (.seq (.reg [o4 38 0,o0 39 (.load (some 7) (.t 7)),o4 40 10,o4 41 2,o0 42 (.call (o6 234) [.t 38,.t 39,.t 40,.t 41]),o4 11 42])
 (.reg [o0 43 (.faddr (.t 6) 0),o0 44 (.load none (.t 43)),o4 45 11,o0 46 (.min [.t 44,.t 45]),o0 47 (.faddr (.t 6) 1),o0 48 (.load none (.t 47)),o4 49 11,o0 50 (.max [.t 48,.t 49]),o0 51 (.build [.int .i64 0,.int .i64 0] [(0,1,(.t 46)),(1,1,(.t 50))]),o1 (.store 2 (.t 6) (.t 51))]))))
 (.reg [o0 52 (.bin .add (.t 34) (o5 1)),o4 34 52])))
def aGE:ACode:=.seq (.reg [o0 18 (.mnext (.t 17)),o0 19 (.ext (.t 18) 0)])
 (.seq (.cond (.t 19) .skip
 (.jump (.exit 0)))
 (.block 1 (.seq (.reg [o0 20 (.entry (.t 17)),o0 21 (.ext (.t 20) 0),o0 22 (.ext (.t 20) 1),o0 7 (.alloc [.int .i64 0,.int .i64 0,.int .i64 0,.int .i64 0,.int .i64 0,.int .i64 0,.int .i64 0]),o0 8 (.alloc [.int .i64 0,.int .i64 0,.int .i64 0,.int .i64 0]),o1 (.store 7 (.t 7) (.t 21)),o1 (.store 4 (.t 8) (.t 22))])
 (.seq (.dreg [o3 23 (.mov (.t 1)) 0 0,o3 24 (.iaddr (some 4) 1 (.t 8) (.t 23)) 0 0,o3 25 (.load none (.t 24)) 0 0,o3 26 (.mov (.t 0)) 0 0,o3 27 (.nilCheck (.t 26)) 0 0,o3 28 (.faddr (.t 27) 0) 0 0,o3 29 (.faddr (.t 28) 0) 0 0,o3 30 (.load none (.t 29)) 0 0,o3 31 (.len 1 (.t 30)) 0 0,o3 32 (.call (o6 117) [.t 25,.t 31]) 0 1,o3 33 (.len 1 (.t 32)) 1 1,o3 34 (.mov (o5 0)) 0 1])
 (.block 2 (.loop ZP))))))
def a94:AFunc:=⟨54,[.cell 6 (some 2)],
 .seq (.reg [o0 6 (.alloc [.int .i64 0,.int .i64 0])])
 (.seq (.reg [o0 12 (.build [.int .i64 0,.int .i64 0] [(0,1,(o5 31)),(1,1,(.c (.int .i64 (-1))))]),o1 (.store 2 (.t 6) (.t 12))])
 (.seq (.seq (.reg [o4 13 0,o0 14 (.nilCheck (.t 13)),o0 15 (.faddr (.t 14) 8),o0 16 (.load none (.t 15)),o0 17 (.mrange (.t 16))])
 (.block 0 (.loop aGE)))
 (.seq (.reg [o0 53 (.load (some 2) (.t 6)),o1 (.store 2 (.t 6) (.t 53))])
 (.jump .ret))))⟩
def a95:AFunc:=⟨34,[.tmp 4,.tmp 5],
 .seq (.reg [o0 2 (.box 7 (.t 0)),o0 4 (.mov (.c (.nilPtr))),o0 5 (.mov (o5 0))])
 (.seq (.seq (.reg [o0 13 (.load (some 7) (.t 2)),o0 14 (.call (o6 229) [.t 13]),o4 12 14,o0 15 (.ext (.t 12) 0),o0 16 (.ext (.t 12) 1),o0 17 (.ext (.t 12) 2),o4 6 15,o4 7 16,o4 8 17])
 (.seq (.reg [o4 18 8,o0 19 (.eql (.one .i) true (.t 18) (o5 0))])
 (.cond (.t 19) (.seq (.reg [o4 20 8,o0 4 (.mov (.c (.nilPtr))),o4 5 20])
 (.jump .ret))
 .skip)))
 (.seq (.seq (.reg [o4 21 1,o0 22 (.call (.t 21) []),o4 9 22])
 (.seq (.reg [o4 23 9,o0 24 (.eql (.one .i) true (.t 23) (o5 0))])
 (.cond (.t 24) (.seq (.reg [o4 25 9,o0 4 (.mov (.c (.nilPtr))),o4 5 25])
 (.jump .ret))
 .skip)))
 (.seq (.reg [o0 27 (.load (some 7) (.t 2)),o0 28 (.call (o6 230) [(.t 27),(o5 0)]),o4 26 28,o0 29 (.ext (.t 26) 0),o0 30 (.ext (.t 26) 1),o4 10 29,o4 11 30])
 (.seq (.seq (.reg [o4 31 11,o0 32 (.not (.t 31))])
 (.cond (.t 32) (.seq (.reg [o0 4 (.mov (.c (.nilPtr))),o0 5 (.mov (o5 8))])
 (.jump .ret))
 .skip))
 (.seq (.reg [o4 33 10,o4 4 33,o0 5 (.mov (o5 0))])
 (.jump .ret))))))⟩
def a96:AFunc:=⟨4,[.tmp 2],
 .seq (.reg [o0 1 (.box 1 (.t 0)),o0 2 (.mov (.c (.nilFunc)))])
 (.seq (.reg [o0 3 (.mkfun 235 [] [.t 1]),o4 2 3])
 (.jump .ret))⟩
def F0:ACode:=.block 3 (.seq (.reg [o0 33 (.load none (.t 12)),o0 34 (.load (some 6) (.t 14)),o0 35 (.call (.t 33) [.t 34])])
 (.cond (.t 35) (.seq (.reg [o0 36 (.load (some 6) (.t 14)),o1 (.store 6 (.t 10) (.t 36)),o1 (.store 1 (.t 11) (.c (.bool true)))])
 (.jump .ret))
 .skip))
def ZQ:ACode:=.seq (.reg [o0 25 (.bin .lss (.t 24) (.t 23))])
 (.seq (.cond (.t 25) .skip
 (.jump (.exit 0)))
 (.seq (.block 1 (.seq (.reg [o4 26 24,o4 13 26])
 (.seq (.reg [o0 27 (.load none (.t 5)),o4 28 2,o4 29 3,o4 30 13,o0 31 (.call (o6 238) [.t 27,.t 28,.t 29,.t 30])])
 (.block 2 (.rangeFunc (.t 31) [32] (.reg [o0 14 (.alloc [.lit [] true none,.int .i64 0,.int .i64 0,.int .i64 0,.int .i64 0,.int .i64 0]),o1 (.store 6 (.t 14) (.t 32))])
 (F0))))))
 (.reg [o0 37 (.bin .add (.t 24) (o5 1)),o4 24 37])))
def a97:AFunc:=⟨39,[.cell 10 (some 6),.cell 11 none],
 .seq (.reg [o0 5 (.box 1 (.t 0)),o0 6 (.box 2 (.t 1)),o0 9 (.box 1 (.t 4)),o0 10 (.alloc [.lit [] true none,.int .i64 0,.int .i64 0,.int .i64 0,.int .i64 0,.int .i64 0]),o0 11 (.alloc [.bool false])])
 (.seq (.reg [o0 15 (.mkfun 236 [] [.t 6,.t 5,.t 9]),o0 12 (.alloc [.nilFunc]),o1 (.store 1 (.t 12) (.t 15))])
 (.seq (.seq (.reg [o0 16 (.load none (.t 5)),o0 17 (.nilCheck (.t 16)),o0 18 (.faddr (.t 17) 0),o0 19 (.faddr (.t 18) 4),o0 20 (.load none (.t 19)),o4 21 3,o0 22 (.min [.t 20,.t 21]),o0 23 (.bin .add (.t 22) (o5 1)),o0 24 (.mov (o5 0))])
 (.block 0 (.loop ZQ)))
 (.seq (.reg [o0 38 (.build [.lit [] true none,.int .i64 0,.int .i64 0,.int .i64 0,.int .i64 0,.int .i64 0] []),o1 (.store 6 (.t 10) (.t 38)),o1 (.store 1 (.t 11) (.c (.bool false)))])
 (.jump .ret))))⟩
def a98:AFunc:=⟨9,[.tmp 2],
 .seq (.reg [o0 2 (.mov (o5 0))])
 (.seq (.reg [o4 3 0,o0 4 (.nilCheck (.t 3)),o0 5 (.faddr (.t 4) 0),o0 6 (.faddr (.t 5) 5),o0 7 (.load none (.t 6)),o0 8 (.len 1 (.t 7)),o4 2 8])
 (.jump .ret))⟩
def a99:AFunc:=⟨16,[.tmp 2],
 .seq (.reg [o0 2 (.mov (o5 0))])
 (.seq (.seq (.reg [o4 3 0,o0 4 (.call (o6 98) [.t 3]),o0 5 (.eql (.one .i) false (.t 4) (o5 0))])
 (.cond (.t 5) (.seq (.reg [o0 2 (.mov (.c (.int .i64 (-1))))])
 (.jump .ret))
 .skip))
 (.seq (.dreg [o3 6 (.mov (.t 0)) 0 1,o3 7 (.nilCheck (.t 6)) 0 1,o3 8 (.faddr (.t 7) 0) 0 1,o3 9 (.faddr (.t 8) 5) 0 1,o3 10 (.load none (.t 9)) 0 1,o3 11 (.mov (.t 0)) 0 0,o3 12 (.call (o6 98) [.t 11]) 0 1,o3 13 (.bin .sub (.t 12) (o5 1)) 1 1,o3 14 (.iaddr none 1 (.t 10) (.t 13)) 1 1,o3 15 (.load none (.t 14)) 1 1,o3 2 (.mov (.t 15)) 1 1])
 (.jump .ret)))⟩
def DG:ACode:=.seq (.reg [o0 8 (.snext (.t 7)),o0 9 (.ext (.t 8) 0)])
 (.seq (.cond (.t 9) .skip
 (.jump (.exit 0)))
 (.block 1 (.seq (.reg [o0 10 (.ext (.t 8) 1),o0 11 (.ext (.t 8) 2),o4 3 10,o4 4 11])
 (.seq (.reg [o4 12 4,o0 13 (.bin .geq (.t 12) (.c (.int .i32 97))),o4 14 13,o2 15 (.mov (.t 4)) 14 true,o2 16 (.bin .leq (.t 15) (.c (.int .i32 122))) 14 true,o0 17 (.pick (.t 14) (.t 16) (.c (.bool false))),o4 5 17])
 (.seq (.reg [o4 18 5,o0 19 (.not (.t 18)),o4 20 19,o2 21 (.mov (.t 3)) 20 true,o2 22 (.eql (.one .i) false (.t 21) (o5 0)) 20 true,o2 23 (.mov (.t 22)) 20 true,o2 24 (.mov (.t 4)) 23 false,o2 25 (.eql (.one .i) true (.t 24) (.c (.int .i32 46))) 23 false,o2 26 (.mov (.t 25)) 23 false,o2 27 (.mov (.t 4)) 26 true,o2 28 (.bin .lss (.t 27) (.c (.int .i32 48))) 26 true,o2 29 (.mov (.t 28)) 26 true,o2 30 (.mov (.t 4)) 29 false,o2 31 (.bin .gtr (.t 30) (.c (.int .i32 57))) 29 false,o2 32 (.pick (.t 29) (.c (.bool true)) (.t 31)) 26 true,o2 33 (.pick (.t 26) (.t 32) (.c (.bool false))) 23 false,o2 34 (.pick (.t 23) (.c (.bool true)) (.t 33)) 20 true,o0 35 (.pick (.t 20) (.t 34) (.c (.bool false)))])
 (.cond (.t 35) (.seq (.reg [o0 2 (.mov (.c (.bool false)))])
 (.jump .ret))
 .skip))))))
def a111:AFunc:=⟨41,[.tmp 2],
 .seq (.reg [o0 2 (.mov (.c (.bool false)))])
 (.seq (.seq (.reg [o4 6 0,o0 7 (.srange (.t 6))])
 (.block 0 (.loop DG)))
 (.seq (.reg [o4 36 0,o0 37 (.len 0 (.t 36)),o0 38 (.mklit 1 [.t 37]),o0 39 (.call (o6 244) [(o5 1),(o5 16),(.t 38)]),o0 40 (.not (.t 39)),o4 2 40])
 (.jump .ret)))⟩
def TE:ACode:=.seq (.reg [o0 8 (.bin .lss (.t 7) (.t 6))])
 (.seq (.cond (.t 8) .skip
 (.jump (.exit 0)))
 (.seq (.block 1 (.seq (.reg [o4 9 7,o4 5 9])
 (.seq (.reg [o4 10 0,o4 11 5,o0 12 (.bin .shr (.t 10) (.t 11)),o0 13 (.bin .and (.t 12) (o5 1)),o0 14 (.eql (.one .i) false (.t 13) (o5 1))])
 (.cond (.t 14) (.reg [o4 15 4,o4 16 5,o0 17 (.mklit 1 [.t 16]),o0 18 (.append 1 8 (.t 15) (.t 17)),o4 4 18])
 .skip))))
 (.reg [o0 19 (.bin .add (.t 7) (o5 1)),o4 7 19])))
def a117:AFunc:=⟨21,[.tmp 4],
 .seq (.reg [o0 4 (.mov (.c (.lit [] true none)))])
 (.seq (.seq (.reg [o4 6 1,o0 7 (.mov (o5 0))])
 (.block 0 (.loop TE)))
 (.seq (.reg [o4 20 4,o4 4 20])
 (.jump .ret)))⟩
def MT:ACode:=.seq (.reg [o0 12 (.bin .lss (.t 11) (.t 10))])
 (.seq (.cond (.t 12) .skip
 (.jump (.exit 0)))
 (.seq (.block 1 (.seq (.reg [o4 13 11,o0 14 (.iaddr none 1 (.t 9) (.t 11)),o0 15 (.load none (.t 14)),o4 5 13,o4 6 15])
 (.seq (.seq (.reg [o4 16 5,o4 17 1,o0 18 (.len 1 (.t 17)),o0 19 (.bin .geq (.t 16) (.t 18))])
 (.cond (.t 19) (.seq (.reg [o0 4 (.mov (o5 1))])
 (.jump .ret))
 .skip))
 (.seq (.reg [o4 20 1,o4 21 5,o0 22 (.iaddr none 1 (.t 20) (.t 21)),o0 23 (.load none (.t 22)),o4 7 23])
 (.seq (.reg [o4 24 6,o4 25 7,o0 26 (.call (o6 254) [.t 24,.t 25]),o4 8 26])
 (.seq (.reg [o4 27 8,o0 28 (.eql (.one .i) true (.t 27) (o5 0))])
 (.cond (.t 28) (.seq (.reg [o4 29 8,o4 4 29])
 (.jump .ret))
 .skip)))))))
 (.reg [o0 30 (.bin .add (.t 11) (o5 1)),o4 11 30])))
def a118:AFunc:=⟨36,[.tmp 4],
 .seq (.reg [o0 4 (.mov (o5 0))])
 (.seq (.seq (.reg [o4 9 0,o0 10 (.len 1 (.t 9)),o0 11 (.mov (o5 0))])
 (.block 0 (.loop MT)))
 (.seq (.seq (.reg [o4 31 0,o0 32 (.len 1 (.t 31)),o4 33 1,o0 34 (.len 1 (.t 33)),o0 35 (.bin .lss (.t 32) (.t 34))])
 (.cond (.t 35) (.seq (.reg [o0 4 (.mov (.c (.int .i64 (-1))))])
 (.jump .ret))
 .skip))
 (.seq (.reg [o0 4 (.mov (o5 0))])
 (.jump .ret))))⟩
def RC:ACode:=.seq (.seq (.dreg [o3 6 (.mov (.t 5)) 0 0,o3 7 (.mov (.t 0)) 0 0,o3 8 (.len 1 (.t 7)) 0 0,o3 9 (.bin .lss (.t 6) (.t 8)) 0 0,o3 10 (.mov (.t 9)) 0 0,⟨o2 11 (.mov (.t 5)) 10 true,0,0⟩,⟨o2 12 (.mov (.t 1)) 10 true,0,0⟩,⟨o2 13 (.len 1 (.t 12)) 10 true,0,0⟩,⟨o2 14 (.bin .lss (.t 11) (.t 13)) 10 true,0,0⟩,o3 15 (.pick (.t 10) (.t 14) (.c (.bool false))) 0 0,o3 16 (.mov (.t 15)) 0 0,⟨o2 17 (.mov (.t 0)) 16 true,0,0⟩,⟨o2 18 (.mov (.t 5)) 16 true,0,0⟩,⟨o2 19 (.iaddr none 1 (.t 17) (.t 18)) 16 true,0,0⟩,⟨o2 20 (.load none (.t 19)) 16 true,0,0⟩,⟨o2 21 (.mov (.t 1)) 16 true,0,0⟩,⟨o2 22 (.mov (.t 5)) 16 true,0,0⟩,⟨o2 23 (.iaddr none 1 (.t 21) (.t 22)) 16 true,0,0⟩,⟨o2 24 (.load none (.t 23)) 16 true,0,0⟩,⟨o2 25 (.eql (.one .i) false (.t 20) (.t 24)) 16 true,0,0⟩,o3 26 (.pick (.t 16) (.t 25) (.c (.bool false))) 0 0])
 (.cond (.t 26) .skip
 (.jump (.exit 0))))
 (.block 1 (.reg [o4 27 5,o0 28 (.bin .add (.t 27) (o5 1)),o4 5 28]))
def a170:AFunc:=⟨48,[.tmp 4],
 .seq (.reg [o0 4 (.mov (.c (.bool false)))])
 (.seq (.reg [o0 5 (.mov (o5 0))])
 (.seq (.block 0 (.loop RC))
 (.seq (.seq (.reg [o4 29 5,o4 30 1,o0 31 (.len 1 (.t 30)),o0 32 (.eql (.one .i) false (.t 29) (.t 31))])
 (.cond (.t 32) (.seq (.reg [o0 4 (.mov (.c (.bool false)))])
 (.jump .ret))
 .skip))
 (.seq (.dreg [o3 33 (.mov (.t 5)) 0 0,o3 34 (.mov (.t 0)) 0 0,o3 35 (.len 1 (.t 34)) 0 0,o3 36 (.eql (.one .i) false (.t 33) (.t 35)) 0 0,o3 37 (.mov (.t 36)) 0 0,⟨o2 38 (.mov (.t 0)) 37 false,0,0⟩,⟨o2 39 (.mov (.t 5)) 37 false,0,0⟩,⟨o2 40 (.iaddr none 1 (.t 38) (.t 39)) 37 false,0,0⟩,⟨o2 41 (.load none (.t 40)) 37 false,0,0⟩,⟨o2 42 (.mov (.t 1)) 37 false,0,0⟩,⟨o2 43 (.mov (.t 5)) 37 false,0,0⟩,⟨o2 44 (.iaddr none 1 (.t 42) (.t 43)) 37 false,0,0⟩,⟨o2 45 (.load none (.t 44)) 37 false,0,0⟩,⟨o2 46 (.bin .lss (.t 41) (.t 45)) 37 false,0,0⟩,o3 47 (.pick (.t 37) (.c (.bool true)) (.t 46)) 0 0,o3 4 (.mov (.t 47)) 0 0])
 (.jump .ret)))))⟩
def TM:ACode:=.seq (.reg [o0 23 (.bin .lss (.t 22) (.t 21))])
 (.seq (.cond (.t 23) .skip
 (.jump (.exit 0)))
 (.seq (.block 1 (.seq (.reg [o0 24 (.iaddr none 1 (.t 20) (.t 22)),o0 25 (.load (some 1) (.t 24)),o0 10 (.alloc [.nilFunc]),o1 (.store 1 (.t 10) (.t 25))])
 (.seq (.reg [o0 26 (.faddr (.t 10) 0),o0 27 (.load none (.t 26)),o4 28 0,o0 29 (.load (some 2) (.t 7)),o0 30 (.call (.t 27) [.t 28,.t 29])])
 (.block 2 (.seq (.reg [o0 32 (.eql (.one .i) false (.t 30) (o5 2)),o4 31 32])
 (.cond (.t 31) (.seq (.reg [o0 6 (.mov (o5 2))])
 (.jump .ret))
 (.seq (.reg [o0 34 (.eql (.one .i) false (.t 30) (o5 0)),o4 33 34])
 (.cond (.t 33) (.reg [o0 8 (.mov (.c (.bool false)))])
 .skip))))))))
 (.reg [o0 35 (.bin .add (.t 22) (o5 1)),o4 22 35])))
def TQ:ACode:=.seq (.reg [o0 59 (.bin .lss (.t 58) (.t 57))])
 (.seq (.cond (.t 59) .skip
 (.jump (.exit 5)))
 (.seq (.block 6 (.seq (.reg [o0 60 (.iaddr none 1 (.t 56) (.t 58)),o0 61 (.load none (.t 60)),o4 14 61])
 (.seq (.reg [o4 62 0,o0 63 (.load (some 7) (.t 11)),o4 64 14,o4 65 2,o0 66 (.call (o6 234) [.t 62,.t 63,.t 64,.t 65]),o4 15 66])
 (.seq (.dreg [o3 67 (.mov (.t 15)) 0 0,o3 68 (.mov (.t 0)) 0 0,o3 69 (.nilCheck (.t 68)) 0 0,o3 70 (.faddr (.t 69) 0) 0 0,o3 71 (.faddr (.t 70) 1) 0 0,o3 72 (.load none (.t 71)) 0 0,o3 73 (.bin .geq (.t 67) (.t 72)) 0 0,o3 74 (.mov (.t 73)) 0 0,⟨o2 75 (.mov (.t 15)) 74 true,0,0⟩,⟨o2 76 (.mov (.t 0)) 74 true,0,0⟩,⟨o2 77 (.nilCheck (.t 76)) 74 true,0,0⟩,⟨o2 78 (.faddr (.t 77) 0) 74 true,0,0⟩,⟨o2 79 (.faddr (.t 78) 3) 74 true,0,0⟩,⟨o2 80 (.faddr (.t 79) 0) 74 true,0,0⟩,⟨o2 81 (.load none (.t 80)) 74 true,0,0⟩,⟨o2 82 (.bin .add (.t 75) (.t 81)) 74 true,0,0⟩,⟨o2 83 (.mov (.t 0)) 74 true,0,0⟩,⟨o2 84 (.nilCheck (.t 83)) 74 true,0,0⟩,⟨o2 85 (.faddr (.t 84) 0) 74 true,0,0⟩,⟨o2 86 (.faddr (.t 85) 2) 74 true,0,0⟩,⟨o2 87 (.load none (.t 86)) 74 true,0,0⟩,⟨o2 88 (.bin .leq (.t 82) (.t 87)) 74 true,0,0⟩,o3 89 (.pick (.t 74) (.t 88) (.c (.bool false))) 0 0])
 (.cond (.t 89) (.seq (.reg [o0 6 (.mov (o5 0))])
 (.jump .ret))
 .skip)))))
 (.reg [o0 90 (.bin .add (.t 58) (o5 1)),o4 58 90])))
def aBX:ACode:=.seq (.reg [o0 42 (.mnext (.t 41)),o0 43 (.ext (.t 42) 0)])
 (.seq (.cond (.t 43) .skip
 (.jump (.exit 3)))
 (.block 4 (.seq (.reg [o0 44 (.entry (.t 41)),o0 45 (.ext (.t 44) 0),o0 46 (.ext (.t 44) 1),o0 11 (.alloc [.int .i64 0,.int .i64 0,.int .i64 0,.int .i64 0,.int .i64 0,.int .i64 0,.int .i64 0]),o0 12 (.alloc [.int .i64 0,.int .i64 0,.int .i64 0,.int .i64 0]),o1 (.store 7 (.t 11) (.t 45)),o1 (.store 4 (.t 12) (.t 46))])
 (.seq (.dreg [o3 47 (.mov (.t 1)) 0 0,o3 48 (.iaddr (some 4) 1 (.t 12) (.t 47)) 0 0,o3 49 (.load none (.t 48)) 0 0,o3 50 (.mov (.t 0)) 0 0,o3 51 (.nilCheck (.t 50)) 0 0,o3 52 (.faddr (.t 51) 0) 0 0,o3 53 (.faddr (.t 52) 0) 0 0,o3 54 (.load none (.t 53)) 0 0,o3 55 (.len 1 (.t 54)) 0 0,o3 56 (.call (o6 117) [.t 49,.t 55]) 0 1,o3 57 (.len 1 (.t 56)) 1 1,o3 58 (.mov (o5 0)) 0 1])
 (.block 5 (.loop TQ))))))
def a204:AFunc:=⟨91,[.tmp 6],
 .seq (.reg [o0 6 (.mov (o5 0))])
 (.seq (.reg [o4 16 0,o4 17 1,o4 18 2,o0 19 (.call (o6 94) [.t 16,.t 17,.t 18]),o0 7 (.alloc [.int .i64 0,.int .i64 0]),o1 (.store 2 (.t 7) (.t 19)),o0 8 (.mov (.c (.bool true)))])
 (.seq (.seq (.reg [o0 20 (.call (o6 331) []),o0 21 (.len 1 (.t 20)),o0 22 (.mov (o5 0))])
 (.block 0 (.loop TM)))
 (.seq (.seq (.reg [o4 36 8])
 (.cond (.t 36) (.seq (.reg [o0 6 (.mov (o5 1))])
 (.jump .ret))
 .skip))
 (.seq (.seq (.reg [o4 37 0,o0 38 (.nilCheck (.t 37)),o0 39 (.faddr (.t 38) 8),o0 40 (.load none (.t 39)),o0 41 (.mrange (.t 40))])
 (.block 3 (.loop aBX)))
 (.seq (.reg [o0 6 (.mov (o5 2))])
 (.jump .ret))))))⟩
def SH:ACode:=.seq (.seq (.reg [o4 6 5,o4 7 0,o0 8 (.len 1 (.t 7)),o0 9 (.bin .lss (.t 6) (.t 8)),o4 10 9,o2 11 (.mov (.t 0)) 10 true,o2 12 (.mov (.t 5)) 10 true,o2 13 (.iaddr none 1 (.t 11) (.t 12)) 10 true,o2 14 (.load none (.t 13)) 10 true,o2 15 (.mov (.t 1)) 10 true,o2 16 (.eql (.one .s) true (.t 14) (.t 15)) 10 true,o0 17 (.pick (.t 10) (.t 16) (.c (.bool false)))])
 (.cond (.t 17) .skip
 (.jump (.exit 0))))
 (.block 1 (.reg [o4 18 5,o0 19 (.bin .add (.t 18) (o5 1)),o4 5 19]))
def a220:AFunc:=⟨25,[.tmp 4],
 .seq (.reg [o0 4 (.mov (o5 0))])
 (.seq (.reg [o0 5 (.mov (o5 0))])
 (.seq (.block 0 (.loop SH))
 (.seq (.seq (.reg [o4 20 5,o4 21 0,o0 22 (.len 1 (.t 21)),o0 23 (.eql (.one .i) false (.t 20) (.t 22))])
 (.cond (.t 23) (.seq (.reg [o0 4 (.mov (.c (.int .i64 (-1))))])
 (.jump .ret))
 .skip))
 (.seq (.reg [o4 24 5,o4 4 24])
 (.jump .ret)))))⟩
def UX:ACode:=.seq (.seq (.reg [o4 9 4,o4 10 0,o0 11 (.len 0 (.t 10)),o0 12 (.bin .lss (.t 9) (.t 11))])
 (.cond (.t 12) .skip
 (.jump (.exit 0))))
 (.seq (.block 1 (.seq (.reg [o4 15 4,o0 16 (.bin .gtr (.t 15) (o5 0)),o4 17 16,o2 18 (.mov (.t 0)) 17 true,o2 19 (.mov (.t 4)) 17 true,o2 20 (.sindex (.t 18) (.t 19)) 17 true,o2 21 (.eql (.one .i) false (.t 20) (.c (.int .u8 46))) 17 true,o2 22 (.mov (.t 21)) 17 true,o2 23 (.mov (.t 0)) 22 false,o2 24 (.mov (.t 4)) 22 false,o2 25 (.sindex (.t 23) (.t 24)) 22 false,o2 26 (.conv .i64 (.t 25)) 22 false,o2 27 (.call (o6 20) [(.t 26),(o5 48),(o5 57)]) 22 false,o2 28 (.pick (.t 22) (.c (.bool true)) (.t 27)) 17 true,o0 29 (.pick (.t 17) (.t 28) (.c (.bool false))),o4 5 29])
 (.reg [o4 30 3,o4 31 30,o2 32 (.mov (.t 0)) 31 true,o2 33 (.mov (.t 4)) 31 true,o2 34 (.sindex (.t 32) (.t 33)) 31 true,o2 35 (.conv .i64 (.t 34)) 31 true,o2 36 (.call (o6 20) [(.t 35),(o5 97),(o5 122)]) 31 true,o2 37 (.mov (.t 36)) 31 true,o2 38 (.mov (.t 5)) 37 false,o2 39 (.pick (.t 37) (.c (.bool true)) (.t 38)) 31 true,o0 40 (.pick (.t 31) (.t 39) (.c (.bool false))),o4 3 40])))
 (.reg [o4 13 4,o0 14 (.bin .add (.t 13) (o5 1)),o4 4 14]))
def a221:AFunc:=⟨42,[.tmp 2],
 .seq (.reg [o0 2 (.mov (.c (.bool false)))])
 (.seq (.reg [o4 6 0,o0 7 (.len 0 (.t 6)),o0 8 (.call (o6 20) [(.t 7),(o5 1),(o5 16)]),o4 3 8])
 (.seq (.seq (.reg [o0 4 (.mov (o5 0))])
 (.block 0 (.loop UX)))
 (.seq (.reg [o4 41 3,o4 2 41])
 (.jump .ret))))⟩
def a222:AFunc:=⟨1,[.tmp 0],
 .seq (.reg [o0 0 (.mov (o5 0))])
 (.seq (.reg [o0 0 (.mov (o5 0))])
 (.jump .ret))⟩
def a223:AFunc:=⟨67,[.tmp 2,.tmp 3,.tmp 4],
 .seq (.reg [o0 1 (.box 7 (.t 0)),o0 2 (.mov (o5 0)),o0 3 (.mov (o5 0)),o0 4 (.mov (o5 0))])
 (.seq (.seq (.reg [o0 5 (.faddr (.t 1) 0),o0 6 (.load none (.t 5)),o0 7 (.len 1 (.t 6)),o0 8 (.mklit 1 [.t 7]),o0 9 (.call (o6 232) [(o5 1),(o5 7),(.t 8)])])
 (.cond (.t 9) (.seq (.reg [o0 2 (.mov (o5 1)),o0 3 (.mov (o5 0)),o0 4 (.mov (o5 3))])
 (.jump .ret))
 .skip))
 (.seq (.seq (.reg [o0 11 (.faddr (.t 1) 0),o0 12 (.load none (.t 11)),o0 13 (.call (o6 344) [(.t 12),(o6 345)]),o4 10 13,o0 14 (.ext (.t 10) 0),o0 15 (.ext (.t 10) 1),o4 3 14,o4 4 15])
 (.seq (.reg [o4 16 4,o0 17 (.eql (.one .i) true (.t 16) (o5 0))])
 (.cond (.t 17) (.seq (.reg [o4 18 3,o4 19 4,o0 2 (.mov (o5 1)),o4 3 18,o4 4 19])
 (.jump .ret))
 .skip)))
 (.seq (.seq (.reg [o0 20 (.faddr (.t 1) 3),o0 21 (.load (some 2) (.t 20)),o0 22 (.call (o6 346) [(.t 21),(o5 0),(o5 9)]),o4 4 22])
 (.block 0 (.seq (.reg [o0 24 (.faddr (.t 1) 1),o0 25 (.load none (.t 24)),o0 26 (.faddr (.t 1) 2),o0 27 (.load none (.t 26)),o0 28 (.mklit 1 [.t 25,.t 27]),o0 29 (.call (o6 232) [(o5 0),(o5 30),(.t 28)]),o4 23 29])
 (.cond (.t 23) (.seq (.reg [o0 2 (.mov (o5 2)),o0 3 (.mov (o5 0)),o0 4 (.mov (o5 7))])
 (.jump .ret))
 (.seq (.reg [o4 31 4,o0 32 (.eql (.one .i) true (.t 31) (o5 0)),o4 30 32])
 (.cond (.t 30) (.seq (.reg [o4 33 4,o0 2 (.mov (o5 2)),o0 3 (.mov (o5 0)),o4 4 33])
 (.jump .ret))
 (.seq (.reg [o0 35 (.faddr (.t 1) 5),o0 36 (.load none (.t 35)),o0 37 (.len 1 (.t 36)),o0 38 (.bin .gtr (.t 37) (o5 4)),o4 34 38])
 (.cond (.t 34) (.seq (.reg [o0 2 (.mov (o5 3)),o0 3 (.mov (o5 0)),o0 4 (.mov (o5 3))])
 (.jump .ret))
 .skip))))))))
 (.seq (.reg [o0 40 (.faddr (.t 1) 5),o0 41 (.load none (.t 40)),o0 42 (.mkfun 348 [] [.t 1]),o0 43 (.call (o6 347) [.t 41,.t 42]),o4 39 43,o0 44 (.ext (.t 39) 0),o0 45 (.ext (.t 39) 1),o4 3 44,o4 4 45])
 (.seq (.block 1 (.seq (.reg [o4 47 4,o0 48 (.eql (.one .i) true (.t 47) (o5 0)),o4 46 48])
 (.cond (.t 46) (.seq (.reg [o4 49 3,o4 50 4,o0 2 (.mov (o5 3)),o4 3 49,o4 4 50])
 (.jump .ret))
 (.seq (.reg [o0 52 (.faddr (.t 1) 6),o0 53 (.load none (.t 52)),o0 54 (.len 1 (.t 53)),o0 55 (.bin .gtr (.t 54) (o5 4)),o4 51 55])
 (.cond (.t 51) (.seq (.reg [o0 2 (.mov (o5 4)),o0 3 (.mov (o5 0)),o0 4 (.mov (o5 3))])
 (.jump .ret))
 .skip)))))
 (.seq (.reg [o0 57 (.faddr (.t 1) 6),o0 58 (.load none (.t 57)),o0 59 (.mkfun 352 [] [.t 1]),o0 60 (.call (o6 351) [.t 58,.t 59]),o4 56 60,o0 61 (.ext (.t 56) 0),o0 62 (.ext (.t 56) 1),o4 3 61,o4 4 62])
 (.seq (.seq (.reg [o4 63 4,o0 64 (.eql (.one .i) true (.t 63) (o5 0))])
 (.cond (.t 64) (.seq (.reg [o4 65 3,o4 66 4,o0 2 (.mov (o5 4)),o4 3 65,o4 4 66])
 (.jump .ret))
 .skip))
 (.seq (.reg [o0 2 (.mov (o5 0)),o0 3 (.mov (o5 0)),o0 4 (.mov (o5 0))])
 (.jump .ret)))))))))⟩
def zE:ACode:=.block 1 (.seq (.reg [o0 18 (.load none (.t 5)),o0 19 (.load (some 7) (.t 6)),o0 20 (.call (o6 354) [.t 18,.t 19]),o4 17 20,o0 21 (.ext (.t 17) 0),o0 22 (.ext (.t 17) 1),o0 7 (.alloc [.int .i64 0,.int .i64 0,.int .i64 0,.int .i64 0]),o1 (.store 4 (.t 7) (.t 21)),o4 8 22])
 (.seq (.reg [o4 23 8])
 (.cond (.t 23) (.dreg [o3 24 (.load none (.t 5)) 0 0,o3 25 (.nilCheck (.t 24)) 0 0,o3 26 (.faddr (.t 25) 8) 0 0,o3 27 (.load none (.t 26)) 0 0,o3 28 (.load (some 7) (.t 6)) 0 0,o3 29 (.load (some 4) (.t 7)) 0 0,⟨o1 (.mapset (.agg [.i,.i,.i,.i,.i,.i,.i]) (.t 27) (.t 28) (.t 29)),0,1⟩])
 .skip)))
def a224:AFunc:=⟨31,[.tmp 4],
 .seq (.reg [o0 2 (.box 7 (.t 0)),o0 4 (.mov (.c (.nilPtr)))])
 (.seq (.reg [o0 9 (.load (some 7) (.t 2)),o4 10 1,o0 11 .mkmap,o0 12 (.build [.lit [] true none,.int .i64 0,.int .i64 0,.int .i64 0,.int .i64 0,.lit [] true none,.lit [] true none,.int .i64 0,.nilMap] [(0,7,(.t 9)),(7,1,(.t 10)),(8,1,(.t 11))]),o0 13 (.box 9 (.t 12)),o0 5 (.alloc [.nilPtr]),o1 (.store 1 (.t 5) (.t 13))])
 (.seq (.seq (.reg [o0 14 (.load none (.t 5)),o0 15 (.call (o6 353) [.t 14])])
 (.block 0 (.rangeFunc (.t 15) [16] (.reg [o0 6 (.alloc [.int .i64 0,.int .i64 0,.int .i64 0,.int .i64 0,.int .i64 0,.int .i64 0,.int .i64 0]),o1 (.store 7 (.t 6) (.t 16))])
 (zE))))
 (.seq (.reg [o0 30 (.load none (.t 5)),o4 4 30])
 (.jump .ret))))⟩
def a225:AFunc:=⟨10,[.cell 2 (some 2)],
 .seq (.reg [o0 1 (.box 2 (.t 0)),o0 2 (.alloc [.int .i64 0,.int .i64 0])])
 (.seq (.dreg [o3 3 (.faddr (.t 1) 0) 0 0,o3 4 (.load none (.t 3)) 0 0,o3 5 (.call (o6 355) [.t 4]) 0 1,o3 6 (.faddr (.t 1) 1) 0 1,o3 7 (.load none (.t 6)) 0 1,o3 8 (.call (o6 355) [.t 7]) 1 2,o3 9 (.build [.int .i64 0,.int .i64 0] [(0,1,(.t 5)),(1,1,(.t 8))]) 2 2,⟨o1 (.store 2 (.t 2) (.t 9)),2,3⟩])
 (.jump .ret))⟩
def a226:AFunc:=⟨20,[.tmp 2],
 .seq (.reg [o0 2 (.mov (o5 0))])
 (.seq (.block 0 (.seq (.reg [o0 4 (.load none (.t 0)),o0 5 (.len 1 (.t 4)),o0 6 (.faddr (.t 1) 0),o0 7 (.load none (.t 6)),o0 8 (.faddr (.t 1) 5),o0 9 (.load none (.t 8)),o0 10 (.len 1 (.t 9)),o0 11 (.bin .sub (.t 7) (.t 10)),o0 12 (.bin .gtr (.t 5) (.t 11)),o4 3 12])
 (.cond (.t 3) (.seq (.reg [o0 2 (.mov (o5 3))])
 (.jump .ret))
 (.seq (.reg [o0 14 (.faddr (.t 1) 3),o0 15 (.load none (.t 14)),o0 16 (.len 1 (.t 15)),o0 17 (.bin .sub (.t 16) (o5 1)),o0 18 (.load none (.t 0)),o0 19 (.call (o6 227) [(o5 0),(.t 17),(.t 18)]),o4 13 19])
 (.cond (.t 13) (.seq (.reg [o0 2 (.mov (o5 4))])
 (.jump .ret))
 .skip)))))
 (.seq (.reg [o0 2 (.mov (o5 0))])
 (.jump .ret)))⟩
def a227:AFunc:=⟨10,[.tmp 6],
 .seq (.reg [o0 3 (.box 1 (.t 0)),o0 4 (.box 1 (.t 1)),o0 6 (.mov (.c (.bool false)))])
 (.seq (.reg [o4 7 2,o0 8 (.mkfun 357 [] [.t 3,.t 4]),o0 9 (.call (o6 356) [.t 7,.t 8]),o4 6 9])
 (.jump .ret))⟩
def a228:AFunc:=⟨16,[.cell 4 (some 2)],
 .seq (.reg [o0 2 (.box 2 (.t 0)),o0 3 (.box 2 (.t 1)),o0 4 (.alloc [.int .i64 0,.int .i64 0])])
 (.seq (.reg [o0 5 (.faddr (.t 2) 0),o0 6 (.load none (.t 5)),o0 7 (.faddr (.t 3) 0),o0 8 (.load none (.t 7)),o0 9 (.bin .add (.t 6) (.t 8)),o0 10 (.faddr (.t 2) 1),o0 11 (.load none (.t 10)),o0 12 (.faddr (.t 3) 1),o0 13 (.load none (.t 12)),o0 14 (.bin .add (.t 11) (.t 13)),o0 15 (.build [.int .i64 0,.int .i64 0] [(0,1,(.t 9)),(1,1,(.t 14))]),o1 (.store 2 (.t 4) (.t 15))])
 (.jump .ret))⟩
def HN:ACode:=.seq (.reg [o0 10 (.bin .lss (.t 9) (.t 8))])
 (.seq (.cond (.t 10) .skip
 (.jump (.exit 0)))
 (.seq (.block 1 (.seq (.reg [o0 11 (.iaddr none 2 (.t 7) (.t 9)),o0 12 (.load (some 2) (.t 11)),o0 6 (.alloc [.int .i64 0,.nilFunc]),o1 (.store 2 (.t 6) (.t 12))])
 (.seq (.reg [o0 13 (.faddr (.t 6) 1),o0 14 (.load none (.t 13)),o0 15 (.load (some 7) (.t 1)),o0 16 (.call (.t 14) [.t 15]),o0 17 (.not (.t 16))])
 (.cond (.t 17) (.seq (.dreg [o3 18 (.faddr (.t 6) 0) 0 0,o3 19 (.load none (.t 18)) 0 0,o3 2 (.mov (o5 1)) 0 0,o3 3 (.mov (o5 0)) 0 0,o3 4 (.mov (.t 19)) 0 0])
 (.jump .ret))
 .skip))))
 (.reg [o0 20 (.bin .add (.t 9) (o5 1)),o4 9 20])))
def a229:AFunc:=⟨56,[.tmp 2,.tmp 3,.tmp 4],
 .seq (.reg [o0 1 (.box 7 (.t 0)),o0 2 (.mov (o5 0)),o0 3 (.mov (o5 0)),o0 4 (.mov (o5 0))])
 (.seq (.seq (.reg [o0 7 (.call (o6 358) []),o0 8 (.len 1 (.t 7)),o0 9 (.mov (o5 0))])
 (.block 0 (.loop HN)))
 (.seq (.reg [o0 22 (.faddr (.t 1) 3),o0 23 (.load none (.t 22)),o0 24 (.mkfun 360 [] [.t 1]),o0 25 (.call (o6 359) [(.t 23),(o5 1),(o5 4),(.t 24)]),o4 21 25,o0 26 (.ext (.t 21) 0),o0 27 (.ext (.t 21) 1),o4 3 26,o4 4 27])
 (.seq (.seq (.reg [o4 28 4,o0 29 (.eql (.one .i) true (.t 28) (o5 0))])
 (.cond (.t 29) (.seq (.reg [o4 30 3,o4 31 4,o0 2 (.mov (o5 2)),o4 3 30,o4 4 31])
 (.jump .ret))
 .skip))
 (.seq (.reg [o0 33 (.faddr (.t 1) 5),o0 34 (.load none (.t 33)),o0 35 (.faddr (.t 1) 0),o0 36 (.load none (.t 35)),o0 37 (.mkfun 364 [] [.t 1]),o0 38 (.call (o6 363) [(.t 34),(o5 0),(.t 36),(.t 37)]),o4 32 38,o0 39 (.ext (.t 32) 0),o0 40 (.ext (.t 32) 1),o4 3 39,o4 4 40])
 (.seq (.seq (.reg [o4 41 4,o0 42 (.eql (.one .i) true (.t 41) (o5 0))])
 (.cond (.t 42) (.seq (.reg [o4 43 3,o4 44 4,o0 2 (.mov (o5 3)),o4 3 43,o4 4 44])
 (.jump .ret))
 .skip))
 (.seq (.reg [o0 46 (.faddr (.t 1) 6),o0 47 (.load none (.t 46)),o0 48 (.mkfun 366 [] [.t 1]),o0 49 (.call (o6 365) [(.t 47),(o5 0),(o5 4),(.t 48)]),o4 45 49,o0 50 (.ext (.t 45) 0),o0 51 (.ext (.t 45) 1),o4 3 50,o4 4 51])
 (.seq (.seq (.reg [o4 52 4,o0 53 (.eql (.one .i) true (.t 52) (o5 0))])
 (.cond (.t 53) (.seq (.reg [o4 54 3,o4 55 4,o0 2 (.mov (o5 4)),o4 3 54,o4 4 55])
 (.jump .ret))
 .skip))
 (.seq (.reg [o0 2 (.mov (o5 0)),o0 3 (.mov (o5 0)),o0 4 (.mov (o5 0))])
 (.jump .ret)))))))))⟩
def LC:ACode:=.seq (.reg [o0 56 (.bin .lss (.t 55) (.t 54))])
 (.seq (.cond (.t 56) .skip
 (.jump (.exit 2)))
 (.seq (.block 3 (.seq (.reg [o4 57 55,o0 58 (.iaddr none 2 (.t 53) (.t 55)),o0 59 (.load (some 2) (.t 58)),o0 11 (.alloc [.int .i64 0,.int .i64 0]),o4 10 57,o1 (.store 2 (.t 11) (.t 59))])
 (.seq (.reg [o0 60 (.faddr (.t 11) 0),o0 61 (.load none (.t 60)),o4 62 8,o0 63 (.eql (.one .i) false (.t 61) (.t 62)),o4 64 63,o2 65 (.mov (.t 1)) 64 true,o2 66 (.mov (.t 10)) 64 true,o2 67 (.bin .shr (.t 65) (.t 66)) 64 true,o2 68 (.bin .and (.t 67) (o5 1)) 64 true,o2 69 (.eql (.one .i) false (.t 68) (o5 0)) 64 true,o0 70 (.pick (.t 64) (.t 69) (.c (.bool false)))])
 (.cond (.t 70) (.dreg [o3 71 (.load (some 2) (.t 9)) 0 1,o3 72 (.faddr (.t 11) 1) 0 0,o3 73 (.load none (.t 72)) 0 0,o3 74 (.call (o6 368) [.t 73]) 0 1,o3 75 (.call (o6 367) [.t 71,.t 74]) 1 2,⟨o1 (.store 2 (.t 9) (.t 75)),2,3⟩])
 .skip))))
 (.reg [o0 76 (.bin .add (.t 55) (o5 1)),o4 55 76])))
def K9:ACode:=.seq (.reg [o0 27 (.bin .lss (.t 26) (.t 25))])
 (.seq (.cond (.t 27) .skip
 (.jump (.exit 0)))
 (.seq (.block 1 (.seq (.reg [o4 28 26,o4 8 28])
 (.seq (.reg [o0 29 (.faddr (.t 2) 1),o0 30 (.load (some 2) (.t 29)),o0 9 (.alloc [.int .i64 0,.int .i64 0]),o1 (.store 2 (.t 9) (.t 30))])
 (.seq (.seq (.reg [o4 31 8,o0 32 (.bin .gtr (.t 31) (o5 0))])
 (.cond (.t 32) (.dreg [o3 33 (.mov (.t 6)) 0 0,o3 34 (.mov (.t 8)) 0 0,o3 35 (.bin .sub (.t 34) (o5 1)) 0 0,o3 36 (.nilCheck (.t 33)) 0 0,o3 37 (.faddr (.t 36) 7) 0 0,o3 38 (.iaddr (some 7) 2 (.t 37) (.t 35)) 0 0,o3 39 (.load (some 2) (.t 38)) 0 0,o3 40 (.faddr (.t 2) 3) 0 0,o3 41 (.load none (.t 40)) 0 0,o3 42 (.faddr (.t 2) 5) 0 0,o3 43 (.load none (.t 42)) 0 0,o3 44 (.mov (.t 8)) 0 0,o3 45 (.bin .sub (.t 44) (o5 1)) 0 0,o3 46 (.iaddr none 1 (.t 43) (.t 45)) 0 0,o3 47 (.load none (.t 46)) 0 0,o3 48 (.iaddr none 3 (.t 41) (.t 47)) 0 0,o3 49 (.faddr (.t 48) 1) 0 0,o3 50 (.load (some 2) (.t 49)) 0 0,o3 51 (.call (o6 228) [.t 39,.t 50]) 0 1,⟨o1 (.store 2 (.t 9) (.t 51)),1,2⟩])
 .skip))
 (.seq (.seq (.reg [o0 52 (.faddr (.t 2) 6),o0 53 (.load none (.t 52)),o0 54 (.len 1 (.t 53)),o0 55 (.mov (o5 0))])
 (.block 2 (.loop LC)))
 (.seq (.seq (.reg [o0 77 (.faddr (.t 9) 0),o0 78 (.load none (.t 77)),o0 79 (.faddr (.t 9) 1),o0 80 (.load none (.t 79)),o0 81 (.bin .gtr (.t 78) (.t 80))])
 (.cond (.t 81) (.seq (.reg [o4 82 6,o4 4 82,o0 5 (.mov (.c (.bool false)))])
 (.jump .ret))
 .skip))
 (.dreg [o3 83 (.mov (.t 6)) 0 0,o3 84 (.mov (.t 8)) 0 0,o3 85 (.load (some 2) (.t 9)) 0 0,o3 86 (.nilCheck (.t 83)) 0 0,o3 87 (.faddr (.t 86) 7) 0 0,o3 88 (.iaddr (some 7) 2 (.t 87) (.t 84)) 0 0,⟨o1 (.store 2 (.t 88) (.t 85)),0,1⟩])))))))
 (.reg [o0 89 (.bin .add (.t 26) (o5 1)),o4 26 89])))
def ME:ACode:=.seq (.reg [o0 103 (.bin .lss (.t 102) (.t 101))])
 (.seq (.cond (.t 103) .skip
 (.jump (.exit 6)))
 (.seq (.block 7 (.seq (.reg [o4 104 102,o4 13 104])
 (.seq (.dreg [o3 105 (.faddr (.t 2) 3) 0 0,o3 106 (.load none (.t 105)) 0 0,o3 107 (.faddr (.t 2) 5) 0 0,o3 108 (.load none (.t 107)) 0 0,o3 109 (.mov (.t 13)) 0 0,o3 110 (.iaddr none 1 (.t 108) (.t 109)) 0 0,o3 111 (.load none (.t 110)) 0 0,o3 112 (.iaddr none 3 (.t 106) (.t 111)) 0 0,o3 113 (.faddr (.t 112) 1) 0 0,o3 114 (.load (some 2) (.t 113)) 0 0,o3 14 (.alloc [.int .i64 0,.int .i64 0]) 0 0,⟨o1 (.store 2 (.t 14) (.t 114)),0,1⟩])
 (.seq (.dreg [o3 115 (.mov (.t 6)) 0 0,o3 116 (.mov (.t 13)) 0 0,o3 117 (.bin .add (.t 116) (o5 1)) 0 0,o3 118 (.nilCheck (.t 115)) 0 0,o3 119 (.faddr (.t 118) 7) 0 0,o3 120 (.iaddr (some 7) 2 (.t 119) (.t 117)) 0 0,o3 121 (.faddr (.t 120) 0) 0 0,o3 122 (.load none (.t 121)) 0 0,o3 123 (.faddr (.t 14) 1) 0 0,o3 124 (.load none (.t 123)) 0 0,o3 125 (.bin .sub (.t 122) (.t 124)) 0 0,o3 126 (.mov (.t 6)) 0 0,o3 127 (.mov (.t 13)) 0 0,o3 128 (.bin .add (.t 127) (o5 1)) 0 0,o3 129 (.nilCheck (.t 126)) 0 0,o3 130 (.faddr (.t 129) 7) 0 0,o3 131 (.iaddr (some 7) 2 (.t 130) (.t 128)) 0 0,o3 132 (.faddr (.t 131) 1) 0 0,o3 133 (.load none (.t 132)) 0 0,o3 134 (.faddr (.t 14) 0) 0 0,o3 135 (.load none (.t 134)) 0 0,o3 136 (.bin .sub (.t 133) (.t 135)) 0 0,o3 137 (.build [.int .i64 0,.int .i64 0] [(0,1,(.t 125)),(1,1,(.t 136))]) 0 0,o3 15 (.alloc [.int .i64 0,.int .i64 0]) 0 0,⟨o1 (.store 2 (.t 15) (.t 137)),0,1⟩])
 (.seq (.dreg [o3 138 (.mov (.t 6)) 0 0,o3 139 (.mov (.t 13)) 0 0,o3 140 (.nilCheck (.t 138)) 0 0,o3 141 (.faddr (.t 140) 7) 0 0,o3 142 (.iaddr (some 7) 2 (.t 141) (.t 139)) 0 0,o3 143 (.load (some 2) (.t 142)) 0 0,o3 144 (.load (some 2) (.t 15)) 0 0,o3 145 (.call (o6 367) [.t 143,.t 144]) 0 1,o3 16 (.alloc [.int .i64 0,.int .i64 0]) 0 1,⟨o1 (.store 2 (.t 16) (.t 145)),1,2⟩])
 (.seq (.dreg [o3 146 (.load (some 2) (.t 16)) 0 0,o3 147 (.mov (.t 6)) 0 0,o3 148 (.mov (.t 13)) 0 0,o3 149 (.nilCheck (.t 147)) 0 0,o3 150 (.faddr (.t 149) 7) 0 0,o3 151 (.iaddr (some 7) 2 (.t 150) (.t 148)) 0 0,o3 152 (.load (some 2) (.t 151)) 0 0,o3 153 (.eql (.agg [.i,.i]) true (.t 146) (.t 152)) 0 0])
 (.cond (.t 153) (.dreg [o3 154 (.mov (.t 6)) 0 0,o3 155 (.mov (.t 13)) 0 0,o3 156 (.load (some 2) (.t 16)) 0 0,o3 157 (.nilCheck (.t 154)) 0 0,o3 158 (.faddr (.t 157) 7) 0 0,o3 159 (.iaddr (some 7) 2 (.t 158) (.t 155)) 0 0,⟨o1 (.store 2 (.t 159) (.t 156)),0,1⟩])
 .skip)))))))
 (.reg [o0 160 (.bin .add (.t 102) (o5 1)),o4 102 160])))
def LP:ACode:=.seq (.seq (.dreg [o3 91 (.load (some 14) (.t 12)) 0 0,o3 92 (.mov (.t 6)) 0 0,o3 93 (.nilCheck (.t 92)) 0 0,o3 94 (.faddr (.t 93) 7) 0 0,o3 95 (.load (some 14) (.t 94)) 0 0,o3 96 (.eql (.agg [.i,.i,.i,.i,.i,.i,.i,.i,.i,.i,.i,.i,.i,.i]) true (.t 91) (.t 95)) 0 0])
 (.cond (.t 96) .skip
 (.jump (.exit 4))))
 (.seq (.block 5 (.seq (.reg [o4 97 6,o0 98 (.nilCheck (.t 97)),o0 99 (.faddr (.t 98) 7),o0 100 (.load (some 14) (.t 99)),o1 (.store 14 (.t 12) (.t 100))])
 (.seq (.reg [o4 101 7,o0 102 (.mov (o5 0))])
 (.block 6 (.loop ME)))))
 (.seq (.reg [o0 161 (.load (some 14) (.t 12))])
 (.reg [o0 12 (.alloc [.int .i64 0,.int .i64 0,.int .i64 0,.int .i64 0,.int .i64 0,.int .i64 0,.int .i64 0,.int .i64 0,.int .i64 0,.int .i64 0,.int .i64 0,.int .i64 0,.int .i64 0,.int .i64 0]),o1 (.store 14 (.t 12) (.t 161))])))
def a230:AFunc:=⟨163,[.tmp 4,.tmp 5],
 .seq (.reg [o0 2 (.box 7 (.t 0)),o0 4 (.mov (.c (.nilPtr))),o0 5 (.mov (.c (.bool false)))])
 (.seq (.reg [o0 17 (.load (some 7) (.t 2)),o0 18 .mkmap,o0 19 (.build [.int .i64 0,.int .i64 0,.int .i64 0,.lit [] true none,.int .i64 0,.lit [] true none,.lit [] true none,.int .i64 0,.int .i64 0,.int .i64 0,.int .i64 0,.int .i64 0,.int .i64 0,.int .i64 0,.int .i64 0,.int .i64 0,.int .i64 0,.int .i64 0,.int .i64 0,.int .i64 0,.int .i64 0,.nilMap] [(0,7,(.t 17)),(21,1,(.t 18))]),o0 20 (.box 22 (.t 19)),o4 6 20])
 (.seq (.reg [o0 21 (.faddr (.t 2) 5),o0 22 (.load none (.t 21)),o0 23 (.len 1 (.t 22)),o4 7 23])
 (.seq (.seq (.reg [o4 24 7,o0 25 (.bin .add (.t 24) (o5 1)),o0 26 (.mov (o5 0))])
 (.block 0 (.loop K9)))
 (.seq (.seq (.reg [o0 90 (.build [.int .i64 0,.int .i64 0,.int .i64 0,.int .i64 0,.int .i64 0,.int .i64 0,.int .i64 0,.int .i64 0,.int .i64 0,.int .i64 0,.int .i64 0,.int .i64 0,.int .i64 0,.int .i64 0] []),o0 12 (.alloc [.int .i64 0,.int .i64 0,.int .i64 0,.int .i64 0,.int .i64 0,.int .i64 0,.int .i64 0,.int .i64 0,.int .i64 0,.int .i64 0,.int .i64 0,.int .i64 0,.int .i64 0,.int .i64 0]),o1 (.store 14 (.t 12) (.t 90))])
 (.block 4 (.loop LP)))
 (.seq (.reg [o4 162 6,o4 4 162,o0 5 (.mov (.c (.bool true)))])
 (.jump .ret))))))⟩
def R6:ACode:=.seq (.reg [o0 8 (.bin .lss (.t 7) (.t 6))])
 (.seq (.cond (.t 8) .skip
 (.jump (.exit 0)))
 (.seq (.block 1 (.seq (.reg [o4 9 7,o4 5 9])
 (.seq (.reg [o4 10 0,o4 11 5,o0 12 (.bin .shr (.t 10) (.t 11)),o0 13 (.bin .and (.t 12) (o5 1)),o0 14 (.eql (.one .i) false (.t 13) (o5 1))])
 (.cond (.t 14) (.reg [o4 15 4,o4 16 5,o0 17 (.mklit 1 [.t 16]),o0 18 (.append 1 8 (.t 15) (.t 17)),o4 4 18])
 .skip))))
 (.reg [o0 19 (.bin .add (.t 7) (o5 1)),o4 7 19])))
def a231:AFunc:=⟨21,[.tmp 4],
 .seq (.reg [o0 4 (.mov (.c (.lit [] true none)))])
 (.seq (.seq (.reg [o4 6 1,o0 7 (.mov (o5 0))])
 (.block 0 (.loop R6)))
 (.seq (.reg [o4 20 4,o4 4 20])
 (.jump .ret)))⟩
def a232:AFunc:=⟨10,[.tmp 6],
 .seq (.reg [o0 3 (.box 1 (.t 0)),o0 4 (.box 1 (.t 1)),o0 6 (.mov (.c (.bool false)))])
 (.seq (.reg [o4 7 2,o0 8 (.mkfun 369 [] [.t 3,.t 4]),o0 9 (.call (o6 356) [.t 7,.t 8]),o4 6 9])
 (.jump .ret))⟩
def RF:ACode:=.seq (.seq (.reg [o4 3 2,o0 4 (.bin .add (.t 3) (o5 1)),o0 5 (.load none (.t 0)),o0 6 (.len 1 (.t 5)),o0 7 (.bin .lss (.t 4) (.t 6))])
 (.cond (.t 7) .skip
 (.jump (.exit 0))))
 (.seq (.block 1 (.seq (.dreg [o3 10 (.load none (.t 0)) 0 0,o3 11 (.mov (.t 2)) 0 0,o3 12 (.bin .add (.t 11) (o5 1)) 0 0,o3 13 (.iaddr none 1 (.t 10) (.t 12)) 0 0,o3 14 (.load none (.t 13)) 0 0,o3 15 (.load none (.t 0)) 0 0,o3 16 (.mov (.t 2)) 0 0,o3 17 (.iaddr none 1 (.t 15) (.t 16)) 0 0,o3 18 (.load none (.t 17)) 0 0,o3 19 (.mklit 1 [.t 18]) 0 0,o3 20 (.call (o6 232) [(o5 0),(.t 14),(.t 19)]) 0 1])
 (.cond (.t 20) (.seq (.reg [o0 1 (.mov (o5 7))])
 (.jump .ret))
 .skip)))
 (.reg [o4 8 2,o0 9 (.bin .add (.t 8) (o5 2)),o4 2 9]))
def a233:AFunc:=⟨21,[.tmp 1],
 .seq (.reg [o0 1 (.mov (o5 0))])
 (.seq (.seq (.reg [o0 2 (.mov (o5 0))])
 (.block 0 (.loop RF)))
 (.seq (.reg [o0 1 (.mov (o5 0))])
 (.jump .ret)))⟩
def SR:ACode:=.seq (.reg [o0 18 (.bin .lss (.t 17) (.t 16))])
 (.seq (.cond (.t 18) .skip
 (.jump (.exit 0)))
 (.seq (.block 1 (.seq (.reg [o0 19 (.iaddr none 1 (.t 15) (.t 17)),o0 20 (.load none (.t 19)),o4 10 20])
 (.reg [o4 21 8,o4 22 10,o0 23 (.bin .add (o5 1) (.t 22)),o0 24 (.bin .add (.t 21) (.t 23)),o4 8 24])))
 (.reg [o0 25 (.bin .add (.t 17) (o5 1)),o4 17 25])))
def a234:AFunc:=⟨27,[.tmp 8],
 .seq (.reg [o0 5 (.box 7 (.t 1)),o0 8 (.mov (o5 0))])
 (.seq (.seq (.reg [o4 11 2,o4 12 3,o0 13 (.min [.t 11,.t 12]),o4 14 3,o0 15 (.slicea 7 1 (.t 5) (some (.t 13)) (some (.t 14))),o0 16 (.len 1 (.t 15)),o0 17 (.mov (o5 0))])
 (.block 0 (.loop SR)))
 (.seq (.reg [o4 26 8,o4 8 26])
 (.jump .ret)))⟩
def VQ:ACode:=.seq (.seq (.reg [o4 3 2,o0 4 (.bin .add (.t 3) (o5 2)),o0 5 (.load none (.t 0)),o0 6 (.len 1 (.t 5)),o0 7 (.bin .lss (.t 4) (.t 6))])
 (.cond (.t 7) .skip
 (.jump (.exit 0))))
 (.seq (.block 1 (.seq (.dreg [o3 10 (.load none (.t 0)) 0 0,o3 11 (.mov (.t 2)) 0 0,o3 12 (.bin .add (.t 11) (o5 1)) 0 0,o3 13 (.iaddr none 1 (.t 10) (.t 12)) 0 0,o3 14 (.load none (.t 13)) 0 0,o3 15 (.load none (.t 0)) 0 0,o3 16 (.mov (.t 2)) 0 0,o3 17 (.bin .add (.t 16) (o5 2)) 0 0,o3 18 (.iaddr none 1 (.t 15) (.t 17)) 0 0,o3 19 (.load none (.t 18)) 0 0,o3 20 (.load none (.t 0)) 0 0,o3 21 (.mov (.t 2)) 0 0,o3 22 (.iaddr none 1 (.t 20) (.t 21)) 0 0,o3 23 (.load none (.t 22)) 0 0,o3 24 (.mklit 1 [.t 23]) 0 0,o3 25 (.call (o6 227) [.t 14,.t 19,.t 24]) 0 1])
 (.cond (.t 25) (.seq (.reg [o0 1 (.mov (o5 7))])
 (.jump .ret))
 .skip)))
 (.reg [o4 8 2,o0 9 (.bin .add (.t 8) (o5 3)),o4 2 9]))
def a235:AFunc:=⟨26,[.tmp 1],
 .seq (.reg [o0 1 (.mov (o5 0))])
 (.seq (.seq (.reg [o0 2 (.mov (o5 0))])
 (.block 0 (.loop VQ)))
 (.seq (.reg [o0 1 (.mov (o5 0))])
 (.jump .ret)))⟩
def a236:AFunc:=⟨17,[.tmp 5],
 .seq (.reg [o0 4 (.box 6 (.t 0)),o0 5 (.mov (.c (.bool false)))])
 (.seq (.dreg [o3 6 (.load (some 2) (.t 1)) 0 1,o3 7 (.load none (.t 2)) 0 0,o3 8 (.faddr (.t 4) 1) 0 0,o3 9 (.load (some 4) (.t 8)) 0 0,o3 10 (.call (o6 237) [.t 7,.t 9]) 0 1,o3 11 (.call (o6 228) [.t 6,.t 10]) 1 2,o3 12 (.call (o6 225) [.t 11]) 2 3,o3 13 (.load none (.t 3)) 0 3,o3 14 (.load none (.t 3)) 0 3,o3 15 (.build [.int .i64 0,.int .i64 0] [(0,1,(.t 13)),(1,1,(.t 14))]) 0 3,o3 16 (.eql (.agg [.i,.i]) false (.t 12) (.t 15)) 3 3,o3 5 (.mov (.t 16)) 3 3])
 (.jump .ret))⟩
def UH:ACode:=.seq (.reg [o0 28 (.bin .lss (.t 27) (.t 26))])
 (.seq (.cond (.t 28) .skip
 (.jump (.exit 0)))
 (.seq (.block 1 (.seq (.reg [o4 29 27,o0 30 (.iaddr none 3 (.t 25) (.t 27)),o0 31 (.load (some 3) (.t 30)),⟨some 9,.alloc [.str ⟨#[]⟩,.int .i64 0,.int .i64 0],none⟩,o4 8 29,o1 (.store 3 (.t 9) (.t 31))])
 (.dreg [o3 32 (.load (some 2) (.t 7)) 0 0,o3 33 (.mov (.t 8)) 0 0,o3 34 (.iaddr (some 4) 1 (.t 3) (.t 33)) 0 0,o3 35 (.load none (.t 34)) 0 0,o3 36 (.faddr (.t 9) 1) 0 0,o3 37 (.faddr (.t 36) 0) 0 0,o3 38 (.load none (.t 37)) 0 0,o3 39 (.bin .mul (.t 35) (.t 38)) 0 0,o3 40 (.mov (.t 8)) 0 0,o3 41 (.iaddr (some 4) 1 (.t 3) (.t 40)) 0 0,o3 42 (.load none (.t 41)) 0 0,o3 43 (.faddr (.t 9) 1) 0 0,o3 44 (.faddr (.t 43) 1) 0 0,o3 45 (.load none (.t 44)) 0 0,o3 46 (.bin .mul (.t 42) (.t 45)) 0 0,o3 47 (.build [.int .i64 0,.int .i64 0] [(0,1,(.t 39)),(1,1,(.t 46))]) 0 0,o3 48 (.call (o6 228) [.t 32,.t 47]) 0 1,⟨o1 (.store 2 (.t 7) (.t 48)),1,2⟩])))
 (.reg [o0 49 (.bin .add (.t 27) (o5 1)),o4 27 49])))
def a237:AFunc:=⟨57,[.cell 4 (some 2)],
 .seq (.reg [o0 3 (.box 4 (.t 1)),o0 4 (.alloc [.int .i64 0,.int .i64 0])])
 (.seq (.seq (.dreg [o3 11 (.mov (.t 0)) 0 0,o3 12 (.nilCheck (.t 11)) 0 0,o3 13 (.faddr (.t 12) 21) 0 0,o3 14 (.load none (.t 13)) 0 0,o3 15 (.load (some 4) (.t 3)) 0 0,o3 16 (.lookup (.agg [.i,.i,.i,.i]) true (.agg [.int .i64 0,.int .i64 0]) (.t 14) (.t 15)) 0 0,o3 10 (.mov (.t 16)) 0 0,o3 17 (.ext (.t 10) 0) 0 0,o3 18 (.ext (.t 10) 1) 0 1,o3 5 (.alloc [.int .i64 0,.int .i64 0]) 0 0,⟨o1 (.store 2 (.t 5) (.t 17)),0,1⟩,o3 6 (.mov (.t 18)) 1 1])
 (.seq (.reg [o4 19 6])
 (.cond (.t 19) (.seq (.reg [o0 20 (.load (some 2) (.t 5)),o1 (.store 2 (.t 4) (.t 20))])
 (.jump .ret))
 .skip)))
 (.seq (.reg [o0 7 (.alloc [.int .i64 0,.int .i64 0])])
 (.seq (.seq (.reg [o4 21 0,o0 22 (.nilCheck (.t 21)),o0 23 (.faddr (.t 22) 0),o0 24 (.faddr (.t 23) 3),o0 25 (.load none (.t 24)),o0 26 (.len 1 (.t 25)),o0 27 (.mov (o5 0))])
 (.block 0 (.loop UH)))
 (.seq (.dreg [o3 50 (.mov (.t 0)) 0 0,o3 51 (.nilCheck (.t 50)) 0 0,o3 52 (.faddr (.t 51) 21) 0 0,o3 53 (.load none (.t 52)) 0 0,o3 54 (.load (some 4) (.t 3)) 0 0,o3 55 (.load (some 2) (.t 7)) 0 0,⟨o1 (.mapset (.agg [.i,.i,.i,.i]) (.t 53) (.t 54) (.t 55)),0,1⟩])
 (.seq (.reg [o0 56 (.load (some 2) (.t 7)),o1 (.store 2 (.t 4) (.t 56))])
 (.jump .ret))))))⟩
def a238:AFunc:=⟨10,[.tmp 8],
 .seq (.reg [o0 4 (.box 1 (.t 0)),o0 5 (.box 1 (.t 1)),o0 6 (.box 1 (.t 2)),o0 7 (.box 1 (.t 3)),o0 8 (.mov (.c (.nilFunc)))])
 (.seq (.reg [o0 9 (.mkfun 370 [] [.t 6,.t 7,.t 4,.t 5]),o4 8 9])
 (.jump .ret))⟩
def a244:AFunc:=⟨10,[.tmp 6],
 .seq (.reg [o0 3 (.box 1 (.t 0)),o0 4 (.box 1 (.t 1)),o0 6 (.mov (.c (.bool false)))])
 (.seq (.reg [o4 7 2,o0 8 (.mkfun 378 [] [.t 3,.t 4]),o0 9 (.call (o6 356) [.t 7,.t 8]),o4 6 9])
 (.jump .ret))⟩
def a254:AFunc:=⟨20,[.tmp 4],
 .seq (.reg [o0 4 (.mov (o5 0))])
 (.seq (.reg [o4 7 0,o0 8 (.call (o6 386) [.t 7]),o4 5 8])
 (.seq (.reg [o4 9 1,o0 10 (.call (o6 386) [.t 9]),o4 6 10])
 (.seq (.seq (.reg [o4 11 5])
 (.cond (.t 11) (.seq (.seq (.reg [o4 12 6])
 (.cond (.t 12) (.seq (.reg [o0 4 (.mov (o5 0))])
 (.jump .ret))
 .skip))
 (.seq (.reg [o0 4 (.mov (.c (.int .i64 (-1))))])
 (.jump .ret)))
 .skip))
 (.seq (.seq (.reg [o4 13 6])
 (.cond (.t 13) (.seq (.reg [o0 4 (.mov (o5 1))])
 (.jump .ret))
 .skip))
 (.seq (.seq (.reg [o4 14 0,o4 15 1,o0 16 (.bin .lss (.t 14) (.t 15))])
 (.cond (.t 16) (.seq (.reg [o0 4 (.mov (.c (.int .i64 (-1))))])
 (.jump .ret))
 .skip))
 (.seq (.seq (.reg [o4 17 0,o4 18 1,o0 19 (.bin .gtr (.t 17) (.t 18))])
 (.cond (.t 19) (.seq (.reg [o0 4 (.mov (o5 1))])
 (.jump .ret))
 .skip))
 (.seq (.reg [o0 4 (.mov (o5 0))])
 (.jump .ret))))))))⟩
def KU:ACode:=.seq (.reg [o0 9 (.bin .lss (.t 8) (.t 7))])
 (.seq (.cond (.t 9) .skip
 (.jump (.exit 0)))
 (.seq (.block 1 (.seq (.reg [o4 10 8,o4 5 10])
 (.seq (.reg [o4 11 1,o4 12 0,o4 13 5,o0 14 (.iaddr none 1 (.t 12) (.t 13)),o0 15 (.load none (.t 14)),o0 16 (.call (.t 11) [.t 15])])
 (.cond (.t 16) (.seq (.reg [o4 17 5,o4 4 17])
 (.jump .ret))
 .skip))))
 (.reg [o0 18 (.bin .add (.t 8) (o5 1)),o4 8 18])))
def a257:AFunc:=⟨19,[.tmp 4],
 .seq (.reg [o0 4 (.mov (o5 0))])
 (.seq (.seq (.reg [o4 6 0,o0 7 (.len 1 (.t 6)),o0 8 (.mov (o5 0))])
 (.block 0 (.loop KU)))
 (.seq (.reg [o0 4 (.mov (.c (.int .i64 (-1))))])
 (.jump .ret)))⟩
def a331:AFunc:=⟨4,[.tmp 0],
 .seq (.reg [o0 0 (.mov (.c (.lit [] true none)))])
 (.seq (.reg [o0 1 (.build [.nilFunc] [(0,1,(o6 443))]),o0 2 (.build [.nilFunc] [(0,1,(o6 445))]),o0 3 (.mklit 1 [.t 1,.t 2]),o4 0 3])
 (.jump .ret))⟩
def TX:ACode:=.seq (.reg [o0 12 (.bin .lss (.t 11) (.t 10))])
 (.seq (.cond (.t 12) .skip
 (.jump (.exit 0)))
 (.seq (.block 1 (.seq (.reg [o4 13 11,o0 14 (.iaddr none 2 (.t 9) (.t 11)),o0 15 (.load (some 2) (.t 14)),o0 7 (.alloc [.int .i64 0,.int .i64 0]),o4 6 13,o1 (.store 2 (.t 7) (.t 15))])
 (.seq (.reg [o4 16 1,o4 17 6,o0 18 (.load (some 2) (.t 7)),o0 19 (.call (.t 16) [.t 17,.t 18]),o4 8 19])
 (.seq (.reg [o4 20 8,o0 21 (.eql (.one .i) true (.t 20) (o5 0))])
 (.cond (.t 21) (.seq (.reg [o4 22 6,o4 23 8,o4 4 22,o4 5 23])
 (.jump .ret))
 .skip)))))
 (.reg [o0 24 (.bin .add (.t 11) (o5 1)),o4 11 24])))
def a344:AFunc:=⟨25,[.tmp 4,.tmp 5],
 .seq (.reg [o0 4 (.mov (o5 0)),o0 5 (.mov (o5 0))])
 (.seq (.seq (.reg [o4 9 0,o0 10 (.len 1 (.t 9)),o0 11 (.mov (o5 0))])
 (.block 0 (.loop TX)))
 (.seq (.reg [o0 4 (.mov (o5 0)),o0 5 (.mov (o5 0))])
 (.jump .ret)))⟩
def a345:AFunc:=⟨7,[.tmp 4],
 .seq (.reg [o0 3 (.box 2 (.t 1)),o0 4 (.mov (o5 0))])
 (.seq (.reg [o0 5 (.load (some 2) (.t 3)),o0 6 (.call (o6 346) [(.t 5),(o5 0),(o5 2)]),o4 4 6])
 (.jump .ret))⟩
def a346:AFunc:=⟨22,[.tmp 6],
 .seq (.reg [o0 3 (.box 2 (.t 0)),o0 6 (.mov (o5 0))])
 (.seq (.block 0 (.seq (.reg [o4 8 1,o4 9 2,o0 10 (.faddr (.t 3) 0),o0 11 (.load none (.t 10)),o0 12 (.faddr (.t 3) 1),o0 13 (.load none (.t 12)),o0 14 (.mklit 1 [.t 11,.t 13]),o0 15 (.call (o6 232) [.t 8,.t 9,.t 14]),o4 7 15])
 (.cond (.t 7) (.seq (.reg [o0 6 (.mov (o5 7))])
 (.jump .ret))
 (.seq (.reg [o0 17 (.faddr (.t 3) 0),o0 18 (.load none (.t 17)),o0 19 (.faddr (.t 3) 1),o0 20 (.load none (.t 19)),o0 21 (.bin .gtr (.t 18) (.t 20)),o4 16 21])
 (.cond (.t 16) (.seq (.reg [o0 6 (.mov (o5 2))])
 (.jump .ret))
 .skip)))))
 (.seq (.reg [o0 6 (.mov (o5 0))])
 (.jump .ret)))⟩
def R4:ACode:=.seq (.reg [o0 12 (.bin .lss (.t 11) (.t 10))])
 (.seq (.cond (.t 12) .skip
 (.jump (.exit 0)))
 (.seq (.block 1 (.seq (.reg [o4 13 11,o0 14 (.iaddr none 4 (.t 9) (.t 11)),o0 15 (.load (some 4) (.t 14)),⟨some 7,.alloc [.str ⟨#[]⟩,.int .i64 0,.int .i64 0,.int .i64 0],none⟩,o4 6 13,o1 (.store 4 (.t 7) (.t 15))])
 (.seq (.reg [o4 16 1,o4 17 6,o0 18 (.load (some 4) (.t 7)),o0 19 (.call (.t 16) [.t 17,.t 18]),o4 8 19])
 (.seq (.reg [o4 20 8,o0 21 (.eql (.one .i) true (.t 20) (o5 0))])
 (.cond (.t 21) (.seq (.reg [o4 22 6,o4 23 8,o4 4 22,o4 5 23])
 (.jump .ret))
 .skip)))))
 (.reg [o0 24 (.bin .add (.t 11) (o5 1)),o4 11 24])))
def a347:AFunc:=⟨25,[.tmp 4,.tmp 5],
 .seq (.reg [o0 4 (.mov (o5 0)),o0 5 (.mov (o5 0))])
 (.seq (.seq (.reg [o4 9 0,o0 10 (.len 1 (.t 9)),o0 11 (.mov (o5 0))])
 (.block 0 (.loop R4)))
 (.seq (.reg [o0 4 (.mov (o5 0)),o0 5 (.mov (o5 0))])
 (.jump .ret)))⟩
def a348:AFunc:=⟨32,[.tmp 5],
 .seq (.reg [o0 4 (.box 4 (.t 1)),o0 5 (.mov (o5 0))])
 (.seq (.reg [o0 7 (.faddr (.t 4) 1),o0 8 (.load (some 2) (.t 7)),o0 9 (.faddr (.t 2) 0),o0 10 (.load none (.t 9)),o0 11 (.len 1 (.t 10)),o0 12 (.bin .sub (.t 11) (o5 1)),o0 13 (.call (o6 346) [(.t 8),(o5 0),(.t 12)]),o4 6 13])
 (.seq (.block 0 (.seq (.reg [o0 15 (.faddr (.t 4) 0),o0 16 (.load none (.t 15)),o0 17 (.call (o6 111) [.t 16]),o0 18 (.not (.t 17)),o4 14 18])
 (.cond (.t 14) (.seq (.reg [o0 5 (.mov (o5 6))])
 (.jump .ret))
 (.seq (.reg [o0 20 (.faddr (.t 2) 5),o0 21 (.load none (.t 20)),o4 22 0,o0 23 (.slicev 4 (.t 21) none (some (.t 22)) none),o0 24 (.mkfun 350 [] [.t 4]),o0 25 (.call (o6 349) [.t 23,.t 24]),o4 19 25])
 (.cond (.t 19) (.seq (.reg [o0 5 (.mov (o5 5))])
 (.jump .ret))
 (.seq (.reg [o0 27 (.faddr (.t 4) 3),o0 28 (.load none (.t 27)),o0 29 (.mklit 1 [.t 28]),o0 30 (.call (o6 232) [(o5 1),(o5 99),(.t 29)]),o4 26 30])
 (.cond (.t 26) (.seq (.reg [o0 5 (.mov (o5 7))])
 (.jump .ret))
 .skip)))))))
 (.seq (.reg [o4 31 6,o4 5 31])
 (.jump .ret))))⟩
def a349:AFunc:=⟨9,[.tmp 4],
 .seq (.reg [o0 4 (.mov (.c (.bool false)))])
 (.seq (.reg [o4 5 0,o4 6 1,o0 7 (.call (o6 466) [.t 5,.t 6]),o0 8 (.bin .geq (.t 7) (o5 0)),o4 4 8])
 (.jump .ret))⟩
def a350:AFunc:=⟨9,[.tmp 3],
 .seq (.reg [o0 2 (.box 4 (.t 0)),o0 3 (.mov (.c (.bool false)))])
 (.seq (.reg [o0 4 (.faddr (.t 2) 0),o0 5 (.load none (.t 4)),o0 6 (.faddr (.t 1) 0),o0 7 (.load none (.t 6)),o0 8 (.eql (.one .s) false (.t 5) (.t 7)),o4 3 8])
 (.jump .ret))⟩
def SO:ACode:=.seq (.reg [o0 12 (.bin .lss (.t 11) (.t 10))])
 (.seq (.cond (.t 12) .skip
 (.jump (.exit 0)))
 (.seq (.block 1 (.seq (.reg [o4 13 11,o0 14 (.iaddr none 3 (.t 9) (.t 11)),o0 15 (.load (some 3) (.t 14)),o0 7 (.alloc [.int .i64 0,.int .i64 0,.int .i64 0]),o4 6 13,o1 (.store 3 (.t 7) (.t 15))])
 (.seq (.reg [o4 16 1,o4 17 6,o0 18 (.load (some 3) (.t 7)),o0 19 (.call (.t 16) [.t 17,.t 18]),o4 8 19])
 (.seq (.reg [o4 20 8,o0 21 (.eql (.one .i) true (.t 20) (o5 0))])
 (.cond (.t 21) (.seq (.reg [o4 22 6,o4 23 8,o4 4 22,o4 5 23])
 (.jump .ret))
 .skip)))))
 (.reg [o0 24 (.bin .add (.t 11) (o5 1)),o4 11 24])))
def a351:AFunc:=⟨25,[.tmp 4,.tmp 5],
 .seq (.reg [o0 4 (.mov (o5 0)),o0 5 (.mov (o5 0))])
 (.seq (.seq (.reg [o4 9 0,o0 10 (.len 1 (.t 9)),o0 11 (.mov (o5 0))])
 (.block 0 (.loop SO)))
 (.seq (.reg [o0 4 (.mov (o5 0)),o0 5 (.mov (o5 0))])
 (.jump .ret)))⟩
def a352:AFunc:=⟨29,[.tmp 5],
 .seq (.reg [o0 4 (.box 3 (.t 1)),o0 5 (.mov (o5 0))])
 (.seq (.block 0 (.seq (.reg [o0 7 (.faddr (.t 2) 5),o0 8 (.load none (.t 7)),o0 9 (.len 1 (.t 8)),o0 10 (.bin .sub (.t 9) (o5 1)),o0 11 (.faddr (.t 4) 0),o0 12 (.load none (.t 11)),o0 13 (.mklit 1 [.t 12]),o0 14 (.call (o6 232) [(o5 0),(.t 10),(.t 13)]),o4 6 14])
 (.cond (.t 6) (.seq (.reg [o0 5 (.mov (o5 4))])
 (.jump .ret))
 (.seq (.reg [o0 16 (.faddr (.t 2) 0),o0 17 (.load none (.t 16)),o0 18 (.len 1 (.t 17)),o0 19 (.faddr (.t 4) 1),o0 20 (.load none (.t 19)),o0 21 (.mklit 1 [.t 20]),o0 22 (.call (o6 232) [(o5 0),(.t 18),(.t 21)]),o4 23 22,o2 24 (.faddr (.t 4) 2) 23 false,o2 25 (.load none (.t 24)) 23 false,o2 26 (.mklit 1 [.t 25]) 23 false,o2 27 (.call (o6 232) [(o5 0),(o5 30),(.t 26)]) 23 false,o0 28 (.pick (.t 23) (.c (.bool true)) (.t 27)),o4 15 28])
 (.cond (.t 15) (.seq (.reg [o0 5 (.mov (o5 7))])
 (.jump .ret))
 .skip)))))
 (.seq (.reg [o0 5 (.mov (o5 0))])
 (.jump .ret)))⟩
def a353:AFunc:=⟨4,[.tmp 2],
 .seq (.reg [o0 1 (.box 1 (.t 0)),o0 2 (.mov (.c (.nilFunc)))])
 (.seq (.reg [o0 3 (.mkfun 467 [] [.t 1]),o4 2 3])
 (.jump .ret))⟩
def R7:ACode:=.seq (.reg [o0 43 (.bin .lss (.t 42) (.t 41))])
 (.seq (.cond (.t 43) .skip
 (.jump (.exit 4)))
 (.seq (.block 5 (.seq (.reg [o4 44 42,o0 45 (.iaddr none 3 (.t 40) (.t 42)),o0 46 (.load (some 3) (.t 45)),o0 11 (.alloc [.int .i64 0,.int .i64 0,.int .i64 0]),o4 10 44,o1 (.store 3 (.t 11) (.t 46))])
 (.seq (.dreg [o3 47 (.mov (.t 7)) 0 1,o3 48 (.faddr (.t 11) 1) 0 1,o3 49 (.load none (.t 48)) 0 1,o3 50 (.mov (.t 6)) 0 0,o3 51 (.load (some 7) (.t 3)) 0 0,o3 52 (.mov (.t 9)) 0 0,o3 53 (.faddr (.t 11) 1) 0 0,o3 54 (.load none (.t 53)) 0 0,o3 55 (.call (.t 50) [.t 51,.t 52,.t 54]) 0 1,o3 56 (.build [.int .i64 0,.int .i64 0,.int .i64 0] [(0,1,(.t 47)),(1,1,(.t 49)),(2,1,(.t 55))]) 1 1,o3 12 (.alloc [.int .i64 0,.int .i64 0,.int .i64 0]) 0 1,⟨o1 (.store 3 (.t 12) (.t 56)),1,2⟩])
 (.seq (.reg [o0 57 (.faddr (.t 11) 0),o0 58 (.load none (.t 57)),o4 59 7,o0 60 (.eql (.one .i) false (.t 58) (.t 59)),o4 61 60,o2 62 (.mov (.t 0)) 61 true,o2 63 (.nilCheck (.t 62)) 61 true,o2 64 (.faddr (.t 63) 7) 61 true,o2 65 (.load none (.t 64)) 61 true,o2 66 (.mov (.t 10)) 61 true,o2 67 (.bin .shr (.t 65) (.t 66)) 61 true,o2 68 (.bin .and (.t 67) (o5 1)) 61 true,o2 69 (.eql (.one .i) false (.t 68) (o5 0)) 61 true,o0 70 (.pick (.t 61) (.t 69) (.c (.bool false))),o4 71 70,o2 72 (.load (some 3) (.t 11)) 71 true,o2 73 (.load (some 3) (.t 12)) 71 true,o2 74 (.eql (.agg [.i,.i,.i]) true (.t 72) (.t 73)) 71 true,o0 75 (.pick (.t 71) (.t 74) (.c (.bool false)))])
 (.cond (.t 75) (.jump (.exit 3))
 .skip)))))
 (.reg [o0 76 (.bin .add (.t 42) (o5 1)),o4 42 76])))
def VG:ACode:=.seq (.seq (.reg [o4 29 9,o0 30 (.faddr (.t 8) 1),o0 31 (.faddr (.t 30) 1),o0 32 (.load none (.t 31)),o0 33 (.bin .leq (.t 29) (.t 32))])
 (.cond (.t 33) .skip
 (.jump (.exit 2))))
 (.seq (.block 3 (.seq (.seq (.reg [o4 36 0,o0 37 (.nilCheck (.t 36)),o0 38 (.faddr (.t 37) 0),o0 39 (.faddr (.t 38) 6),o0 40 (.load none (.t 39)),o0 41 (.len 1 (.t 40)),o0 42 (.mov (o5 0))])
 (.block 4 (.loop R7)))
 (.dreg [o3 77 (.mov (.t 7)) 0 0,o3 78 (.iaddr (some 4) 1 (.t 4) (.t 77)) 0 0,o3 79 (.load none (.t 78)) 0 0,o3 80 (.mov (.t 9)) 0 0,o3 81 (.bin .shl (o5 1) (.t 80)) 0 0,o3 82 (.bin .or (.t 79) (.t 81)) 0 0,o3 83 (.iaddr (some 4) 1 (.t 4) (.t 77)) 0 0,⟨o1 (.store 1 (.t 83) (.t 82)),0,1⟩])))
 (.reg [o4 34 9,o0 35 (.bin .add (.t 34) (o5 1)),o4 9 35]))
def RM:ACode:=.seq (.reg [o0 22 (.bin .lss (.t 21) (.t 20))])
 (.seq (.cond (.t 22) .skip
 (.jump (.exit 0)))
 (.seq (.block 1 (.seq (.reg [o4 23 21,o0 24 (.iaddr none 4 (.t 19) (.t 21)),o0 25 (.load (some 4) (.t 24)),⟨some 8,.alloc [.str ⟨#[]⟩,.int .i64 0,.int .i64 0,.int .i64 0],none⟩,o4 7 23,o1 (.store 4 (.t 8) (.t 25))])
 (.scope (.seq .skip
 (.seq (.seq (.reg [o0 26 (.faddr (.t 8) 1),o0 27 (.faddr (.t 26) 0),o0 28 (.load none (.t 27)),o4 9 28])
 (.block 2 (.loop VG)))
 (.seq (.reg [o4 84 7,o0 85 (.iaddr (some 4) 1 (.t 4) (.t 84)),o0 86 (.load none (.t 85)),o0 87 (.eql (.one .i) false (.t 86) (o5 0))])
 (.cond (.t 87) (.seq (.reg [o0 88 (.load (some 4) (.t 4)),o1 (.store 4 (.t 4) (.t 88)),o0 5 (.mov (.c (.bool false)))])
 (.jump .ret))
 .skip)))))))
 (.reg [o0 89 (.bin .add (.t 21) (o5 1)),o4 21 89])))
def a354:AFunc:=⟨91,[.cell 4 (some 4),.tmp 5],
 .seq (.reg [o0 3 (.box 7 (.t 1)),o0 4 (.alloc [.int .i64 0,.int .i64 0,.int .i64 0,.int .i64 0]),o0 5 (.mov (.c (.bool false)))])
 (.seq (.reg [o4 13 0,o0 14 (.mkfun 234 [.t 13] []),o4 6 14])
 (.seq (.seq (.reg [o4 15 0,o0 16 (.nilCheck (.t 15)),o0 17 (.faddr (.t 16) 0),o0 18 (.faddr (.t 17) 5),o0 19 (.load none (.t 18)),o0 20 (.len 1 (.t 19)),o0 21 (.mov (o5 0))])
 (.block 0 (.loop RM)))
 (.seq (.reg [o0 90 (.load (some 4) (.t 4)),o1 (.store 4 (.t 4) (.t 90)),o0 5 (.mov (.c (.bool true)))])
 (.jump .ret))))⟩
def a355:AFunc:=⟨7,[.tmp 2],
 .seq (.reg [o0 2 (.mov (o5 0))])
 (.seq (.reg [o4 3 0,o0 4 (.bin .quo (.t 3) (o5 10)),o0 5 (.bin .add (o5 1) (.t 4)),o0 6 (.min [(o5 7),(.t 5)]),o4 2 6])
 (.jump .ret))⟩
def a356:AFunc:=⟨9,[.tmp 4],
 .seq (.reg [o0 4 (.mov (.c (.bool false)))])
 (.seq (.reg [o4 5 0,o4 6 1,o0 7 (.call (o6 257) [.t 5,.t 6]),o0 8 (.bin .geq (.t 7) (o5 0)),o4 4 8])
 (.jump .ret))⟩
def a357:AFunc:=⟨13,[.tmp 4],
 .seq (.reg [o0 4 (.mov (.c (.bool false)))])
 (.seq (.reg [o4 5 0,o0 6 (.load none (.t 1)),o0 7 (.bin .lss (.t 5) (.t 6)),o4 8 7,o2 9 (.mov (.t 0)) 8 false,o2 10 (.load none (.t 2)) 8 false,o2 11 (.bin .gtr (.t 9) (.t 10)) 8 false,o0 12 (.pick (.t 8) (.c (.bool true)) (.t 11)),o4 4 12])
 (.jump .ret))⟩
def a358:AFunc:=⟨4,[.tmp 0],
 .seq (.reg [o0 0 (.mov (.c (.lit [] true none)))])
 (.seq (.reg [o0 1 (.build [.int .i64 0,.nilFunc] [(0,1,(o5 7)),(1,1,(o6 469))]),o0 2 (.build [.int .i64 0,.nilFunc] [(0,1,(o5 2)),(1,1,(o6 470))]),o0 3 (.mklit 2 [.t 1,.t 2]),o4 0 3])
 (.jump .ret))⟩
def SV:ACode:=.seq (.reg [o0 22 (.bin .lss (.t 21) (.t 20))])
 (.seq (.cond (.t 22) .skip
 (.jump (.exit 0)))
 (.seq (.block 1 (.seq (.reg [o4 23 21,o0 24 (.iaddr none 3 (.t 19) (.t 21)),o0 25 (.load (some 3) (.t 24)),⟨some 11,.alloc [.str ⟨#[]⟩,.int .i64 0,.int .i64 0],none⟩,o4 10 23,o1 (.store 3 (.t 11) (.t 25))])
 (.seq (.reg [o4 26 3,o4 27 10,o0 28 (.load (some 3) (.t 11)),o0 29 (.call (.t 26) [.t 27,.t 28]),o4 12 29])
 (.seq (.reg [o4 30 12,o0 31 (.eql (.one .i) true (.t 30) (o5 0))])
 (.cond (.t 31) (.seq (.reg [o4 32 10,o4 33 12,o4 8 32,o4 9 33])
 (.jump .ret))
 .skip)))))
 (.reg [o0 34 (.bin .add (.t 21) (o5 1)),o4 21 34])))
def a359:AFunc:=⟨35,[.tmp 8,.tmp 9],
 .seq (.reg [o0 8 (.mov (o5 0)),o0 9 (.mov (o5 0))])
 (.seq (.seq (.reg [o4 13 1,o4 14 2,o4 15 0,o0 16 (.len 1 (.t 15)),o0 17 (.mklit 1 [.t 16]),o0 18 (.call (o6 227) [.t 13,.t 14,.t 17])])
 (.cond (.t 18) (.seq (.reg [o0 8 (.mov (o5 0)),o0 9 (.mov (o5 3))])
 (.jump .ret))
 .skip))
 (.seq (.seq (.reg [o4 19 0,o0 20 (.len 1 (.t 19)),o0 21 (.mov (o5 0))])
 (.block 0 (.loop SV)))
 (.seq (.reg [o0 8 (.mov (o5 0)),o0 9 (.mov (o5 0))])
 (.jump .ret))))⟩
def a360:AFunc:=⟨35,[.tmp 5],
 .seq (.reg [o0 4 (.box 3 (.t 1)),o0 5 (.mov (o5 0))])
 (.seq (.block 0 (.seq (.reg [o0 7 (.faddr (.t 4) 0),o0 8 (.load none (.t 7)),o0 9 (.call (o6 111) [.t 8]),o0 10 (.not (.t 9)),o4 6 10])
 (.cond (.t 6) (.seq (.reg [o0 5 (.mov (o5 6))])
 (.jump .ret))
 (.seq (.reg [o0 12 (.faddr (.t 2) 3),o0 13 (.load none (.t 12)),o4 14 0,o0 15 (.slicev 3 (.t 13) none (some (.t 14)) none),o0 16 (.mkfun 362 [] [.t 4]),o0 17 (.call (o6 361) [.t 15,.t 16]),o4 11 17])
 (.cond (.t 11) (.seq (.reg [o0 5 (.mov (o5 5))])
 (.jump .ret))
 (.seq (.reg [o0 19 (.faddr (.t 4) 1),o0 20 (.faddr (.t 19) 0),o0 21 (.load none (.t 20)),o0 22 (.faddr (.t 4) 1),o0 23 (.faddr (.t 22) 1),o0 24 (.load none (.t 23)),o0 25 (.mklit 1 [.t 21,.t 24]),o0 26 (.call (o6 227) [(o5 0),(o5 15),(.t 25)]),o4 18 26])
 (.cond (.t 18) (.seq (.reg [o0 5 (.mov (o5 7))])
 (.jump .ret))
 (.seq (.reg [o0 28 (.faddr (.t 4) 1),o0 29 (.faddr (.t 28) 0),o0 30 (.load none (.t 29)),o0 31 (.faddr (.t 4) 1),o0 32 (.faddr (.t 31) 1),o0 33 (.load none (.t 32)),o0 34 (.bin .gtr (.t 30) (.t 33)),o4 27 34])
 (.cond (.t 27) (.seq (.reg [o0 5 (.mov (o5 2))])
 (.jump .ret))
 .skip)))))))))
 (.seq (.reg [o0 5 (.mov (o5 0))])
 (.jump .ret)))⟩
def a361:AFunc:=⟨9,[.tmp 4],
 .seq (.reg [o0 4 (.mov (.c (.bool false)))])
 (.seq (.reg [o4 5 0,o4 6 1,o0 7 (.call (o6 471) [.t 5,.t 6]),o0 8 (.bin .geq (.t 7) (o5 0)),o4 4 8])
 (.jump .ret))⟩
def a362:AFunc:=⟨9,[.tmp 3],
 .seq (.reg [o0 2 (.box 3 (.t 0)),o0 3 (.mov (.c (.bool false)))])
 (.seq (.reg [o0 4 (.faddr (.t 2) 0),o0 5 (.load none (.t 4)),o0 6 (.faddr (.t 1) 0),o0 7 (.load none (.t 6)),o0 8 (.eql (.one .s) false (.t 5) (.t 7)),o4 3 8])
 (.jump .ret))⟩
def U5:ACode:=.seq (.reg [o0 22 (.bin .lss (.t 21) (.t 20))])
 (.seq (.cond (.t 22) .skip
 (.jump (.exit 0)))
 (.seq (.block 1 (.seq (.reg [o4 23 21,o0 24 (.iaddr none 1 (.t 19) (.t 21)),o0 25 (.load none (.t 24)),o4 10 23,o4 11 25])
 (.seq (.reg [o4 26 3,o4 27 10,o4 28 11,o0 29 (.call (.t 26) [.t 27,.t 28]),o4 12 29])
 (.seq (.reg [o4 30 12,o0 31 (.eql (.one .i) true (.t 30) (o5 0))])
 (.cond (.t 31) (.seq (.reg [o4 32 10,o4 33 12,o4 8 32,o4 9 33])
 (.jump .ret))
 .skip)))))
 (.reg [o0 34 (.bin .add (.t 21) (o5 1)),o4 21 34])))
def a363:AFunc:=⟨35,[.tmp 8,.tmp 9],
 .seq (.reg [o0 8 (.mov (o5 0)),o0 9 (.mov (o5 0))])
 (.seq (.seq (.reg [o4 13 1,o4 14 2,o4 15 0,o0 16 (.len 1 (.t 15)),o0 17 (.mklit 1 [.t 16]),o0 18 (.call (o6 227) [.t 13,.t 14,.t 17])])
 (.cond (.t 18) (.seq (.reg [o0 8 (.mov (o5 0)),o0 9 (.mov (o5 3))])
 (.jump .ret))
 .skip))
 (.seq (.seq (.reg [o4 19 0,o0 20 (.len 1 (.t 19)),o0 21 (.mov (o5 0))])
 (.block 0 (.loop U5)))
 (.seq (.reg [o0 8 (.mov (o5 0)),o0 9 (.mov (o5 0))])
 (.jump .ret))))⟩
def a364:AFunc:=⟨13,[.tmp 5],
 .seq (.reg [o0 5 (.mov (o5 0))])
 (.seq (.seq (.reg [o0 6 (.faddr (.t 2) 3),o0 7 (.load none (.t 6)),o0 8 (.len 1 (.t 7)),o0 9 (.bin .sub (.t 8) (o5 1)),o4 10 1,o0 11 (.mklit 1 [.t 10]),o0 12 (.call (o6 227) [(o5 0),(.t 9),(.t 11)])])
 (.cond (.t 12) (.seq (.reg [o0 5 (.mov (o5 4))])
 (.jump .ret))
 .skip))
 (.seq (.reg [o0 5 (.mov (o5 0))])
 (.jump .ret)))⟩
def Q1:ACode:=.seq (.reg [o0 22 (.bin .lss (.t 21) (.t 20))])
 (.seq (.cond (.t 22) .skip
 (.jump (.exit 0)))
 (.seq (.block 1 (.seq (.reg [o4 23 21,o0 24 (.iaddr none 2 (.t 19) (.t 21)),o0 25 (.load (some 2) (.t 24)),o0 11 (.alloc [.int .i64 0,.int .i64 0]),o4 10 23,o1 (.store 2 (.t 11) (.t 25))])
 (.seq (.reg [o4 26 3,o4 27 10,o0 28 (.load (some 2) (.t 11)),o0 29 (.call (.t 26) [.t 27,.t 28]),o4 12 29])
 (.seq (.reg [o4 30 12,o0 31 (.eql (.one .i) true (.t 30) (o5 0))])
 (.cond (.t 31) (.seq (.reg [o4 32 10,o4 33 12,o4 8 32,o4 9 33])
 (.jump .ret))
 .skip)))))
 (.reg [o0 34 (.bin .add (.t 21) (o5 1)),o4 21 34])))
def a365:AFunc:=⟨35,[.tmp 8,.tmp 9],
 .seq (.reg [o0 8 (.mov (o5 0)),o0 9 (.mov (o5 0))])
 (.seq (.seq (.reg [o4 13 1,o4 14 2,o4 15 0,o0 16 (.len 1 (.t 15)),o0 17 (.mklit 1 [.t 16]),o0 18 (.call (o6 227) [.t 13,.t 14,.t 17])])
 (.cond (.t 18) (.seq (.reg [o0 8 (.mov (o5 0)),o0 9 (.mov (o5 3))])
 (.jump .ret))
 .skip))
 (.seq (.seq (.reg [o4 19 0,o0 20 (.len 1 (.t 19)),o0 21 (.mov (o5 0))])
 (.block 0 (.loop Q1)))
 (.seq (.reg [o0 8 (.mov (o5 0)),o0 9 (.mov (o5 0))])
 (.jump .ret))))⟩
def a366:AFunc:=⟨19,[.tmp 5],
 .seq (.reg [o0 4 (.box 2 (.t 1)),o0 5 (.mov (o5 0))])
 (.seq (.seq (.reg [o0 6 (.faddr (.t 2) 5),o0 7 (.load none (.t 6)),o0 8 (.len 1 (.t 7)),o0 9 (.faddr (.t 4) 0),o0 10 (.load none (.t 9)),o0 11 (.mklit 1 [.t 10]),o0 12 (.call (o6 227) [(o5 0),(.t 8),(.t 11)]),o4 13 12,o2 14 (.faddr (.t 4) 1) 13 false,o2 15 (.load none (.t 14)) 13 false,o2 16 (.mklit 1 [.t 15]) 13 false,o2 17 (.call (o6 227) [(o5 1),(o5 7),(.t 16)]) 13 false,o0 18 (.pick (.t 13) (.c (.bool true)) (.t 17))])
 (.cond (.t 18) (.seq (.reg [o0 5 (.mov (o5 7))])
 (.jump .ret))
 .skip))
 (.seq (.reg [o0 5 (.mov (o5 0))])
 (.jump .ret)))⟩
def a367:AFunc:=⟨16,[.cell 4 (some 2)],
 .seq (.reg [o0 2 (.box 2 (.t 0)),o0 3 (.box 2 (.t 1)),o0 4 (.alloc [.int .i64 0,.int .i64 0])])
 (.seq (.reg [o0 5 (.faddr (.t 2) 0),o0 6 (.load none (.t 5)),o0 7 (.faddr (.t 3) 0),o0 8 (.load none (.t 7)),o0 9 (.max [.t 6,.t 8]),o0 10 (.faddr (.t 2) 1),o0 11 (.load none (.t 10)),o0 12 (.faddr (.t 3) 1),o0 13 (.load none (.t 12)),o0 14 (.min [.t 11,.t 13]),o0 15 (.build [.int .i64 0,.int .i64 0] [(0,1,(.t 9)),(1,1,(.t 14))]),o1 (.store 2 (.t 4) (.t 15))])
 (.jump .ret))⟩
def a368:AFunc:=⟨15,[.cell 2 (some 2)],
 .seq (.reg [o0 2 (.alloc [.int .i64 0,.int .i64 0])])
 (.seq (.reg [o4 4 0,o0 5 (.bin .sub (.t 4) (o5 1)),o0 6 (.bin .mul (.t 5) (o5 10)),o4 7 0,o0 8 (.bin .mul (.t 7) (o5 10)),o0 9 (.bin .sub (.t 8) (o5 1)),o0 10 (.build [.int .i64 0,.int .i64 0] [(0,1,(.t 6)),(1,1,(.t 9))]),o0 3 (.alloc [.int .i64 0,.int .i64 0]),o1 (.store 2 (.t 3) (.t 10))])
 (.seq (.seq (.reg [o4 11 0,o0 12 (.eql (.one .i) false (.t 11) (o5 7))])
 (.cond (.t 12) (.reg [o0 13 (.faddr (.t 3) 1),o1 (.store 1 (.t 13) (o5 1000))])
 .skip))
 (.seq (.reg [o0 14 (.load (some 2) (.t 3)),o1 (.store 2 (.t 2) (.t 14))])
 (.jump .ret))))⟩
def a369:AFunc:=⟨13,[.tmp 4],
 .seq (.reg [o0 4 (.mov (.c (.bool false)))])
 (.seq (.reg [o4 5 0,o0 6 (.load none (.t 1)),o0 7 (.bin .lss (.t 5) (.t 6)),o4 8 7,o2 9 (.mov (.t 0)) 8 false,o2 10 (.load none (.t 2)) 8 false,o2 11 (.bin .gtr (.t 9) (.t 10)) 8 false,o0 12 (.pick (.t 8) (.c (.bool true)) (.t 11)),o4 4 12])
 (.jump .ret))⟩
def a370:AFunc:=⟨12,[],
 .seq (.reg [o0 5 (.box 1 (.t 0))])
 (.seq (.reg [o0 6 (.alloc [.lit [] true none,.int .i64 0,.int .i64 0,.int .i64 0,.int .i64 0,.int .i64 0])])
 (.seq (.reg [o0 7 (.alloc [.nilFunc])])
 (.seq (.reg [o0 8 (.mkfun 371 [] [.t 6,.t 1,.t 2,.t 5,.t 3,.t 7]),o1 (.store 1 (.t 7) (.t 8))])
 (.reg [o0 9 (.load none (.t 7)),o0 10 (.load none (.t 4)),o0 11 (.call (.t 9) [.t 10])]))))⟩
def SD:ACode:=.seq (.reg [o0 32 (.bin .lss (.t 31) (.t 30))])
 (.seq (.cond (.t 32) .skip
 (.jump (.exit 0)))
 (.seq (.block 1 (.seq (.reg [o4 33 31,o4 9 33])
 (.seq (.reg [o0 34 (.load (some 6) (.t 1)),o0 10 (.alloc [.lit [] true none,.int .i64 0,.int .i64 0,.int .i64 0,.int .i64 0,.int .i64 0]),o1 (.store 6 (.t 10) (.t 34))])
 (.seq (.seq (.reg [o4 35 0,o0 36 (.bin .geq (.t 35) (o5 0)),o4 37 36,o2 38 (.mov (.t 9)) 37 true,o2 39 (.mov (.t 0)) 37 true,o2 40 (.eql (.one .i) true (.t 38) (.t 39)) 37 true,o0 41 (.pick (.t 37) (.t 40) (.c (.bool false)))])
 (.cond (.t 41) (.seq (.seq (.reg [o0 42 (.faddr (.t 1) 5),o0 43 (.load none (.t 42)),o0 44 (.load none (.t 3)),o0 45 (.eql (.one .i) false (.t 43) (.t 44))])
 (.cond (.t 45) (.jump (.exit 1))
 .skip))
 (.reg [o0 46 (.faddr (.t 1) 5),o0 47 (.load none (.t 46)),o0 48 (.bin .add (.t 47) (o5 1)),o0 49 (.faddr (.t 1) 5),o1 (.store 1 (.t 49) (.t 48))]))
 .skip))
 (.seq (.reg [o4 50 9,o0 51 (.faddr (.t 1) 1),o0 52 (.iaddr (some 4) 1 (.t 51) (.t 50)),o0 53 (.load none (.t 52)),o0 54 (.bin .add (.t 53) (o5 1)),o0 55 (.faddr (.t 1) 1),o0 56 (.iaddr (some 4) 1 (.t 55) (.t 50)),o1 (.store 1 (.t 56) (.t 54))])
 (.seq (.reg [o0 57 (.faddr (.t 1) 0),o0 58 (.load none (.t 57)),o0 59 (.call (o6 372) [.t 58]),o4 60 9,o0 61 (.mklit 1 [.t 60]),o0 62 (.append 1 8 (.t 59) (.t 61)),o0 63 (.faddr (.t 1) 0),o1 (.store 1 (.t 63) (.t 62))])
 (.seq (.seq (.reg [o0 64 (.load none (.t 6)),o4 65 9,o0 66 (.call (.t 64) [.t 65]),o0 67 (.not (.t 66))])
 (.cond (.t 67) (.seq (.reg [o0 8 (.mov (.c (.bool false)))])
 (.jump .ret))
 .skip))
 (.reg [o0 68 (.load (some 6) (.t 10)),o1 (.store 6 (.t 1) (.t 68))]))))))))
 (.reg [o0 69 (.bin .add (.t 31) (o5 1)),o4 31 69])))
def a371:AFunc:=⟨70,[.tmp 8],
 .seq (.reg [o0 8 (.mov (.c (.bool false)))])
 (.scope (.seq (.seq (.reg [o0 11 (.faddr (.t 1) 0),o0 12 (.load none (.t 11)),o0 13 (.len 1 (.t 12)),o0 14 (.load none (.t 2)),o0 15 (.eql (.one .i) false (.t 13) (.t 14))])
 (.cond (.t 15) (.seq (.reg [o0 16 (.faddr (.t 1) 5),o0 17 (.load none (.t 16)),o0 18 (.load none (.t 3)),o0 19 (.eql (.one .i) true (.t 17) (.t 18)),o4 20 19,o2 21 (.load none (.t 4)) 20 false,o2 22 (.load (some 6) (.t 1)) 20 false,o2 23 (.call (.t 21) [.t 22]) 20 false,o0 24 (.pick (.t 20) (.c (.bool true)) (.t 23)),o4 8 24])
 (.jump .ret))
 .skip))
 (.seq .skip
 (.seq (.seq (.reg [o0 25 (.load none (.t 5)),o0 26 (.nilCheck (.t 25)),o0 27 (.faddr (.t 26) 0),o0 28 (.faddr (.t 27) 3),o0 29 (.load none (.t 28)),o0 30 (.len 1 (.t 29)),o0 31 (.mov (o5 0))])
 (.block 0 (.loop SD)))
 (.seq (.reg [o0 8 (.mov (.c (.bool true)))])
 (.jump .ret))))))⟩
def a372:AFunc:=⟨9,[.tmp 2],
 .seq (.reg [o0 2 (.mov (.c (.lit [] true none)))])
 (.seq (.reg [o4 3 0,o4 4 0,o0 5 (.len 1 (.t 4)),o4 6 0,o0 7 (.len 1 (.t 6)),o0 8 (.slicev 1 (.t 3) none (some (.t 5)) (some (.t 7))),o4 2 8])
 (.jump .ret))⟩
def a378:AFunc:=⟨13,[.tmp 4],
 .seq (.reg [o0 4 (.mov (.c (.bool false)))])
 (.seq (.reg [o4 5 0,o0 6 (.load none (.t 1)),o0 7 (.bin .lss (.t 5) (.t 6)),o4 8 7,o2 9 (.mov (.t 0)) 8 false,o2 10 (.load none (.t 2)) 8 false,o2 11 (.bin .gtr (.t 9) (.t 10)) 8 false,o0 12 (.pick (.t 8) (.c (.bool true)) (.t 11)),o4 4 12])
 (.jump .ret))⟩
def a386:AFunc:=⟨6,[.tmp 2],
 .seq (.reg [o0 2 (.mov (.c (.bool false)))])
 (.seq (.reg [o4 3 0,o4 4 0,o0 5 (.eql (.one .i) true (.t 3) (.t 4)),o4 2 5])
 (.jump .ret))⟩
def a443:AFunc:=⟨22,[.tmp 4],
 .seq (.reg [o0 3 (.box 2 (.t 1)),o0 4 (.mov (o5 0))])
 (.seq (.dreg [o3 5 (.faddr (.t 3) 0) 0 0,o3 6 (.load none (.t 5)) 0 0,o3 7 (.mov (.t 0)) 0 0,o3 8 (.nilCheck (.t 7)) 0 0,o3 9 (.faddr (.t 8) 0) 0 0,o3 10 (.faddr (.t 9) 1) 0 0,o3 11 (.load none (.t 10)) 0 0,o3 12 (.bin .geq (.t 6) (.t 11)) 0 0,o3 13 (.faddr (.t 3) 1) 0 0,o3 14 (.load none (.t 13)) 0 0,o3 15 (.mov (.t 0)) 0 0,o3 16 (.nilCheck (.t 15)) 0 0,o3 17 (.faddr (.t 16) 0) 0 0,o3 18 (.faddr (.t 17) 1) 0 0,o3 19 (.load none (.t 18)) 0 0,o3 20 (.bin .lss (.t 14) (.t 19)) 0 0,o3 21 (.call (o6 444) [.t 12,.t 20]) 0 1,o3 4 (.mov (.t 21)) 1 1])
 (.jump .ret))⟩
def a444:AFunc:=⟨9,[.tmp 4],
 .seq (.reg [o0 4 (.mov (o5 0))])
 (.seq (.block 0 (.seq (.reg [o4 6 0,o4 5 6])
 (.cond (.t 5) (.seq (.reg [o0 4 (.mov (o5 1))])
 (.jump .ret))
 (.seq (.reg [o4 8 1,o4 7 8])
 (.cond (.t 7) (.seq (.reg [o0 4 (.mov (o5 2))])
 (.jump .ret))
 .skip)))))
 (.seq (.reg [o0 4 (.mov (o5 0))])
 (.jump .ret)))⟩
def a445:AFunc:=⟨36,[.tmp 4],
 .seq (.reg [o0 3 (.box 2 (.t 1)),o0 4 (.mov (o5 0))])
 (.seq (.dreg [o3 5 (.faddr (.t 3) 1) 0 0,o3 6 (.load none (.t 5)) 0 0,o3 7 (.mov (.t 0)) 0 0,o3 8 (.nilCheck (.t 7)) 0 0,o3 9 (.faddr (.t 8) 0) 0 0,o3 10 (.faddr (.t 9) 3) 0 0,o3 11 (.faddr (.t 10) 1) 0 0,o3 12 (.load none (.t 11)) 0 0,o3 13 (.bin .add (.t 6) (.t 12)) 0 0,o3 14 (.mov (.t 0)) 0 0,o3 15 (.nilCheck (.t 14)) 0 0,o3 16 (.faddr (.t 15) 0) 0 0,o3 17 (.faddr (.t 16) 2) 0 0,o3 18 (.load none (.t 17)) 0 0,o3 19 (.bin .leq (.t 13) (.t 18)) 0 0,o3 20 (.faddr (.t 3) 0) 0 0,o3 21 (.load none (.t 20)) 0 0,o3 22 (.mov (.t 0)) 0 0,o3 23 (.nilCheck (.t 22)) 0 0,o3 24 (.faddr (.t 23) 0) 0 0,o3 25 (.faddr (.t 24) 3) 0 0,o3 26 (.faddr (.t 25) 0) 0 0,o3 27 (.load none (.t 26)) 0 0,o3 28 (.bin .add (.t 21) (.t 27)) 0 0,o3 29 (.mov (.t 0)) 0 0,o3 30 (.nilCheck (.t 29)) 0 0,o3 31 (.faddr (.t 30) 0) 0 0,o3 32 (.faddr (.t 31) 2) 0 0,o3 33 (.load none (.t 32)) 0 0,o3 34 (.bin .gtr (.t 28) (.t 33)) 0 0,o3 35 (.call (o6 444) [.t 19,.t 34]) 0 1,o3 4 (.mov (.t 35)) 1 1])
 (.jump .ret))⟩
def UT:ACode:=.seq (.reg [o0 9 (.bin .lss (.t 8) (.t 7))])
 (.seq (.cond (.t 9) .skip
 (.jump (.exit 0)))
 (.seq (.block 1 (.seq (.reg [o4 10 8,o4 5 10])
 (.seq (.reg [o4 11 1,o4 12 0,o4 13 5,o0 14 (.iaddr none 4 (.t 12) (.t 13)),o0 15 (.load (some 4) (.t 14)),o0 16 (.call (.t 11) [.t 15])])
 (.cond (.t 16) (.seq (.reg [o4 17 5,o4 4 17])
 (.jump .ret))
 .skip))))
 (.reg [o0 18 (.bin .add (.t 8) (o5 1)),o4 8 18])))
def a466:AFunc:=⟨19,[.tmp 4],
 .seq (.reg [o0 4 (.mov (o5 0))])
 (.seq (.seq (.reg [o4 6 0,o0 7 (.len 1 (.t 6)),o0 8 (.mov (o5 0))])
 (.block 0 (.loop UT)))
 (.seq (.reg [o0 4 (.mov (.c (.int .i64 (-1))))])
 (.jump .ret)))⟩
def a467:AFunc:=⟨10,[],
 .seq (.reg [o0 2 (.box 1 (.t 0))])
 (.seq (.reg [o0 3 (.alloc [.int .i64 0,.int .i64 0,.int .i64 0,.int .i64 0,.int .i64 0,.int .i64 0,.int .i64 0]),o0 4 (.alloc [.int .i64 0,.int .i64 0,.int .i64 0,.int .i64 0,.int .i64 0,.int .i64 0,.int .i64 0])])
 (.seq (.reg [o0 5 (.alloc [.bool false]),o1 (.store 1 (.t 5) (.c (.bool true)))])
 (.seq (.reg [o0 6 (.alloc [.nilFunc])])
 (.seq (.reg [o0 7 (.mkfun 468 [] [.t 1,.t 5,.t 3,.t 4,.t 2,.t 6]),o1 (.store 1 (.t 6) (.t 7))])
 (.reg [o0 8 (.load none (.t 6)),o0 9 (.call (.t 8) [(o5 0)])])))))⟩
def RB:ACode:=.seq (.seq (.reg [o4 38 9,o0 39 (.load none (.t 1)),o0 40 (.nilCheck (.t 39)),o0 41 (.faddr (.t 40) 0),o0 42 (.faddr (.t 41) 0),o0 43 (.load none (.t 42)),o4 44 0,o0 45 (.iaddr none 2 (.t 43) (.t 44)),o0 46 (.faddr (.t 45) 1),o0 47 (.load none (.t 46)),o0 48 (.bin .leq (.t 38) (.t 47))])
 (.cond (.t 48) .skip
 (.jump (.exit 0))))
 (.seq (.block 1 (.seq (.reg [o4 51 0,o4 52 9,o0 53 (.iaddr (some 7) 1 (.t 3) (.t 51)),o1 (.store 1 (.t 53) (.t 52))])
 (.seq (.reg [o0 54 (.load none (.t 6)),o4 55 0,o0 56 (.bin .add (.t 55) (o5 1)),o0 57 (.call (.t 54) [.t 56]),o0 58 (.not (.t 57))])
 (.cond (.t 58) (.seq (.reg [o0 8 (.mov (.c (.bool false)))])
 (.jump .ret))
 .skip))))
 (.reg [o4 49 9,o0 50 (.bin .add (.t 49) (o5 1)),o4 9 50]))
def a468:AFunc:=⟨61,[.tmp 8],
 .seq (.reg [o0 8 (.mov (.c (.bool false)))])
 (.seq (.seq (.reg [o4 10 0,o0 11 (.load none (.t 1)),o0 12 (.nilCheck (.t 11)),o0 13 (.faddr (.t 12) 0),o0 14 (.faddr (.t 13) 0),o0 15 (.load none (.t 14)),o0 16 (.len 1 (.t 15)),o0 17 (.eql (.one .i) false (.t 10) (.t 16))])
 (.cond (.t 17) (.seq (.seq (.reg [o0 18 (.load none (.t 2)),o0 19 (.not (.t 18)),o4 20 19,o2 21 (.load (some 7) (.t 3)) 20 true,o2 22 (.load (some 7) (.t 4)) 20 true,o2 23 (.eql (.agg [.i,.i,.i,.i,.i,.i,.i]) false (.t 21) (.t 22)) 20 true,o0 24 (.pick (.t 20) (.t 23) (.c (.bool false)))])
 (.cond (.t 24) (.seq (.reg [o0 8 (.mov (.c (.bool true)))])
 (.jump .ret))
 .skip))
 (.seq (.dreg [o3 25 (.load (some 7) (.t 3)) 0 1,⟨o1 (.store 1 (.t 2) (.c (.bool false))),0,1⟩,⟨o1 (.store 7 (.t 4) (.t 25)),1,2⟩])
 (.seq (.reg [o0 26 (.load none (.t 5)),o0 27 (.load (some 7) (.t 3)),o0 28 (.call (.t 26) [.t 27]),o4 8 28])
 (.jump .ret))))
 .skip))
 (.seq (.seq (.reg [o0 29 (.load none (.t 1)),o0 30 (.nilCheck (.t 29)),o0 31 (.faddr (.t 30) 0),o0 32 (.faddr (.t 31) 0),o0 33 (.load none (.t 32)),o4 34 0,o0 35 (.iaddr none 2 (.t 33) (.t 34)),o0 36 (.faddr (.t 35) 0),o0 37 (.load none (.t 36)),o4 9 37])
 (.block 0 (.loop RB)))
 (.seq (.reg [o4 59 0,o0 60 (.iaddr (some 7) 1 (.t 3) (.t 59)),o1 (.store 1 (.t 60) (o5 0))])
 (.seq (.reg [o0 8 (.mov (.c (.bool true)))])
 (.jump .ret)))))⟩
def a469:AFunc:=⟨26,[.tmp 2],
 .seq (.reg [o0 1 (.box 7 (.t 0)),o0 2 (.mov (.c (.bool false)))])
 (.seq (.reg [o0 3 (.faddr (.t 1) 0),o0 4 (.load none (.t 3)),o0 5 (.mklit 1 [.t 4]),o0 6 (.call (o6 227) [(o5 1),(o5 6),(.t 5)]),o0 7 (.not (.t 6)),o4 8 7,o2 9 (.faddr (.t 1) 1) 8 true,o2 10 (.faddr (.t 9) 0) 8 true,o2 11 (.load none (.t 10)) 8 true,o2 12 (.faddr (.t 1) 1) 8 true,o2 13 (.faddr (.t 12) 1) 8 true,o2 14 (.load none (.t 13)) 8 true,o2 15 (.mklit 1 [.t 11,.t 14]) 8 true,o2 16 (.call (o6 227) [(o5 0),(o5 69),(.t 15)]) 8 true,o2 17 (.not (.t 16)) 8 true,o0 18 (.pick (.t 8) (.t 17) (.c (.bool false))),o4 19 18,o2 20 (.faddr (.t 1) 4) 19 true,o2 21 (.load none (.t 20)) 19 true,o2 22 (.mklit 1 [.t 21]) 19 true,o2 23 (.call (o6 227) [(o5 0),(o5 6),(.t 22)]) 19 true,o2 24 (.not (.t 23)) 19 true,o0 25 (.pick (.t 19) (.t 24) (.c (.bool false))),o4 2 25])
 (.jump .ret))⟩
def a470:AFunc:=⟨10,[.tmp 2],
 .seq (.reg [o0 1 (.box 7 (.t 0)),o0 2 (.mov (.c (.bool false)))])
 (.seq (.reg [o0 3 (.faddr (.t 1) 1),o0 4 (.faddr (.t 3) 0),o0 5 (.load none (.t 4)),o0 6 (.faddr (.t 1) 1),o0 7 (.faddr (.t 6) 1),o0 8 (.load none (.t 7)),o0 9 (.bin .leq (.t 5) (.t 8)),o4 2 9])
 (.jump .ret))⟩
def VJ:ACode:=.seq (.reg [o0 9 (.bin .lss (.t 8) (.t 7))])
 (.seq (.cond (.t 9) .skip
 (.jump (.exit 0)))
 (.seq (.block 1 (.seq (.reg [o4 10 8,o4 5 10])
 (.seq (.reg [o4 11 1,o4 12 0,o4 13 5,o0 14 (.iaddr none 3 (.t 12) (.t 13)),o0 15 (.load (some 3) (.t 14)),o0 16 (.call (.t 11) [.t 15])])
 (.cond (.t 16) (.seq (.reg [o4 17 5,o4 4 17])
 (.jump .ret))
 .skip))))
 (.reg [o0 18 (.bin .add (.t 8) (o5 1)),o4 8 18])))
def a471:AFunc:=⟨19,[.tmp 4],
 .seq (.reg [o0 4 (.mov (o5 0))])
 (.seq (.seq (.reg [o4 6 0,o0 7 (.len 1 (.t 6)),o0 8 (.mov (o5 0))])
 (.block 0 (.loop VJ)))
 (.seq (.reg [o0 4 (.mov (.c (.int .i64 (-1))))])
 (.jump .ret)))⟩
def T (f:FuncId):Option AFunc:=cond (Nat.ble f 220) (cond (Nat.ble f 74) (cond (Nat.ble f 18) (cond (Nat.ble f 10) (cond (Nat.ble f 4) (cond (Nat.ble f 2) (cond (Nat.beq f 2) (some a2) none) (cond (Nat.ble f 3) (cond (Nat.beq f 3) (some a3) none) (cond (Nat.beq f 4) (some a4) none))) (cond (Nat.ble f 6) (cond (Nat.ble f 5) (cond (Nat.beq f 5) (some a5) none) (cond (Nat.beq f 6) (some a6) none)) (cond (Nat.ble f 7) (cond (Nat.beq f 7) (some a7) none) (cond (Nat.beq f 10) (some a10) none)))) (cond (Nat.ble f 14) (cond (Nat.ble f 12) (cond (Nat.ble f 11) (cond (Nat.beq f 11) (some a11) none) (cond (Nat.beq f 12) (some a12) none)) (cond (Nat.ble f 13) (cond (Nat.beq f 13) (some a13) none) (cond (Nat.beq f 14) (some a14) none))) (cond (Nat.ble f 16) (cond (Nat.ble f 15) (cond (Nat.beq f 15) (some a15) none) (cond (Nat.beq f 16) (some a16) none)) (cond (Nat.ble f 17) (cond (Nat.beq f 17) (some a17) none) (cond (Nat.beq f 18) (some a18) none))))) (cond (Nat.ble f 64) (cond (Nat.ble f 26) (cond (Nat.ble f 20) (cond (Nat.ble f 19) (cond (Nat.beq f 19) (some a19) none) (cond (Nat.beq f 20) (some a20) none)) (cond (Nat.ble f 21) (cond (Nat.beq f 21) (some a21) none) (cond (Nat.beq f 26) (some a26) none))) (cond (Nat.ble f 44) (cond (Nat.ble f 29) (cond (Nat.beq f 29) (some a29) none) (cond (Nat.beq f 44) (some a44) none)) (cond (Nat.ble f 59) (cond (Nat.beq f 59) (some a59) none) (cond (Nat.beq f 64) (some a64) none)))) (cond (Nat.ble f 70) (cond (Nat.ble f 68) (cond (Nat.ble f 67) (cond (Nat.beq f 67) (some a67) none) (cond (Nat.beq f 68) (some a68) none)) (cond (Nat.ble f 69) (cond (Nat.beq f 69) (some a69) none) (cond (Nat.beq f 70) (some a70) none))) (cond (Nat.ble f 72) (cond (Nat.ble f 71) (cond (Nat.beq f 71) (some a71) none) (cond (Nat.beq f 72) (some a72) none)) (cond (Nat.ble f 73) (cond (Nat.beq f 73) (some a73) none) (cond (Nat.beq f 74) (some a74) none)))))) (cond (Nat.ble f 89) (cond (Nat.ble f 81) (cond (Nat.ble f 77) (cond (Nat.ble f 75) (cond (Nat.beq f 75) (some a75) none) (cond (Nat.ble f 76) (cond (Nat.beq f 76) (some a76) none) (cond (Nat.beq f 77) (some a77) none))) (cond (Nat.ble f 79) (cond (Nat.ble f 78) (cond (Nat.beq f 78) (some a78) none) (cond (Nat.beq f 79) (some a79) none)) (cond (Nat.ble f 80) (cond (Nat.beq f 80) (some a80) none) (cond (Nat.beq f 81) (some a81) none)))) (cond (Nat.ble f 85) (cond (Nat.ble f 83) (cond (Nat.ble f 82) (cond (Nat.beq f 82) (some a82) none) (cond (Nat.beq f 83) (some a83) none)) (cond (Nat.ble f 84) (cond (Nat.beq f 84) (some a84) none) (cond (Nat.beq f 85) (some a85) none))) (cond (Nat.ble f 87) (cond (Nat.ble f 86) (cond (Nat.beq f 86) (some a86) none) (cond (Nat.beq f 87) (some a87) none)) (cond (Nat.ble f 88) (cond (Nat.beq f 88) (some a88) none) (cond (Nat.beq f 89) (some a89) none))))) (cond (Nat.ble f 97) (cond (Nat.ble f 93) (cond (Nat.ble f 91) (cond (Nat.ble f 90) (cond (Nat.beq f 90) (some a90) none) (cond (Nat.beq f 91) (some a91) none)) (cond (Nat.ble f 92) (cond (Nat.beq f 92) (some a92) none) (cond (Nat.beq f 93) (some a93) none))) (cond (Nat.ble f 95) (cond (Nat.ble f 94) (cond (Nat.beq f 94) (some a94) none) (cond (Nat.beq f 95) (some a95) none)) (cond (Nat.ble f 96) (cond (Nat.beq f 96) (some a96) none) (cond (Nat.beq f 97) (some a97) none)))) (cond (Nat.ble f 117) (cond (Nat.ble f 99) (cond (Nat.ble f 98) (cond (Nat.beq f 98) (some a98) none) (cond (Nat.beq f 99) (some a99) none)) (cond (Nat.ble f 111) (cond (Nat.beq f 111) (some a111) none) (cond (Nat.beq f 117) (some a117) none))) (cond (Nat.ble f 170) (cond (Nat.ble f 118) (cond (Nat.beq f 118) (some a118) none) (cond (Nat.beq f 170) (some a170) none)) (cond (Nat.ble f 204) (cond (Nat.beq f 204) (some a204) none) (cond (Nat.beq f 220) (some a220) none))))))) (cond (Nat.ble f 352) (cond (Nat.ble f 235) (cond (Nat.ble f 227) (cond (Nat.ble f 223) (cond (Nat.ble f 221) (cond (Nat.beq f 221) (some a221) none) (cond (Nat.ble f 222) (cond (Nat.beq f 222) (some a222) none) (cond (Nat.beq f 223) (some a223) none))) (cond (Nat.ble f 225) (cond (Nat.ble f 224) (cond (Nat.beq f 224) (some a224) none) (cond (Nat.beq f 225) (some a225) none)) (cond (Nat.ble f 226) (cond (Nat.beq f 226) (some a226) none) (cond (Nat.beq f 227) (some a227) none)))) (cond (Nat.ble f 231) (cond (Nat.ble f 229) (cond (Nat.ble f 228) (cond (Nat.beq f 228) (some a228) none) (cond (Nat.beq f 229) (some a229) none)) (cond (Nat.ble f 230) (cond (Nat.beq f 230) (some a230) none) (cond (Nat.beq f 231) (some a231) none))) (cond (Nat.ble f 233) (cond (Nat.ble f 232) (cond (Nat.beq f 232) (some a232) none) (cond (Nat.beq f 233) (some a233) none)) (cond (Nat.ble f 234) (cond (Nat.beq f 234) (some a234) none) (cond (Nat.beq f 235) (some a235) none))))) (cond (Nat.ble f 344) (cond (Nat.ble f 244) (cond (Nat.ble f 237) (cond (Nat.ble f 236) (cond (Nat.beq f 236) (some a236) none) (cond (Nat.beq f 237) (some a237) none)) (cond (Nat.ble f 238) (cond (Nat.beq f 238) (some a238) none) (cond (Nat.beq f 244) (some a244) none))) (cond (Nat.ble f 257) (cond (Nat.ble f 254) (cond (Nat.beq f 254) (some a254) none) (cond (Nat.beq f 257) (some a257) none)) (cond (Nat.ble f 331) (cond (Nat.beq f 331) (some a331) none) (cond (Nat.beq f 344) (some a344) none)))) (cond (Nat.ble f 348) (cond (Nat.ble f 346) (cond (Nat.ble f 345) (cond (Nat.beq f 345) (some a345) none) (cond (Nat.beq f 346) (some a346) none)) (cond (Nat.ble f 347) (cond (Nat.beq f 347) (some a347) none) (cond (Nat.beq f 348) (some a348) none))) (cond (Nat.ble f 350) (cond (Nat.ble f 349) (cond (Nat.beq f 349) (some a349) none) (cond (Nat.beq f 350) (some a350) none)) (cond (Nat.ble f 351) (cond (Nat.beq f 351) (some a351) none) (cond (Nat.beq f 352) (some a352) none)))))) (cond (Nat.ble f 367) (cond (Nat.ble f 359) (cond (Nat.ble f 355) (cond (Nat.ble f 353) (cond (Nat.beq f 353) (some a353) none) (cond (Nat.ble f 354) (cond (Nat.beq f 354) (some a354) none) (cond (Nat.beq f 355) (some a355) none))) (cond (Nat.ble f 357) (cond (Nat.ble f 356) (cond (Nat.beq f 356) (some a356) none) (cond (Nat.beq f 357) (some a357) none)) (cond (Nat.ble f 358) (cond (Nat.beq f 358) (some a358) none) (cond (Nat.beq f 359) (some a359) none)))) (cond (Nat.ble f 363) (cond (Nat.ble f 361) (cond (Nat.ble f 360) (cond (Nat.beq f 360) (some a360) none) (cond (Nat.beq f 361) (some a361) none)) (cond (Nat.ble f 362) (cond (Nat.beq f 362) (some a362) none) (cond (Nat.beq f 363) (some a363) none))) (cond (Nat.ble f 365) (cond (Nat.ble f 364) (cond (Nat.beq f 364) (some a364) none) (cond (Nat.beq f 365) (some a365) none)) (cond (Nat.ble f 366) (cond (Nat.beq f 366) (some a366) none) (cond (Nat.beq f 367) (some a367) none))))) (cond (Nat.ble f 443) (cond (Nat.ble f 371) (cond (Nat.ble f 369) (cond (Nat.ble f 368) (cond (Nat.beq f 368) (some a368) none) (cond (Nat.beq f 369) (some a369) none)) (cond (Nat.ble f 370) (cond (Nat.beq f 370) (some a370) none) (cond (Nat.beq f 371) (some a371) none))) (cond (Nat.ble f 378) (cond (Nat.ble f 372) (cond (Nat.beq f 372) (some a372) none) (cond (Nat.beq f 378) (some a378) none)) (cond (Nat.ble f 386) (cond (Nat.beq f 386) (some a386) none) (cond (Nat.beq f 443) (some a443) none)))) (cond (Nat.ble f 467) (cond (Nat.ble f 445) (cond (Nat.ble f 444) (cond (Nat.beq f 444) (some a444) none) (cond (Nat.beq f 445) (some a445) none)) (cond (Nat.ble f 466) (cond (Nat.beq f 466) (some a466) none) (cond (Nat.beq f 467) (some a467) none))) (cond (Nat.ble f 469) (cond (Nat.ble f 468) (cond (Nat.beq f 468) (some a468) none) (cond (Nat.beq f 469) (some a469) none)) (cond (Nat.ble f 470) (cond (Nat.beq f 470) (some a470) none) (cond (Nat.beq f 471) (some a471) none)))))))
end Go.Am.Room
namespace Go.Am
def yH:Value→Option AV
 |.bool b=>some (.bool b)
 |.int k n=>some (.int k n)
 |.string s=>some (.str s)
 |.pointer none=>some .nilPtr
 |.slice none 0 0=>some (.lit [] true none)
 |.map none=>some .nilMap
 |.nilFunc=>some .nilFunc
 |_=>none
def qL:List Value→Option (List AV)
 |[]=>some []
 |v::vs=>match yH v,qL vs with|some a,some b=>some (a::b)|_,_=>none
def ofValue:Value→Option AV
 |.agg cs=>match qL cs.toList with|some l=>some (.agg l)|none=>none
 |.tuple vs=>if vs.size=0 then some (.tuple []) else none
 |v=>yH v
def opd:Operand→Option AOpd
 |.tmp t=>some (.t t)
 |.const v=>match ofValue v with|some a=>some (.c a)|none=>none
 |.func f=>some (.c (.func f [] []))
 |.global _=>none
def C9:List Operand→Option (List AOpd)
 |[]=>some []
 |x::xs=>match opd x,C9 xs with|some a,some b=>some (a::b)|_,_=>none
def jH:Option Operand→Option (Option AOpd)
 |none=>some none
 |some x=>match opd x with|some a=>some (some a)|none=>none
section
variable (P:Program) (h:String→Bool)
def fI (t:TypeId):Option Bool :=
 match P.underlying t with
 |some (.struct _)|some (.array _ _)=>some true
 |some _=>some false
 |none=>none
def fG (t:TypeId):Option Nat :=
 match P.info? t with
 |some i=>if i.size=0 then none else some i.size
 |none=>none
def oZ (t:TypeId):Option (Option Nat) :=
 match fI P t,fG P t with
 |some true,some n=>some (some n)
 |some false,some 1=>some none
 |_,_=>none
def JM (t:TypeId):Option AV :=
 match P.info? t with
 |some i=>match i.zero with|some v=>ofValue v|none=>none
 |none=>none
def fV (t:TypeId):Option (List AV) :=
 match JM P t,fG P t with
 |some z,some n=>if z.cells.length=n∧z.cells.all (·.cell)=true then some z.cells else none
 |_,_=>none
mutual
def plainT:Nat→TypeId→Option (List SK)
 |0,_=>none
 |d+1,t =>
  match P.underlying t with
  |some .bool=>some [.b]
  |some (.int _)=>some [.i]
  |some .string=>some [.s]
  |some (.struct fs)=>if P.stoodInHeld t then none else plainFields d fs.toList 0
  |some (.array n e) =>
   match plainT d e,P.info? e with
   |some ks,some i=>if i.size=ks.length then some (List.replicate n ks).flatten else none
   |_,_=>none
  |_=>none
def plainFields:Nat→List Field→Nat→Option (List SK)
 |0,_,_=>none
 |_+1,[],_=>some []
 |d+1,f::fs,n =>
  if f.name = "_"∨f.offset≠n then none else
  match plainT d f.type,P.info? f.type with
  |some ks,some i=>if i.size=ks.length then (match plainFields d fs (n+ks.length) with|some r=>some (ks++r)|none=>none) else none
  |_,_=>none
end
def uB:Nat:=60
def eqT (t:TypeId):Option EqTy :=
 match plainT P uB t,fI P t with
 |some [k],some false=>some (.one k)
 |some ks,some true=>if P.eqGuardType P.depth t then none else some (.agg ks)
 |_,_=>none
def wH (s:TypeId) (f:Nat):Option Field :=
 match P.underlying s with
 |some (.struct fs) =>
  match fs[f]? with
  |some f=>match fG P f.type with|some _=>some f|none=>none
  |none=>none
 |_=>none
def DW (t:TypeId):Bool :=
 match P.underlying t with
 |some (.struct fs)=>fs.toList.all fun f=>(P.info? f.type).isSome
 |some (.array _ e)=>(P.info? e).isSome
 |_=>false
def mG (t:TypeId):List (Nat×Operand)→Option (List (Nat×Nat×AOpd))
 |[]=>some []
 |(i,x)::rest =>
  let place:Option (Nat×Nat):=match P.underlying t with
   |some (.struct fs)=>match fs[i]? with|some f=>(match fG P f.type with|some n=>some (f.offset,n)|none=>none)|none=>none
   |some (.array n e)=>if i<n then (match fG P e with|some m=>some (i*m,m)|none=>none) else none
   |_=>none
  match place,opd x,mG t rest with
  |some (off,n),some a,some r=>some ((off,n,a)::r)
  |_,_,_=>none
def lX:Nat→List (Nat×Operand)→Option (List AOpd)
 |_,[]=>some []
 |k,(i,x)::rest=>if i=k then (match opd x,lX (k+1) rest with|some a,some b=>some (a::b)|_,_=>none) else none
def kQ (t:TypeId):Option (TypeId×Nat) :=
 match P.underlying t with
 |some (.slice e)=>match fG P e with|some n=>some (e,n)|none=>none
 |_=>none
def qR (pos:String) (c:Call):Option AOp :=
 match c.callee,C9 c.args.toList with
 |.value f,some args=>match opd f with|some g=>some (.call g args)|none=>none
 |.builtin .len,some [x] =>
  match c.argTypes[0]? with
  |some t =>
   match P.underlying t with
   |some .string=>some (.len 0 x)
   |some (.slice _)=>some (.len 1 x)
   |some (.map _ _)=>some (.len 2 x)
   |some (.array n _)=>some (.mov (.c (.int .i64 n)))
   |_=>none
  |none=>none
 |.builtin .append,some [x,y] =>
  match c.argTypes[0]?,c.argTypes[1]? with
  |some t,some u =>
   match kQ P t,kQ P u,P.info? (match P.underlying t with|some (.slice e)=>e|_=>0) with
   |some (e,sz),some (e',_),some i=>if t=u∧e=e'∧0<i.bytes then (match fV P e with|some _=>some (if h pos then .apref sz i.bytes x y else .append sz i.bytes x y)|none=>none) else none
   |_,_,_=>none
  |_,_=>none
 |.builtin .copy,some [x,y] =>
  match c.argTypes[0]?,c.argTypes[1]? with
  |some t,some u =>
   match kQ P t,kQ P u with
   |some (e,sz),some (e',_)=>if e=e' then some (.copy sz x y) else none
   |_,_=>none
  |_,_=>none
 |.builtin .min,some xs=>some (.min xs)
 |.builtin .max,some xs=>some (.max xs)
 |_,_=>none
def bN (pos:String):Op→Option AOp
 |.move x|.assign x=>match opd x with|some a=>some (.mov a)|none=>none
 |.pick c a b=>match opd c,opd a,opd b with|some c,some a,some b=>some (.pick c a b)|_,_,_=>none
 |.alloc t=>match fV P t with|some z=>some (.alloc z)|none=>none
 |.box t x=>match opd x,oZ P t,fG P t with|some a,some _,some n=>some (.box n a)|_,_,_=>none
 |.build t parts =>
  match fV P t,DW P t,mG P t parts.toList with
  |some z,true,some ps=>some (.build z ps)
  |_,_,_=>none
 |.buildSlice t n parts =>
  match kQ P t,lX 0 parts.toList with
  |some (e,sz),some xs=>if xs.length=n∧n*sz≤2^24 then (match fV P e with|some _=>some (if (h pos&&n != 0)=true then .mkref sz xs else .mklit sz xs)|none=>none) else none
  |_,_=>none
 |.load t a=>match oZ P t,opd a with|some sh,some x=>some (.load sh x)|_,_=>none
 |.store t a x=>match fG P t,opd a,opd x with|some n,some a,some x=>some (.store n a x)|_,_,_=>none
 |.nilCheck x=>match opd x with|some a=>some (.nilCheck a)|none=>none
 |.binOp op t x y _ =>
  match opd x,opd y with
  |some a,some b =>
   match op with
   |.eql=>match eqT P t with|some sh=>some (.eql sh false a b)|none=>none
   |.neq=>match eqT P t with|some sh=>some (.eql sh true a b)|none=>none
   |op =>
    match P.underlying t with
    |some (.int _)=>some (.bin op a b)
    |_=>none
  |_,_=>none
 |.unOp op _ x =>
  match op,opd x with
  |.not,some a=>some (.not a)
  |.neg,some a=>some (.neg a)
  |_,_=>none
 |.convert s d x =>
  match P.underlying s,P.underlying d,opd x with
  |some (.int _),some (.int k),some a=>some (.conv k a)
  |_,_,_=>none
 |.makeFunc fn first cap =>
  match fn,C9 first.toList,C9 cap.toList with
  |.func f,some a,some b=>some (.mkfun f a b)
  |_,_,_=>none
 |.makeMap t none=>match P.underlying t with|some (.map _ _)=>some .mkmap|_=>none
 |.makeSlice t l c =>
  match kQ P t,opd l,opd c with
  |some (e,_),some l,some c =>
   match fV P e,P.info? e with
   |some z,some i=>if 0<i.bytes then some (.mkslice z i.bytes l c) else none
   |_,_=>none
  |_,_,_=>none
 |.slice t x lo hi mx =>
  match opd x,jH lo,jH hi,jH mx with
  |some x,some lo,some hi,some mx =>
   match P.underlying t with
   |some (.slice e)=>match fG P e with|some sz=>some (.slicev sz x lo hi mx)|none=>none
   |some (.array n e)=>match fG P e,mx with|some sz,none=>some (.slicea n sz x lo hi)|_,_=>none
   |_=>none
  |_,_,_,_=>none
 |.fieldAddr t x f=>match wH P t f,opd x with|some f,some a=>some (.faddr a f.offset)|_,_=>none
 |.field t x f =>
  match wH P t f,opd x with
  |some f,some a=>match oZ P f.type with|some sh=>some (.field a f.offset sh)|none=>none
  |_,_=>none
 |.indexAddr t x i =>
  match opd x,opd i with
  |some x,some i =>
   match P.underlying t with
   |some (.array n e)=>match fG P e with|some sz=>some (.iaddr (some n) sz x i)|none=>none
   |some (.slice e)=>match fG P e with|some sz=>some (.iaddr none sz x i)|none=>none
   |_=>none
  |_,_=>none
 |.index t x i =>
  match opd x,opd i with
  |some x,some i =>
   match P.underlying t with
   |some .string=>some (.sindex x i)
   |some (.array n e)=>match fG P e,oZ P e with|some sz,some sh=>some (.index n sz sh x i)|_,_=>none
   |_=>none
  |_,_=>none
 |.lookup t m k ok =>
  match opd m,opd k with
  |some m,some k =>
   match P.underlying t with
   |some (.map key elem)=>(match eqT P key,JM P elem with|some sh,some z=>some (.lookup sh ok z m k)|_,_=>none)
   |_=>none
  |_,_=>none
 |.mapUpdate t m k v =>
  match opd m,opd k,opd v with
  |some m,some k,some v =>
   match P.underlying t with
   |some (.map key _)=>(match eqT P key with|some sh=>some (.mapset sh m k v)|none=>none)
   |_=>none
  |_,_,_=>none
 |.range t x =>
  match opd x with
  |some x =>
   match P.underlying t with
   |some .string=>some (.srange x)
   |some (.map _ _)=>some (.mrange x)
   |_=>none
  |none=>none
 |.next x s=>match opd x with|some a=>if s then some (.snext a) else some (.mnext a)|none=>none
 |.entry x=>match opd x with|some a=>some (.entry a)|none=>none
 |.extract x i=>match opd x with|some a=>some (.ext a i)|none=>none
 |.call c=>qR P h pos c
 |_=>none
def mT (n:Nat) (ops:Array Oper) (o:Oper):Option AOper :=
 let d:Bool:=match o.dst with|some d=>decide (d<n)|none=>true
 let g:Option (Option (Nat×Bool)):=match o.guard with
  |none=>some none
  |some (j,want)=>match (ops[j]?).bind (·.dst) with|some t=>some (some (t,want))|none=>none
 match bN P h o.pos o.op,g with
 |some op,some g=>if d then some { dst:=o.dst,op,guard:=g } else none
 |_,_=>none
def gK (n:Nat) (ops:Array Oper):List Oper→Option (List AOper)
 |[]=>some []
 |o::os=>match mT P h n ops o,gK n ops os with|some a,some b=>some (a::b)|_,_=>none
def AOpd.tmps:AOpd→List Nat
 |.t n=>[n]
 |.c _=>[]
def AOp.tmps:AOp→List Nat
 |.mov x|.box _ x|.load _ x|.nilCheck x|.not x|.neg x|.conv _ x|.faddr x _|.field x _ _|.srange x|.snext x|.mrange x|.mnext x|.entry x|.ext x _|.len _ x=>x.tmps
 |.pick c a b|.mapset _ c a b=>c.tmps++a.tmps++b.tmps
 |.alloc _|.mkmap=>[]
 |.build _ ps=>ps.flatMap fun p=>p.2.2.tmps
 |.mklit _ xs|.mkref _ xs|.min xs|.max xs=>xs.flatMap AOpd.tmps
 |.store _ a b|.bin _ a b|.eql _ _ a b|.append _ _ a b|.apref _ _ a b|.copy _ a b|.mkslice _ _ a b|.iaddr _ _ a b|.index _ _ _ a b|.sindex a b|.lookup _ _ _ a b=>a.tmps++b.tmps
 |.mkfun _ a b=>a.flatMap AOpd.tmps++b.flatMap AOpd.tmps
 |.slicev _ x l h m=>x.tmps++(l.toList++h.toList++m.toList).flatMap AOpd.tmps
 |.slicea _ _ x l h=>x.tmps++(l.toList++h.toList).flatMap AOpd.tmps
 |.call f xs=>f.tmps++xs.flatMap AOpd.tmps
def AOper.tmps (o:AOper):List Nat:=o.op.tmps++(match o.guard with|some (t,_)=>[t]|none=>[])
def cR (os:List AOper):List Nat:=(os.zipIdx.filter fun p=>p.1.op.acts).map (·.2)
def M5 (md:Region.Mode) (ops:Array Oper) (i:Nat):Nat :=
 match ops[i]? with
 |none=>0
 |some o =>
  let j:=o.after.toList.foldl (fun m e=>if Region.binds md e&&decide (m<e.on) then e.on else m) i
  if j=i then i*(ops.size+1) else j*(ops.size+1)+1+i
def sC (md:Region.Mode) (ops:Array Oper):Bool :=
 (List.range ops.size).all fun i=>((ops[i]?).map fun o=>o.after.toList.all fun e=>!Region.binds md e||(decide (e.on<ops.size)&&decide (M5 md ops e.on<M5 md ops i))).getD false
def A3 (ops:Array Oper):Bool:=sC .any ops&&sC .text ops&&sC .gc ops
def o8:Code→Bool
 |.seq a b|.cond _ a b=>o8 a&&o8 b
 |.block _ b|.loop b|.scope b=>o8 b
 |.rangeFunc ..=>false
 |_=>true
def CE (before:Array Nat) (os:List AOper):Bool :=
 let ps:=os.zipIdx
 let acts:=cR os
 (ps.all fun (o,i)=>ps.all fun (o',j)=>i==j||!(o.dst.isSome&&o.dst==o'.dst)) &&
 (ps.all fun (o,i)=>o.tmps.all fun t=>ps.all fun (o',j)=>o'.dst != some t||(decide (j<i)&&(before.getD i 0).testBit j)||(decide (i<j)&&(before.getD j 0).testBit i)) &&
 (acts.all fun i=>acts.all fun j=>!(decide (i<j))||(before.getD j 0).testBit i)
def iS (before:Array Nat) (os:List AOper):List ADOper :=
 let acts:=cR os
 os.zipIdx.map fun (o,i) =>
  { o,lo:=(acts.filter fun a=>(before.getD i 0).testBit a).length,hi:=(acts.takeWhile fun a=>!(before.getD a 0).testBit i).length }
def comp (n:Nat):Code→Option ACode
 |.skip|.label _=>some .skip
 |.region _ ops draw =>
  match gK P h n ops ops.toList with
  |some os=>if draw then (if A3 ops&&CE (Region.before ops) os then some (.dreg (iS (Region.before ops) os)) else none) else some (.reg os)
  |none=>none
 |.seq a b=>match comp n a,comp n b with|some x,some y=>some (.seq x y)|_,_=>none
 |.cond c a b=>match opd c,comp n a,comp n b with|some c,some x,some y=>some (.cond c x y)|_,_,_=>none
 |.block id b=>match comp n b with|some x=>some (.block id x)|none=>none
 |.loop b=>match comp n b with|some x=>some (.loop x)|none=>none
 |.rangeFunc f ps a b=>match opd f,comp n a,comp n b with|some f,some x,some y=>if ps.toList.all (fun p=>decide (p<n))&&o8 a&&o8 b then some (.rangeFunc f ps.toList x y) else none|_,_,_=>none
 |.exit id=>some (.jump (.exit id))
 |.ret=>some (.jump .ret)
 |.scope b=>match comp n b with|some x=>some (.scope x)|none=>none
 |.goto _|.refuse _=>none
def nR:List ResultVar→Option (List ARes)
 |[]=>some []
 |.tmp t::rs=>match nR rs with|some l=>some (.tmp t::l)|none=>none
 |.cell a t::rs=>match oZ P t,nR rs with|some sh,some l=>some (.cell a sh::l)|_,_=>none
def aD (fn:Func):Option AFunc :=
 match fn.body with
 |none=>none
 |some c =>
  match comp P h fn.ntmps c,nR P fn.results.toList with
  |some b,some rs=>if fn.name== "runtime.NumGoroutine" then none else some { ntmps:=fn.ntmps,results:=rs,body:=b }
  |_,_=>none
end
end Go.Am
namespace Go.Am
structure Gh where
 loc:Nat→Option Nat
 lim:Nat→Option Nat
 tok:Nat→Option (Option Addr×Nat×Nat)
 own:Nat→Option Nat
 defs:Nat→Prop
 B0:Nat
 h0:Array Obj
 /-- blocks that have no place,and get none;and what they hold -/
 res:Nat→Option (Option (List AV))
structure LitAt (G:Gh) (w:World) (xs:List AV) (tk:Option Nat) (b off sz:Nat):Prop where
 lim:∃ L,G.lim b=some L∧off+xs.length*sz≤L
 own:∀ t,G.own b=some t→tk=some t
 size:∀ (i:Nat) (x:AV),xs[i]? = some x→x.cells.length=sz
 cells:∀ k,k<xs.length*sz→(w.cell? ⟨b,off+k,none⟩).isSome=true
def nB (G:Gh) (full:Bool) (tk:Option Nat) (n:Nat) (base:Option Addr) (cap:Nat):Prop :=
 n≤cap∧(full=true→cap=n) ∧
 ∀ t,tk=some t→∃ b m c,G.tok t=some (b,m,c)∧n≤m∧(full=false→m=n→b=base∧c=cap)
inductive RelV (G:Gh) (w:World):AV→Value→Prop where
 |undef (v:Value):RelV G w .undef v
 |int (k:IntKind) (n:Int):RelV G w (.int k n) (.int k n)
 |bool (b:Bool):RelV G w (.bool b) (.bool b)
 |str (s:ByteArray):RelV G w (.str s) (.string s)
 |func {f first cap first' cap'} (h1:first'.size=first.length) (h2:cap'.size=cap.length)
   (h3:∀ (i:Nat) (a:AV) (v:Value),first[i]? = some a→first'[i]? = some v→RelV G w a v) (h4:∀ (i:Nat) (a:AV) (v:Value),cap[i]? = some a→cap'[i]? = some v→RelV G w a v) :
   RelV G w (.func f first cap) (.func (.func f) first' cap')
 |nilFunc:RelV G w .nilFunc .nilFunc
 |yield {id b} (h:G.loc id=some b):RelV G w (.yield id) (.func (.yield b) #[] #[])
 |ptr {id off b} (h:G.loc id=some b):RelV G w (.ptr id off) (.pointer (some ⟨b,off,none⟩))
 |nilPtr:RelV G w .nilPtr (.pointer none)
 |lptr {xs i off tk b o sz} (ht:∀ t,tk=some t→∃ p,G.tok t=some p) (hi:i<xs.length) (hl:LitAt G w xs tk b o sz)
   (hc:∀ (i:Nat) (x:AV) (j:Nat) (c:AV) (u:Value),xs[i]? = some x→x.cells[j]? = some c→w.cell? ⟨b,o+(i*sz+j),none⟩=some u→RelV G w c u) :
   RelV G w (.lptr xs i off tk) (.pointer (some ⟨b,o+i*sz+off,none⟩))
 |nil {full tk base cap} (ht:nB G full tk 0 base cap) (hb:base=none→cap=0):RelV G w (.lit [] full tk) (.slice base 0 cap)
 |lit {xs full tk b o sz cap} (ht:nB G full tk xs.length (some ⟨b,o,none⟩) cap) (hl:LitAt G w xs tk b o sz)
   (hc:∀ (i:Nat) (x:AV) (j:Nat) (c:AV) (u:Value),xs[i]? = some x→x.cells[j]? = some c→w.cell? ⟨b,o+(i*sz+j),none⟩=some u→RelV G w c u) :
   RelV G w (.lit xs full tk) (.slice (some ⟨b,o,none⟩) xs.length cap)
 |ref {id off len sz b base cap} (h:G.loc id=some b) (hb:len≠0→base=some ⟨b,off,none⟩) (hc:len≤cap) (hn:base=none→cap=0) :
   RelV G w (.ref id off len sz) (.slice base len cap)
 |map {id b} (h:G.loc id=some b):RelV G w (.map id) (.map (some b))
 |nilMap:RelV G w .nilMap (.map none)
 |agg {cs vs} (h:vs.size=cs.length) (hc:∀ (i:Nat) (a:AV) (v:Value),cs[i]? = some a→vs[i]? = some v→RelV G w a v):RelV G w (.agg cs) (.agg vs)
 |tuple {cs vs} (h:vs.size=cs.length) (hc:∀ (i:Nat) (a:AV) (v:Value),cs[i]? = some a→vs[i]? = some v→RelV G w a v):RelV G w (.tuple cs) (.tuple vs)
def aBE:LS→LoopState
 |.ready=>.ready
 |.busy=>.busy
 |.done=>.done
def NB:AJump→Code
 |.ret=>.ret
 |.exit id=>.exit id
def eT (G:Gh) (w:World) (n:Nat) (env:Env) (tmps:Array Value):Prop :=
 tmps.size=n∧∀ t,RelV G w (Env.get env t) (tmps.getD t Go.undef)
def g7 (P:Program) (h:String→Bool) (G:Gh) (w:World):ABlk→Nat→Prop
 |.cells cs,b=>∃ vs T,w.heap[b]? = some (.cells vs T (0,0))∧cs.length≤vs.size∧∀ (i:Nat) (a:AV) (v:Value),cs[i]? = some a→vs[i]? = some v→RelV G w a v
 |.map es,b=>∃ ents,w.heap[b]? = some (.map ents es.length)∧ents.size=es.length ∧
   (∀ (i:Nat) (e:MapEntry),ents[i]? = some e→e.born=i)∧∀ (i:Nat) (p:AV×AV) (e:MapEntry),es[i]? = some p→ents[i]? = some e→RelV G w p.1 e.key∧RelV G w p.2 e.val
 |.tok _ _ _,_=>False
 |.siter s pos,b=>w.heap[b]? = some (.stringIter s pos)
 |.miter m n left last,b=>∃ bm seen stepped,G.loc m=some bm∧w.heap[b]? = some (.mapIter (some bm) n seen stepped) ∧
   left=(List.range n).filter (fun i=>!seen.contains i)∧seen.back? = last∧(seen.isEmpty=false→stepped=n)
 |.loop st pend env ps a c,b=>∃ l n,w.heap[b]? = some (.loop l)∧l.state=aBE st∧l.pending=pend.map NB∧l.params.toList=ps ∧
   comp P h n l.assign=some a∧comp P h n l.body=some c∧(∀ p∈ps,p<n)∧eT G w n env l.tmps∧o8 l.assign=true∧o8 l.body=true
 |.dead,_=>True
def HK:Obj:=.deferred none
structure RelS (P:Program) (h:String→Bool) (G:Gh) (w:World) (σ:St):Prop where
 lt:∀ id b,G.loc id=some b→id<σ.length
 blk:∀ id b x,G.loc id=some b→σ[id]? = some x→g7 P h G w x b
 inj:∀ i j b,G.loc i=some b→G.loc j=some b→i=j
 fresh:∀ id b,G.loc id=some b→G.B0≤b∧b<w.heap.size∧G.lim b=none∧¬G.defs b
 lim:∀ b L,G.lim b=some L→∃ vs T fr,w.heap[b]? = some (.cells vs T fr)∧L≤vs.size∧(b<G.B0→G.h0[G.B0+b]? = some HK)
 tok:∀ t b n c,G.tok t=some (b,n,c)→∃ sz ex,σ[t]? = some (.tok sz n ex)∧n≤c∧(ex=false→c=n) ∧
  (ex=true→∃ bb vs T,b=some ⟨bb,0,none⟩∧G.own bb=some t∧G.lim bb=some (n*sz)∧G.B0≤bb ∧
   w.heap[bb]? = some (.cells vs T (0,0))∧c*sz≤vs.size)
 own:∀ b t,G.own b=some t→b<w.heap.size∧∃ p,G.tok t=some p
 defs:∀ r,G.defs r→w.heap[r]? = some (.deferred (some []))∧G.B0≤r∧G.lim r=none
 base:∀ b,b<G.B0→w.heap[b]? = G.h0[b]?
 size:G.B0≤w.heap.size
 res:∀ id r,G.res id=some r→G.loc id=none∧id<σ.length∧∀ cs,r=some cs→σ[id]? = some (.cells cs)
structure Evo (G:Gh) (w:World) (G':Gh) (w':World):Prop where
 loc:∀ id b,G.loc id=some b→G'.loc id=some b
 lim:∀ b L,G.lim b=some L→∃ L',G'.lim b=some L'∧L≤L'∧∀ k,k<L→w'.cell? ⟨b,k,none⟩=w.cell? ⟨b,k,none⟩
 tok:∀ t b n c,G.tok t=some (b,n,c)→∃ b' n' c',G'.tok t=some (b',n',c')∧n≤n'∧(n'=n→b'=b∧c'=c)
 own:∀ b L t,G.lim b=some L→G'.own b=some t→G.own b=some t
 defs:∀ r,G.defs r→G'.defs r
 B0:G'.B0=G.B0
 h0:G'.h0=G.h0
 os:w'.os=w.os
 tape:w'.tape=w.tape
 output:w'.output=w.output
 size:w.heap.size≤w'.heap.size
 res:∀ id r,G.res id=some r→G'.res id=some r
theorem Evo.refl (G:Gh) (w:World):Evo G w G w :=
 ⟨fun _ _ h=>h,fun b L h=>⟨L,h,Nat.le_refl _,fun _ _=>rfl⟩,fun t b n c h=>⟨b,n,c,h,Nat.le_refl _,fun _=>⟨rfl,rfl⟩⟩,
  fun _ _ _ _ h=>h,fun _ h=>h,rfl,rfl,rfl,rfl,rfl,Nat.le_refl _,fun _ _ h=>h⟩
theorem Evo.trans {G1 w1 G2 w2 G3 w3} (h:Evo G1 w1 G2 w2) (k:Evo G2 w2 G3 w3):Evo G1 w1 G3 w3 where
 loc id b e:=k.loc _ _ (h.loc _ _ e)
 lim b L e:=by
  obtain ⟨L2,e2,l2,c2⟩:=h.lim _ _ e
  obtain ⟨L3,e3,l3,c3⟩:=k.lim _ _ e2
  exact ⟨L3,e3,Nat.le_trans l2 l3,fun i hi=>(c3 i (Nat.lt_of_lt_of_le hi l2)).trans (c2 i hi)⟩
 tok t b n c e:=by
  obtain ⟨b2,n2,c2,e2,l2,q2⟩:=h.tok _ _ _ _ e
  obtain ⟨b3,n3,c3,e3,l3,q3⟩:=k.tok _ _ _ _ e2
  refine ⟨b3,n3,c3,e3,Nat.le_trans l2 l3,fun hn=>?_⟩
  have:n2=n:=by omega
  obtain ⟨a1,a2⟩:=q2 this
  obtain ⟨a3,a4⟩:=q3 (by omega)
  exact ⟨a3.trans a1,a4.trans a2⟩
 own b L t e e3:=by
  obtain ⟨L2,e2,_,_⟩:=h.lim _ _ e
  exact h.own _ _ _ e (k.own _ _ _ e2 e3)
 defs r e:=k.defs _ (h.defs _ e)
 B0:=k.B0.trans h.B0
 h0:=k.h0.trans h.h0
 os:=k.os.trans h.os
 tape:=k.tape.trans h.tape
 output:=k.output.trans h.output
 size:=Nat.le_trans h.size k.size
 res id r e:=k.res _ _ (h.res _ _ e)
theorem nB.mono {G w G' w' full tk n base cap} (he:Evo G w G' w') (h:nB G full tk n base cap):nB G' full tk n base cap:=by
 obtain ⟨h1,h2,h3⟩:=h
 refine ⟨h1,h2,fun t ht=>?_⟩
 obtain ⟨b,m,c,e1,e2,e3⟩:=h3 t ht
 obtain ⟨b',m',c',e1',l,q⟩:=he.tok _ _ _ _ e1
 refine ⟨b',m',c',e1',Nat.le_trans e2 l,fun hf hm=>?_⟩
 have:m=n:=by omega
 obtain ⟨q1,q2⟩:=q (by omega)
 obtain ⟨r1,r2⟩:=e3 hf this
 exact ⟨q1.trans r1,q2.trans r2⟩
theorem LitAt.cellOf {G w xs tk b o sz} (h:LitAt G w xs tk b o sz) {i:Nat} {x:AV} {j:Nat} {c:AV} (hx:xs[i]? = some x) (hc:x.cells[j]? = some c) :
  i*sz+j<xs.length*sz:=by
 have hi:i<xs.length:=(List.getElem?_eq_some_iff.1 hx).1
 have hj:j<sz:=by rw [←h.size i x hx];exact (List.getElem?_eq_some_iff.1 hc).1
 calc i*sz+j<i*sz+sz:=by omega
  _=(i+1)*sz:=by rw [Nat.add_mul];omega
  _≤xs.length*sz:=Nat.mul_le_mul_right _ hi
theorem LitAt.mono {G w G' w' xs tk b o sz} (he:Evo G w G' w') (h:LitAt G w xs tk b o sz):LitAt G' w' xs tk b o sz:=by
 obtain ⟨L,hL,hle⟩:=h.lim
 obtain ⟨L',hL',hle',hcell⟩:=he.lim _ _ hL
 refine ⟨⟨L',hL',by omega⟩,fun t ht=>h.own t (he.own _ _ _ hL ht),h.size,fun k hk=>?_⟩
 rw [hcell _ (by omega)]
 exact h.cells k hk
theorem LitAt.same {G w G' w' xs tk b o sz} (he:Evo G w G' w') (h:LitAt G w xs tk b o sz) {i:Nat} {x:AV} {j:Nat} {c:AV} {u:Value} (hx:xs[i]? = some x) (hc:x.cells[j]? = some c)
  (hu:w'.cell? ⟨b,o+(i*sz+j),none⟩=some u):w.cell? ⟨b,o+(i*sz+j),none⟩=some u:=by
 obtain ⟨L,hL,hle⟩:=h.lim
 obtain ⟨L',hL',hle',hcell⟩:=he.lim _ _ hL
 have:=h.cellOf hx hc
 rw [←hcell _ (by omega)]
 exact hu
theorem RelV.mono {G w G' w' a v} (he:Evo G w G' w') (h:RelV G w a v):RelV G' w' a v:=by
 induction h with
 |undef v=>exact .undef v
 |int k n=>exact .int k n
 |bool b=>exact .bool b
 |str s=>exact .str s
 |func h1 h2 _ _ h3 h4=>exact .func h1 h2 h3 h4
 |nilFunc=>exact .nilFunc
 |yield h=>exact .yield (he.loc _ _ h)
 |ptr h=>exact .ptr (he.loc _ _ h)
 |nilPtr=>exact .nilPtr
 |lptr ht hi hl _ ih =>
  refine .lptr (fun t e=>?_) hi (hl.mono he) fun i x j c u hx hc hu=>ih i x j c u hx hc (hl.same he hx hc hu)
  obtain ⟨⟨b,n,c⟩,hp⟩:=ht t e
  obtain ⟨b',n',c',e',_⟩:=he.tok _ _ _ _ hp
  exact ⟨_,e'⟩
 |nil ht hb=>exact .nil (ht.mono he) hb
 |lit ht hl _ ih=>exact .lit (ht.mono he) (hl.mono he) fun i x j c u hx hc hu=>ih i x j c u hx hc (hl.same he hx hc hu)
 |ref h hb hc hn=>exact .ref (he.loc _ _ h) hb hc hn
 |map h=>exact .map (he.loc _ _ h)
 |nilMap=>exact .nilMap
 |agg h _ ih=>exact .agg h ih
 |tuple h _ ih=>exact .tuple h ih
theorem eT.mono {G w G' w' n env tmps} (he:Evo G w G' w') (h:eT G w n env tmps):eT G' w' n env tmps :=
 ⟨h.1,fun t=>(h.2 t).mono he⟩
theorem g7.mono {P h G w G' w' x b} (he:Evo G w G' w') (hb:w'.heap[b]? = w.heap[b]?) (hx:g7 P h G w x b):g7 P h G' w' x b:=by
 cases x with
 |cells cs =>
  obtain ⟨vs,T,e,l,r⟩:=hx
  exact ⟨vs,T,hb.trans e,l,fun i a v h1 h2=>(r i a v h1 h2).mono he⟩
 |map es =>
  obtain ⟨ents,e,l,q,r⟩:=hx
  exact ⟨ents,hb.trans e,l,q,fun i p e h1 h2=>⟨(r i p e h1 h2).1.mono he,(r i p e h1 h2).2.mono he⟩⟩
 |tok _ _ _=>exact hx
 |siter s pos=>exact hb.trans hx
 |miter m n left last =>
  obtain ⟨bm,seen,stepped,h1,h2,h3⟩:=hx
  exact ⟨bm,seen,stepped,he.loc _ _ h1,hb.trans h2,h3⟩
 |loop st pend env ps a c =>
  obtain ⟨l,n,h1,h2,h3,h4,h5,h6,h7,h8,h9⟩:=hx
  exact ⟨l,n,hb.trans h1,h2,h3,h4,h5,h6,h7,h8.mono he,h9⟩
 |dead=>trivial
variable {P:Program} {hh:String→Bool} {G:Gh} {w:World} {σ:St}
theorem RelV.cell {a:AV} {v:Value} (h:RelV G w a v) (hc:a.cell=true):v.oneCell'=true∧v.cells = #[v]:=by
 cases h<;>first|(simp [AV.cell] at hc;done)|exact ⟨rfl,rfl⟩
theorem RelV.cells {a:AV} {v:Value} (h:RelV G w a v) (hc:a.cells.all (·.cell)=true) :
  v.cells.size=a.cells.length∧(∀ (i:Nat) (x:AV) (u:Value),a.cells[i]? = some x→v.cells[i]? = some u→RelV G w x u)∧∀ u∈v.cells.toList,u.oneCell'=true:=by
 have one:∀ {a:AV} {v:Value},RelV G w a v→a.cells=[a]→a.cell=true →
   v.cells.size=a.cells.length∧(∀ (i:Nat) (x:AV) (u:Value),a.cells[i]? = some x→v.cells[i]? = some u→RelV G w x u)∧∀ u∈v.cells.toList,u.oneCell'=true:=by
  intro a v h hs hc
  obtain ⟨h1,h2⟩:=h.cell hc
  refine ⟨by rw [h2,hs];rfl,fun i x u hx hu=>?_,fun u hu=>?_⟩
  ·rw [hs] at hx
   rw [h2] at hu
   cases i with
   |zero=>simp at hx hu;subst hx;subst hu;exact h
   |succ i=>simp at hx
  ·rw [h2] at hu
   simp at hu
   subst hu
   exact h1
 cases h with
 |agg hs hr =>
  refine ⟨hs,hr,fun u hu=>?_⟩
  obtain ⟨i,hi,rfl⟩:=List.getElem_of_mem hu
  simp only [AV.cells,List.all_eq_true] at hc
  simp only [Value.cells,Array.length_toList] at hi
  have hi':i<(_:List AV).length:=hs▸hi
  have hx:=hr i _ _ (List.getElem?_eq_getElem hi') (Array.getElem?_eq_getElem hi)
  simpa [Value.cells] using (hx.cell (hc _ (List.getElem_mem hi'))).1
 |tuple hs hr=>simp [AV.cells,AV.cell] at hc
 |undef v=>simp [AV.cells,AV.cell] at hc
 |int=>exact one (.int _ _) rfl rfl
 |bool=>exact one (.bool _) rfl rfl
 |str=>exact one (.str _) rfl rfl
 |func h1 h2 h3 h4=>exact one (.func h1 h2 h3 h4) rfl rfl
 |nilFunc=>exact one .nilFunc rfl rfl
 |yield h=>exact one (.yield h) rfl rfl
 |ptr h=>exact one (.ptr h) rfl rfl
 |nilPtr=>exact one .nilPtr rfl rfl
 |lptr h1 h2 h3 h4=>exact one (.lptr h1 h2 h3 h4) rfl rfl
 |nil h hb=>exact one (.nil h hb) rfl rfl
 |lit h1 h2 h3=>exact one (.lit h1 h2 h3) rfl rfl
 |ref h1 h2 h3 h4=>exact one (.ref h1 h2 h3 h4) rfl rfl
 |map h=>exact one (.map h) rfl rfl
 |nilMap=>exact one .nilMap rfl rfl
theorem d9 (w:World) (o:Obj) (k:Nat):(w.alloc o).heap[k]? = if k=w.heap.size then some o else w.heap[k]?:=by
 show (w.heap.push o)[k]? = _
 rw [Array.getElem?_push]
theorem BO (w:World) (o:Obj) (a:Addr) (h:a.block<w.heap.size):(w.alloc o).cell? a=w.cell? a:=World.cell?_alloc_lt w o a h
theorem rV (h:RelS P hh G w σ) {b L:Nat} (e:G.lim b=some L):b<w.heap.size:=by
 obtain ⟨vs,T,fr,hb,_⟩:=h.lim _ _ e
 exact (Array.getElem?_eq_some_iff.1 hb).1
theorem oO:Evo G w G w.drew :=
 ⟨fun _ _ h=>h,fun b L h=>⟨L,h,Nat.le_refl _,fun _ _=>rfl⟩,fun t b n c h=>⟨b,n,c,h,Nat.le_refl _,fun _=>⟨rfl,rfl⟩⟩,
  fun _ _ _ _ h=>h,fun _ h=>h,rfl,rfl,rfl,rfl,rfl,Nat.le_refl _,fun _ _ h=>h⟩
theorem RelS.drew (h:RelS P hh G w σ):RelS P hh G w.drew σ where
 lt:=h.lt
 blk id b x e1 e2:=(h.blk id b x e1 e2).mono oO rfl
 inj:=h.inj
 fresh:=h.fresh
 lim:=h.lim
 tok:=h.tok
 own:=h.own
 defs:=h.defs
 base:=h.base
 size:=h.size
 res:=h.res
theorem kS (h:RelS P hh G w σ) (o:Obj):Evo G w G (w.alloc o) where
 loc _ _ h:=h
 lim b L e:=⟨L,e,Nat.le_refl _,fun k _=>BO w o _ (rV h e)⟩
 tok t b n c h:=⟨b,n,c,h,Nat.le_refl _,fun _=>⟨rfl,rfl⟩⟩
 own _ _ _ _ h:=h
 defs _ h:=h
 B0:=rfl
 h0:=rfl
 os:=rfl
 tape:=rfl
 output:=rfl
 size:=by simp
 res _ _ h:=h
theorem RelS.alloc (h:RelS P hh G w σ) (o:Obj):RelS P hh G (w.alloc o) σ where
 lt:=h.lt
 blk id b x e1 e2:=(h.blk id b x e1 e2).mono (kS h o) (by rw [d9,if_neg];have:=(h.fresh _ _ e1).2.1;omega)
 inj:=h.inj
 fresh id b e:=by
  obtain ⟨a,b,c⟩:=h.fresh id b e
  exact ⟨a,by simp;omega,c⟩
 lim b L e:=by
  obtain ⟨vs,T,fr,hb,l⟩:=h.lim _ _ e
  exact ⟨vs,T,fr,by rw [d9,if_neg (by have:=rV h e;omega)];exact hb,l⟩
 tok t b n c e:=by
  obtain ⟨sz,ex,h1,h2,h3,h4⟩:=h.tok _ _ _ _ e
  refine ⟨sz,ex,h1,h2,h3,fun hx=>?_⟩
  obtain ⟨bb,vs,T,q1,q2,q3,q4,q5,q6⟩:=h4 hx
  exact ⟨bb,vs,T,q1,q2,q3,q4,by rw [d9,if_neg (by have:=rV h q3;omega)];exact q5,q6⟩
 own b t e:=by
  obtain ⟨h1,h2⟩:=h.own b t e
  exact ⟨by simp;omega,h2⟩
 defs r e:=by
  obtain ⟨h1,h2,h3⟩:=h.defs r e
  refine ⟨?_,h2,h3⟩
  rw [d9,if_neg]
  ·exact h1
  ·have:=(Array.getElem?_eq_some_iff.1 h1).1;omega
 base b hb:=by rw [d9,if_neg (by have:=h.size;omega)];exact h.base b hb
 size:=by have:=h.size;simp;omega
 res:=h.res
def Gh.withLoc (G:Gh) (id b:Nat):Gh:={ G with loc:=fun i=>if i=id then some b else G.loc i }
theorem m8 {id b:Nat} (hid:G.loc id=none):Evo G w (G.withLoc id b) w where
 loc i c e:=by
  have:i≠id:=fun h=>by rw [h,hid] at e;cases e
  simp [Gh.withLoc,this,e]
 lim b L e:=⟨L,e,Nat.le_refl _,fun _ _=>rfl⟩
 tok t b n c h:=⟨b,n,c,h,Nat.le_refl _,fun _=>⟨rfl,rfl⟩⟩
 own _ _ _ _ h:=h
 defs _ h:=h
 B0:=rfl
 h0:=rfl
 os:=rfl
 tape:=rfl
 output:=rfl
 size:=Nat.le_refl _
 res _ _ h:=h
theorem RelS.withLoc {id b:Nat} {x:ABlk} (h:RelS P hh G w σ) (hres:G.res id=none) (hid:G.loc id=none) (hx:σ[id]? = some x) (hr:g7 P hh (G.withLoc id b) w x b)
  (h1:G.B0≤b) (h2:b<w.heap.size) (h3:G.lim b=none) (h4:¬G.defs b) (h5:∀ i,G.loc i≠some b):RelS P hh (G.withLoc id b) w σ where
 lt i c e:=by
  by_cases hi:i=id
  ·subst hi;exact (List.getElem?_eq_some_iff.1 hx).1
  ·simp [Gh.withLoc,hi] at e;exact h.lt i c e
 blk i c y e1 e2:=by
  by_cases hi:i=id
  ·subst hi
   simp [Gh.withLoc] at e1
   subst e1
   rw [hx] at e2
   cases e2
   exact hr
  ·simp [Gh.withLoc,hi] at e1
   exact (h.blk i c y e1 e2).mono (m8 hid) rfl
 inj i j c e1 e2:=by
  by_cases hi:i=id<;>by_cases hj:j=id
  ·rw [hi,hj]
  ·simp [Gh.withLoc,hi] at e1
   simp [Gh.withLoc,hj] at e2
   subst e1
   exact absurd e2 (h5 j)
  ·simp [Gh.withLoc,hi] at e1
   simp [Gh.withLoc,hj] at e2
   subst e2
   exact absurd e1 (h5 i)
  ·simp [Gh.withLoc,hi] at e1
   simp [Gh.withLoc,hj] at e2
   exact h.inj i j c e1 e2
 fresh i c e:=by
  by_cases hi:i=id
  ·simp [Gh.withLoc,hi] at e;subst e;exact ⟨h1,h2,h3,h4⟩
  ·simp [Gh.withLoc,hi] at e;exact h.fresh i c e
 lim:=h.lim
 tok:=h.tok
 own:=h.own
 defs:=h.defs
 base:=h.base
 size:=h.size
 res i r e:=by
  have hi:i≠id:=fun hi=>by subst hi;rw [show (G.withLoc i b).res i=G.res i from rfl,hres] at e;cases e
  have:=h.res i r e
  simpa [Gh.withLoc,hi] using this
theorem RelS.more (h:RelS P hh G w σ) (τ:St):RelS P hh G w (σ++τ) where
 lt i c e:=by have:=h.lt i c e;simp;omega
 blk i c y e1 e2:=h.blk i c y e1 (by rw [List.getElem?_append_left (h.lt i c e1)] at e2;exact e2)
 inj:=h.inj
 fresh:=h.fresh
 lim:=h.lim
 tok t b n c e:=by
  obtain ⟨sz,ex,h1,rest⟩:=h.tok t b n c e
  exact ⟨sz,ex,by rw [List.getElem?_append_left (List.getElem?_eq_some_iff.1 h1).1];exact h1,rest⟩
 own:=h.own
 defs:=h.defs
 base:=h.base
 size:=h.size
 res i r e:=by
  obtain ⟨q1,q2,q3⟩:=h.res i r e
  exact ⟨q1,by simp;omega,fun cs hc=>by rw [List.getElem?_append_left q2];exact q3 cs hc⟩
theorem tA (h:RelS P hh G w σ) {id:Nat} (hid:σ.length≤id):G.loc id=none:=by
 cases e:G.loc id with
 |none=>rfl
 |some b=>have:=h.lt _ _ e;omega
theorem JA (h:RelS P hh G w σ) {id:Nat} (hid:σ.length≤id):G.res id=none:=by
 cases e:G.res id with
 |none=>rfl
 |some b=>have:=(h.res _ _ e).2.1;omega
theorem UF (h:RelS P hh G w σ) {b:Nat} (hb:w.heap.size≤b) (i:Nat):G.loc i≠some b:=fun e=>by
 have:=(h.fresh _ _ e).2.1;omega
theorem RelS.new {x:ABlk} {o:Obj} (h:RelS P hh G w σ) (hr:g7 P hh (G.withLoc σ.length w.heap.size) (w.alloc o) x w.heap.size) :
  RelS P hh (G.withLoc σ.length w.heap.size) (w.alloc o) (σ++[x])∧Evo G w (G.withLoc σ.length w.heap.size) (w.alloc o):=by
 have h1:=(h.alloc o).more [x]
 have hl:G.loc σ.length=none:=tA h (Nat.le_refl _)
 refine ⟨h1.withLoc (JA h (Nat.le_refl _)) hl (by simp) hr h.size (by simp) ?_ ?_ (fun i=>UF h (Nat.le_refl _) i),(kS h o).trans (m8 hl)⟩
 ·cases e:G.lim w.heap.size with
  |none=>rfl
  |some L=>have:=rV h e;omega
 ·intro e
  have:=(Array.getElem?_eq_some_iff.1 (h.defs _ e).1).1
  omega
theorem RelS.place {x:ABlk} {o:Obj} {id:Nat} (h:RelS P hh G w σ) (hres:G.res id=none) (hid:G.loc id=none) (hx:σ[id]? = some x) (hr:g7 P hh (G.withLoc id w.heap.size) (w.alloc o) x w.heap.size) :
  RelS P hh (G.withLoc id w.heap.size) (w.alloc o) σ∧Evo G w (G.withLoc id w.heap.size) (w.alloc o):=by
 refine ⟨(h.alloc o).withLoc hres hid hx hr h.size (by simp) ?_ ?_ (fun i=>UF h (Nat.le_refl _) i),(kS h o).trans (m8 hid)⟩
 ·cases e:G.lim w.heap.size with
  |none=>rfl
  |some L=>have:=rV h e;omega
 ·intro e
  have:=(Array.getElem?_eq_some_iff.1 (h.defs _ e).1).1
  omega
def Gh.withLim (G:Gh) (b n:Nat):Gh:={ G with lim:=fun i=>if i=b then some n else G.lim i }
theorem RelS.newLit (h:RelS P hh G w σ) (cs:Array Value) (T:TypeId) :
  RelS P hh (G.withLim w.heap.size cs.size) (w.alloc (.cells cs T)) σ∧Evo G w (G.withLim w.heap.size cs.size) (w.alloc (.cells cs T)):=by
 have hn:G.lim w.heap.size=none:=by
  cases e:G.lim w.heap.size with
  |none=>rfl
  |some L=>have:=rV h e;omega
 have ho:∀ t,G.own w.heap.size≠some t:=fun t e=>by have:=(h.own _ _ e).1;omega
 have he0:Evo G (w.alloc (.cells cs T)) (G.withLim w.heap.size cs.size) (w.alloc (.cells cs T)):=by
  refine ⟨fun _ _ h=>h,fun b L e=>⟨L,?_,Nat.le_refl _,fun _ _=>rfl⟩,fun t b n c h=>⟨b,n,c,h,Nat.le_refl _,fun _=>⟨rfl,rfl⟩⟩,
   fun _ _ _ _ h=>h,fun _ h=>h,rfl,rfl,rfl,rfl,rfl,Nat.le_refl _,fun _ _ h=>h⟩
  have:b≠w.heap.size:=fun e'=>by rw [e',hn] at e;cases e
  simp [Gh.withLim,this,e]
 have h1:=h.alloc (.cells cs T)
 refine ⟨⟨h.lt,fun id b x e1 e2=>(h1.blk id b x e1 e2).mono he0 rfl,h.inj,fun id b e=>?_,fun b L e=>?_,fun t b n c e=>?_,h1.own,fun r e=>?_,h1.base,h1.size,h1.res⟩,
  (kS h _).trans he0⟩
 ·obtain ⟨q1,q2,q3,q4⟩:=h1.fresh id b e
  have:b≠w.heap.size:=by have:=(h.fresh id b e).2.1;omega
  exact ⟨q1,q2,by simp [Gh.withLim,this,q3],q4⟩
 ·by_cases hb:b=w.heap.size
  ·subst hb
   simp [Gh.withLim] at e
   subst e
   exact ⟨cs,T,(0,0),by rw [d9,if_pos rfl],Nat.le_refl _,fun hlt=>absurd hlt (Nat.not_lt.2 h.size)⟩
  ·simp [Gh.withLim,hb] at e
   exact h1.lim b L e
 ·obtain ⟨sz,ex,q1,q2,q3,q4⟩:=h1.tok t b n c e
  refine ⟨sz,ex,q1,q2,q3,fun hx=>?_⟩
  obtain ⟨bb,vs,T',r1,r2,r3,r4,r5,r6⟩:=q4 hx
  have:bb≠w.heap.size:=fun e'=>by rw [e'] at r2;exact ho _ r2
  exact ⟨bb,vs,T',r1,r2,by simp [Gh.withLim,this,r3],r4,r5,r6⟩
 ·obtain ⟨q1,q2,q3⟩:=h1.defs r e
  have:r≠w.heap.size:=by have:=(Array.getElem?_eq_some_iff.1 (h.defs _ e).1).1;omega
  exact ⟨q1,q2,by simp [Gh.withLim,this,q3]⟩
structure Part (b:Nat) (w w':World):Prop where
 os:w'.os=w.os
 tape:w'.tape=w.tape
 output:w'.output=w.output
 size:w'.heap.size=w.heap.size
 other:∀ k,k≠b→w'.heap[k]? = w.heap[k]?
theorem Part.cell {b:Nat} {w w':World} (h:Part b w w') {a:Addr} (ha:a.block≠b):w'.cell? a=w.cell? a:=by
 simp [World.cell?,h.other _ ha]
theorem oE {b:Nat} {w w':World} (hp:Part b w w') (hb:G.lim b=none):Evo G w G w' where
 loc _ _ h:=h
 lim c L e:=⟨L,e,Nat.le_refl _,fun k _=>hp.cell (fun e'=>by simp at e';rw [e',hb] at e;cases e)⟩
 tok t b n c h:=⟨b,n,c,h,Nat.le_refl _,fun _=>⟨rfl,rfl⟩⟩
 own _ _ _ _ h:=h
 defs _ h:=h
 B0:=rfl
 h0:=rfl
 os:=hp.os
 tape:=hp.tape
 output:=hp.output
 size:=Nat.le_of_eq hp.size.symm
 res _ _ h:=h
theorem RelS.write {b id:Nat} {w':World} {x y:ABlk} (h:RelS P hh G w σ) (hl:G.loc id=some b) (hp:Part b w w') (hx:σ[id]? = some x) (ht:∀ a b c,x≠.tok a b c)
  (hr:g7 P hh G w' y b):RelS P hh G w' (σ.set id y)∧Evo G w G w':=by
 obtain ⟨f1,f2,f3,f4⟩:=h.fresh _ _ hl
 have he:=oE hp f3
 refine ⟨⟨fun i c e=>by have:=h.lt i c e;simpa using this,fun i c z e1 e2=>?_,h.inj,fun i c e=>?_,fun c L e=>?_,fun t c n k e=>?_,fun c t e=>?_,fun r e=>?_,fun c hc=>?_,?_,fun i r e=>?_⟩,he⟩
 ·by_cases hi:i=id
  ·subst hi
   rw [hl] at e1
   cases e1
   rw [List.getElem?_set_self (h.lt _ _ hl)] at e2
   cases e2
   exact hr
  ·rw [List.getElem?_set_ne (fun e=>hi e.symm)] at e2
   refine (h.blk i c z e1 e2).mono he (hp.other _ fun e=>hi ?_)
   subst e
   exact h.inj _ _ _ e1 hl
 ·obtain ⟨a,b,c⟩:=h.fresh i c e
  exact ⟨a,by rw [hp.size];exact b,c⟩
 ·obtain ⟨vs,T,fr,q,l⟩:=h.lim c L e
  refine ⟨vs,T,fr,?_,l⟩
  rw [hp.other _ fun e'=>by rw [e',f3] at e;cases e]
  exact q
 ·obtain ⟨sz,ex,q1,q2,q3,q4⟩:=h.tok t c n k e
  refine ⟨sz,ex,?_,q2,q3,fun hx'=>?_⟩
  ·rw [List.getElem?_set_ne]
   ·exact q1
   ·intro e'
    subst e'
    rw [hx] at q1
    cases q1
    exact ht _ _ _ rfl
  ·obtain ⟨bb,vs,T,r1,r2,r3,r4,r5,r6⟩:=q4 hx'
   refine ⟨bb,vs,T,r1,r2,r3,r4,?_,r6⟩
   rw [hp.other _ fun e'=>by rw [e',f3] at r3;cases r3]
   exact r5
 ·obtain ⟨q1,q2⟩:=h.own c t e
  exact ⟨by rw [hp.size];exact q1,q2⟩
 ·obtain ⟨q1,q2,q3⟩:=h.defs r e
  refine ⟨?_,q2,q3⟩
  rw [hp.other _ fun e'=>by rw [e'] at e;exact f4 e]
  exact q1
 ·rw [hp.other _ (by omega)]
  exact h.base c hc
 ·rw [hp.size];exact h.size
 ·obtain ⟨q1,q2,q3⟩:=h.res i r e
  have hi:i≠id:=fun hi=>by subst hi;rw [hl] at q1;cases q1
  exact ⟨q1,by simpa using q2,fun cs hc=>by rw [List.getElem?_set_ne (Ne.symm hi)];exact q3 cs hc⟩
theorem AF (w:World) (g:Nat) (cs:Array Value):Part g w (w.setRow g cs) :=
 ⟨rfl,rfl,rfl,by simp,fun k hk=>setRow_other w g k cs fun e=>hk (e▸rfl)⟩
theorem kV (w:World) (g:Nat) (o:Obj):Part g w { w with heap:=w.heap.setIfInBounds g o } :=
 ⟨rfl,rfl,rfl,by simp,fun k hk=>by simp [Array.getElem?_setIfInBounds_ne (Ne.symm hk)]⟩
end Go.Am
namespace Go.Am
variable {P:Program} {hh:String→Bool} {G:Gh} {w:World} {σ:St} {env:Env}
theorem xE {v:Value} {a:AV} (h:yH v=some a):RelV G w a v:=by
 unfold yH at h
 split at h<;>first|cases h|skip
 ·exact .bool _
 ·exact .int _ _
 ·exact .str _
 ·exact .nilPtr
 ·exact .nil ⟨Nat.le_refl _,fun _=>rfl,fun t e=>by cases e⟩ fun _=>rfl
 ·exact .nilMap
 ·exact .nilFunc
theorem vI:∀ {vs:List Value} {az:List AV},qL vs=some az→vs.length=az.length∧∀ (i:Nat) (a:AV) (v:Value),az[i]? = some a→vs[i]? = some v→RelV G w a v
 |[],az,h=>by simp [qL] at h;subst h;exact ⟨rfl,fun i a v h=>by simp at h⟩
 |v::vs,az,h=>by
  simp only [qL] at h
  split at h
  ·rename_i a b h1 h2
   cases h
   obtain ⟨l,r⟩:=vI h2
   refine ⟨by simp [l],fun i x u hx hu=>?_⟩
   cases i with
   |zero=>simp at hx hu;subst hx;subst hu;exact xE h1
   |succ i=>simp at hx hu;exact r i x u hx hu
  ·cases h
theorem uA {v:Value} {a:AV} (h:ofValue v=some a):RelV G w a v:=by
 unfold ofValue at h
 split at h
 ·rename_i cs
  split at h
  ·rename_i l hl
   cases h
   obtain ⟨q,r⟩:=vI hl
   exact .agg (by simpa using q) fun i a v h1 h2=>r i a v h1 (by simpa using h2)
  ·cases h
 ·rename_i vs
  split at h
  ·rename_i hs
   cases h
   exact .tuple (by simpa using hs) fun i a v h1 _=>by simp at h1
  ·cases h
 ·exact xE h
theorem cI {n:Nat} {a:Act} {x:Operand} {x':AOpd} (hx:opd x=some x') (hE:eT G w n env a.tmps):RelV G w (x'.ev env) (a.eval x):=by
 cases x with
 |tmp t=>simp [opd] at hx;subst hx;exact hE.2 t
 |const v =>
  simp only [opd] at hx
  split at hx
  ·rename_i b hb;cases hx;exact uA hb
  ·cases hx
 |global g=>simp [opd] at hx
 |func f=>simp [opd] at hx;subst hx;exact .func rfl rfl (fun i a v h=>by simp at h) (fun i a v h=>by simp at h)
theorem NG {n:Nat} {a:Act}:∀ {xs:List Operand} {ys:List AOpd},C9 xs=some ys→eT G w n env a.tmps →
  xs.length=ys.length∧∀ (i:Nat) (y:AV) (v:Value),(ys.map (·.ev env))[i]? = some y→(xs.map a.eval)[i]? = some v→RelV G w y v
 |[],ys,h,_=>by simp [C9] at h;subst h;exact ⟨rfl,fun i a v h=>by simp at h⟩
 |x::xs,ys,h,hE=>by
  simp only [C9] at h
  split at h
  ·rename_i a b h1 h2
   cases h
   obtain ⟨l,r⟩:=NG h2 hE
   refine ⟨by simp [l],fun i y u hy hu=>?_⟩
   cases i with
   |zero=>simp at hy hu;subst hy;subst hu;exact cI h1 hE
   |succ i=>simp only [List.map_cons,List.getElem?_cons_succ] at hy hu;exact r i y u hy hu
  ·cases h
theorem eX {t:TypeId} {n:Nat} (h:fG P t=some n) (w:World):(sizeOf t).run P w = .ok n w∧0<n∧∃ i,P.info? t=some i∧i.size=n:=by
 unfold fG at h
 split at h
 ·rename_i i hi
  split at h
  ·cases h
  ·cases h
   exact ⟨by simp [sizeOf,typeInfo,hi],by omega,i,hi,rfl⟩
 ·cases h
theorem kT {t:TypeId} {b:Bool} (h:fI P t=some b) (w:World):(isAgg t).run P w = .ok b w:=by
 unfold fI at h
 unfold isAgg
 split at h
 ·rename_i hu;cases h;simp [run_underlying hu]
 ·rename_i hu;cases h;simp [run_underlying hu]
 ·rename_i d h1 h2 hu
  cases h
  rw [Sem.run_bind,run_underlying hu]
  cases d<;>simp_all
 ·cases h
theorem rU {t:TypeId} {sh:Option Nat} (h:oZ P t=some sh) :
  (sh=none∧fI P t=some false∧fG P t=some 1)∨(∃ n,sh=some n∧fI P t=some true∧fG P t=some n):=by
 unfold oZ at h
 split at h
 ·rename_i n h1 h2;cases h;exact .inr ⟨n,rfl,h1,h2⟩
 ·rename_i h1 h2;cases h;exact .inl ⟨rfl,h1,h2⟩
 ·cases h
theorem jY (b o i:Nat):(⟨b,o,none⟩:Addr).add i=⟨b,o+i,none⟩:=by unfold Addr.add;split<;>simp_all
def xD (G:Gh) (w:World) (cs:List AV) (b o:Nat):Prop :=
 ∀ (i:Nat) (c:AV),cs[i]? = some c→∃ u,w.cell? ⟨b,o+i,none⟩=some u∧RelV G w c u
theorem xD.list {cs:List AV} {b o:Nat} (h:xD G w cs b o) :
  ∃ vs:List Value,vs.length=cs.length∧(∀ (j:Nat) (v:Value),vs[j]? = some v→w.cell? ((⟨b,o,none⟩:Addr).add j)=some v) ∧
   ∀ (i:Nat) (c:AV) (v:Value),cs[i]? = some c→vs[i]? = some v→RelV G w c v:=by
 induction cs generalizing o with
 |nil=>exact ⟨[],rfl,fun j v h=>by simp at h,fun i c v h=>by simp at h⟩
 |cons c cs ih =>
  obtain ⟨u,hu,hr⟩:=h 0 c rfl
  obtain ⟨vs,l,h1,h2⟩:=ih (o:=o+1) fun i d hd=>by
   obtain ⟨u,q,r⟩:=h (i+1) d (by simpa using hd)
   exact ⟨u,by rw [show o+1+i=o+(i+1) from by omega];exact q,r⟩
  refine ⟨u::vs,by simp [l],fun j v hj=>?_,fun i d v hd hv=>?_⟩
  ·cases j with
   |zero=>simp at hj;subst hj;rw [jY];exact hu
   |succ j=>simp at hj;have:=h1 j v hj;rw [jY] at this ⊢;rw [show o+(j+1)=o+1+j from by omega];exact this
  ·cases i with
   |zero=>simp at hd hv;subst hd;subst hv;exact hr
   |succ i=>simp at hd hv;exact h2 i d v hd hv
theorem xD.sub {cs:List AV} {b o:Nat} (h:xD G w cs b o) (k n:Nat):xD G w ((cs.drop k).take n) b (o+k):=by
 intro i c hc
 rw [List.getElem?_take] at hc
 split at hc
 ·rw [List.getElem?_drop] at hc
  obtain ⟨u,q,r⟩:=h _ _ hc
  exact ⟨u,by rw [Nat.add_assoc];exact q,r⟩
 ·cases hc
theorem AB {t:TypeId} {sh:Option Nat} {cs:List AV} {b o off:Nat} {v:AV} (ht:oZ P t=some sh) (hr:xD G w cs b o) (hv:gC sh cs off=some v) :
  ∃ u,(loadVar t ⟨b,o+off,none⟩).run P w = .ok u w∧RelV G w v u:=by
 rcases rU ht with ⟨rfl,h1,h2⟩|⟨n,rfl,h1,h2⟩
 ·simp only [gC] at hv
  obtain ⟨u,hu,r⟩:=hr _ _ hv
  refine ⟨u,?_,r⟩
  simp [loadVar,kT h1,run_load,hu]
 ·simp only [gC] at hv
  split at hv
  ·rename_i hle
   cases hv
   obtain ⟨vs,l,h3,h4⟩:=(hr.sub off n).list
   have hl:vs.length=n:=by rw [l];simp;omega
   have hrun:=run_loadCells_list (P:=P) w ⟨b,o+off,none⟩ vs h3
   rw [hl] at hrun
   obtain ⟨hs,_⟩:=eX h2 w
   refine ⟨.agg vs.toArray,?_,.agg (by simp [l]) fun i a v e1 e2=>h4 i a v e1 (by simpa using e2)⟩
   simp [loadVar,kT h1,hs,hrun]
  ·cases hv
theorem pZ {id:Nat} {cs:List AV} {b:Nat} (h:RelS P hh G w σ) (hl:G.loc id=some b) (hc:aM σ id=some cs):xD G w cs b 0:=by
 unfold aM at hc
 split at hc
 ·rename_i ds he
  cases hc
  obtain ⟨vs,T,e,l,r⟩:=h.blk _ _ _ hl he
  intro i c hi
  have h1:i<vs.size:=by have:=(List.getElem?_eq_some_iff.1 hi).1;omega
  refine ⟨vs[i],?_,r i c _ hi (Array.getElem?_eq_getElem h1)⟩
  rw [Nat.zero_add,cell_of_row w b i vs T (0,0) e]
  exact Array.getElem?_eq_getElem h1
 ·cases hc
theorem PR {xs:List AV} {tk:Option Nat} {b o sz i:Nat} {x:AV} (hl:LitAt G w xs tk b o sz)
  (hc:∀ (i:Nat) (x:AV) (j:Nat) (c:AV) (u:Value),xs[i]? = some x→x.cells[j]? = some c→w.cell? ⟨b,o+(i*sz+j),none⟩=some u→RelV G w c u)
  (hx:xs[i]? = some x):xD G w x.cells b (o+i*sz):=by
 intro j c hj
 have h1:=hl.cells _ (hl.cellOf hx hj)
 obtain ⟨u,hu⟩:=Option.isSome_iff_exists.1 h1
 exact ⟨u,by rw [Nat.add_assoc];exact hu,hc i x j c u hx hj hu⟩
theorem xA {t:TypeId} {sh:Option Nat} {x v:AV} {u:Value} (hS:RelS P hh G w σ) (ht:oZ P t=some sh) (hx:RelV G w x u) (h:lP sh σ x=some v) :
  ∃ a r,u = .pointer (some a)∧(loadVar t a).run P w = .ok r w∧RelV G w v r:=by
 unfold lP at h
 split at h
 ·rename_i id off
  split at h
  ·rename_i cs hcs
   cases hx with
   |ptr hl =>
    obtain ⟨r,h1,h2⟩:=AB ht (pZ hS hl hcs) h
    rw [Nat.zero_add] at h1
    exact ⟨_,r,rfl,h1,h2⟩
  ·cases h
 ·rename_i xs i off tk
  split at h
  ·rename_i y hy
   cases hx with
   |lptr h1 h2 h3 h4 =>
    obtain ⟨r,q1,q2⟩:=AB ht (PR h3 h4 hy) h
    exact ⟨_,r,rfl,q1,q2⟩
  ·cases h
 ·cases h
theorem pY {cs vs cs':List AV} {off:Nat} (h:fX cs off vs=some cs') :
  off+vs.length≤cs.length∧cs'=cs.take off++vs++cs.drop (off+vs.length)∧cs'.length=cs.length:=by
 unfold fX at h
 split at h
 ·rename_i hl
  cases h
  exact ⟨hl,rfl,by simp;omega⟩
 ·cases h
theorem N0 {cs vs:List AV} {cur us:List Value} {off:Nat} (hl:us.length=vs.length) (hle:off+vs.length≤cs.length) (hcur:cs.length≤cur.length)
  (h1:∀ (i:Nat) (a:AV) (v:Value),cs[i]? = some a→cur[i]? = some v→RelV G w a v) (h2:∀ (i:Nat) (a:AV) (v:Value),vs[i]? = some a→us[i]? = some v→RelV G w a v) :
  ∀ (i:Nat) (a:AV) (v:Value),(cs.take off++vs++cs.drop (off+vs.length))[i]? = some a→(cur.take off++us++cur.drop (off+us.length))[i]? = some v→RelV G w a v:=by
 intro i a v ha hv
 by_cases c1:i<off
 ·rw [List.append_assoc,List.getElem?_append_left (by simp;omega),List.getElem?_take,if_pos c1] at ha hv
  exact h1 i a v ha hv
 ·by_cases c2:i<off+vs.length
  ·rw [List.append_assoc,List.getElem?_append_right (by simp;omega),List.getElem?_append_left (by simp;omega)] at ha hv
   simp only [List.length_take] at ha hv
   rw [show min off cs.length=off from by omega] at ha
   rw [show min off cur.length=off from by omega] at hv
   exact h2 _ a v ha hv
  ·rw [List.getElem?_append_right (by simp;omega)] at ha hv
   simp only [List.length_append,List.length_take,List.getElem?_drop] at ha hv
   rw [show off+vs.length+(i-(min off cs.length+vs.length))=i from by omega] at ha
   rw [show off+us.length+(i-(min off cur.length+us.length))=i from by omega] at hv
   exact h1 i a v ha hv
theorem tZ {id b off:Nat} {cs cs' vs:List AV} {us:List Value} (hS:RelS P hh G w σ) (hl:G.loc id=some b) (hc:aM σ id=some cs) (hset:fX cs off vs=some cs')
  (hlen:us.length=vs.length) (hr:∀ (i:Nat) (a:AV) (v:Value),vs[i]? = some a→us[i]? = some v→RelV G w a v) (h1:∀ u∈us,u.oneCell'=true) :
  ∃ w',(storeCells ⟨b,off,none⟩ us).run P w = .ok () w'∧RelS P hh G w' (σ.set id (.cells cs'))∧Evo G w G w':=by
 unfold aM at hc
 split at hc
 ·rename_i ds he
  cases hc
  obtain ⟨cur,T,e,l,r⟩:=hS.blk _ _ _ hl he
  obtain ⟨q1,q2,q3⟩:=pY hset
  have hrun:=run_storeCells_at P b off T us 0 cur w e (by omega) h1
  rw [Nat.add_zero] at hrun
  refine ⟨_,hrun,?_⟩
  have hp:=AF w b (cur.toList.take off++us++cur.toList.drop (off+us.length)).toArray
  have hev:=oE hp (hS.fresh _ _ hl).2.2.1
  refine hS.write hl hp he (fun _ _ _ h=>by cases h) ⟨_,T,setRow_heap w b cur _ T _ e,?_,fun i a v ha hv=>?_⟩
  ·simp;omega
  ·refine RelV.mono hev ?_
   rw [q2] at ha
   exact N0 (cs:=_) (cur:=cur.toList) hlen q1 (by simpa using l) (fun i a v h3 h4=>r i a v h3 (by simpa using h4)) hr i a v ha (by simpa using hv)
 ·cases hc
theorem D8 {t:TypeId} {n:Nat} {x y:AV} {u v:Value} {σ':St} (hS:RelS P hh G w σ) (ht:fG P t=some n) (hx:RelV G w x u) (hy:RelV G w y v) (h:pE n σ x y=some σ') :
  ∃ a w',u = .pointer (some a)∧(storeVar t a v).run P w = .ok () w'∧RelS P hh G w' σ'∧Evo G w G w':=by
 unfold pE at h
 split at h
 ·rename_i id off
  split at h
  ·rename_i hcond
   simp only [Bool.and_eq_true,beq_iff_eq] at hcond
   split at h
   ·rename_i cs hcs
    split at h
    ·rename_i cs' hset
     cases h
     cases hx with
     |ptr hl =>
      obtain ⟨k1,k2,k3⟩:=hy.cells hcond.2
      obtain ⟨w',e1,e2,e3⟩:=tZ (us:=v.cells.toList) hS hl hcs hset (by simpa using k1) (fun i a v h3 h4=>k2 i a v h3 (by simpa using h4)) k3
      refine ⟨_,w',rfl,?_,e2,e3⟩
      obtain ⟨hs,_⟩:=eX ht w
      have hne:¬v.cells.size≠n:=by rw [k1,hcond.1];simp
      simp only [storeVar,Sem.run_bind,hs,Result.andThen_ok,hne,if_false]
      exact e1
    ·cases h
   ·cases h
  ·cases h
 ·cases h
end Go.Am
