/- A part of the proofs: an abstract machine, or what functions come to on it. -/
import GoSem.Dispatch
set_option linter.unusedVariables false
set_option linter.unusedSimpArgs false
set_option linter.defProp false
namespace Go.Am
inductive AV where
 |undef
 |int (k:IntKind) (n:Int)
 |bool (b:Bool)
 |str (s:ByteArray)
 |func (f:FuncId) (first cap:List AV)
 |nilFunc
 |yield (id:Nat)
 |ptr (id off:Nat)
 |nilPtr
 /-- into the i-th element of a list,of the token's block -/
 |lptr (xs:List AV) (i off:Nat) (tk:Option Nat)
 /-- a slice that reads az a list;'full': its capacity is its length;'tk': the token of its block,if it is known to have one -/
 |lit (xs:List AV) (full:Bool) (tk:Option Nat)
 |ref (id off len sz:Nat)
 |map (id:Nat)
 |nilMap
 |agg (cells:List AV)
 |tuple (vs:List AV)
 deriving Inhabited
def AV.cells:AV→List AV
 |.agg cs=>cs
 |v=>[v]
def AV.cell:AV→Bool
 |.undef|.agg _|.tuple _=>false
 |_=>true
inductive SK where
 |i|b|s
 deriving DecidableEq,Repr,Inhabited
inductive EqTy where
 |one (k:SK)
 |agg (ks:List SK)
 deriving DecidableEq,Repr,Inhabited
abbrev Env:=List (Nat×AV)
def Env.get:Env→Nat→AV
 |[],_=>.undef
 |(k,v)::e,t=>if k=t then v else Env.get e t
def Env.put (e:Env) (d:Option Nat) (v:AV):Env :=
 match d with
 |some d=>(d,v)::e
 |none=>e
inductive AOpd where
 |t (n:Nat)
 |c (v:AV)
 deriving Inhabited
def AOpd.ev (e:Env):AOpd→AV
 |.t n=>Env.get e n
 |.c v=>v
inductive AOp where
 |mov (x:AOpd)
 |pick (c a b:AOpd)
 |alloc (zero:List AV)
 |box (n:Nat) (x:AOpd)
 |build (zero:List AV) (parts:List (Nat×Nat×AOpd))
 |mklit (sz:Nat) (xs:List AOpd)
 |mkref (sz:Nat) (xs:List AOpd)
 |load (sh:Option Nat) (x:AOpd)
 |store (n:Nat) (a x:AOpd)
 |nilCheck (x:AOpd)
 |bin (op:BinOp) (x y:AOpd)
 |eql (sh:EqTy) (neg:Bool) (x y:AOpd)
 |not (x:AOpd)
 |neg (x:AOpd)
 |conv (k:IntKind) (x:AOpd)
 |mkfun (f:FuncId) (first cap:List AOpd)
 |mkmap
 |mkslice (zero:List AV) (bytes:Nat) (l c:AOpd)
 |slicev (sz:Nat) (x:AOpd) (lo hi mx:Option AOpd)
 |slicea (n sz:Nat) (x:AOpd) (lo hi:Option AOpd)
 |faddr (x:AOpd) (off:Nat)
 |field (x:AOpd) (off:Nat) (sh:Option Nat)
 |iaddr (arr:Option Nat) (sz:Nat) (x i:AOpd)
 |index (len sz:Nat) (sh:Option Nat) (x i:AOpd)
 |sindex (x i:AOpd)
 |lookup (sh:EqTy) (ok:Bool) (zero:AV) (m k:AOpd)
 |mapset (sh:EqTy) (m k v:AOpd)
 |srange (x:AOpd)
 |snext (x:AOpd)
 |mrange (x:AOpd)
 |mnext (x:AOpd)
 |entry (x:AOpd)
 |ext (x:AOpd) (i:Nat)
 /-- of a string (0),a slice (1),a map (2) -/
 |len (k:Nat) (x:AOpd)
 |append (sz bytes:Nat) (x y:AOpd)
 |apref (sz bytes:Nat) (x y:AOpd)
 |copy (sz:Nat) (x y:AOpd)
 |min (xs:List AOpd)
 |max (xs:List AOpd)
 |call (f:AOpd) (args:List AOpd)
 deriving Inhabited
structure AOper where
 dst:Option Nat
 op:AOp
 /-- the temporary that must hold this bool -/
 guard:Option (Nat×Bool)
 deriving Inhabited
structure ADOper where
 o:AOper
 lo:Nat
 hi:Nat
 deriving Inhabited
inductive AJump where
 |ret
 |exit (id:Nat)
 deriving DecidableEq,Repr,Inhabited
inductive ACode where
 |skip
 |reg (ops:List AOper)
 |dreg (ops:List ADOper)
 |seq (a b:ACode)
 |cond (c:AOpd) (a b:ACode)
 |block (id:Nat) (b:ACode)
 |loop (b:ACode)
 |rangeFunc (f:AOpd) (params:List Nat) (assign body:ACode)
 |jump (j:AJump)
 |scope (b:ACode)
 deriving Inhabited
inductive LS where
 |ready|busy|done
 deriving DecidableEq,Repr,Inhabited
inductive ABlk where
 |cells (cs:List AV)
 |map (es:List (AV×AV))
 /-- a token: the size of an element,how many elements the slice has that may grow,and whether its block is no one else's -/
 |tok (sz n:Nat) (excl:Bool)
 |siter (s:ByteArray) (pos:Nat)
 /-- an iterator over a map that had so many entries: the places of those that are to come,and of the last one -/
 |miter (m n:Nat) (left:List Nat) (last:Option Nat)
 |loop (st:LS) (pend:Option AJump) (env:Env) (params:List Nat) (assign body:ACode)
 |dead
 deriving Inhabited
abbrev St:=List ABlk
inductive ARes where
 |tmp (t:Nat)
 |cell (t:Nat) (sh:Option Nat)
 deriving Inhabited
structure AFunc where
 ntmps:Nat
 results:List ARes
 body:ACode
 deriving Inhabited
def gJ (sh:Option Nat) (cs:List AV) (off:Nat):Option AV :=
 match sh with
 |none=>cs[off]?
 |some n=>if off+n≤cs.length then some (.agg ((cs.drop off).take n)) else none
def gY (cs:List AV) (off:Nat) (vs:List AV):Option (List AV) :=
 if off+vs.length≤cs.length then some (cs.take off++vs++cs.drop (off+vs.length)) else none
def iB:SK→AV→AV→Option Bool
 |.i,.int k a,.int k' b=>if k=k' then some (a==b) else none
 |.b,.bool a,.bool b=>some (a==b)
 |.s,.str a,.str b=>some (a.toList==b.toList)
 |_,_,_=>none
def cB:List SK→List AV→List AV→Option Bool
 |[],[],[]=>some true
 |k::ks,a::x,b::y =>
  match iB k a b,cB ks x y with
  |some p,some q=>some (p&&q)
  |_,_=>none
 |_,_,_=>none
def kR:EqTy→AV→AV→Option Bool
 |.one k,x,y=>iB k x y
 |.agg ks,.agg cs,.agg ds=>cB ks cs ds
 |_,_,_=>none
def bits (op:BinOp) (k:IntKind) (x y:Int):Int :=
 let a:=BitVec.ofInt k.bits x
 let b:=BitVec.ofInt k.bits y
 match op with
 |.and=>k.wrap (a &&& b).toNat
 |.or=>k.wrap (a|||b).toNat
 |.xor=>k.wrap (a ^^^ b).toNat
 |_=>k.wrap (a &&& ~~~b).toNat
def nN (op:BinOp) (k:IntKind) (a b:Int):Option AV :=
 match op with
 |.add=>some (.int k (k.wrap (a+b)))
 |.sub=>some (.int k (k.wrap (a-b)))
 |.mul=>some (.int k (k.wrap (a*b)))
 |.quo=>if b=0 then none else some (.int k (k.wrap (a.tdiv b)))
 |.rem=>if b=0 then none else some (.int k (a.tmod b))
 |.and=>some (.int k (bits .and k a b))
 |.or=>some (.int k (bits .or k a b))
 |.xor=>some (.int k (bits .xor k a b))
 |.andNot=>some (.int k (bits .andNot k a b))
 |.lss=>some (.bool (decide (a<b)))
 |.leq=>some (.bool (decide (a≤b)))
 |.gtr=>some (.bool (decide (a > b)))
 |.geq=>some (.bool (decide (a≥b)))
 |_=>none
def gU (op:BinOp) (x y:AV):Option AV :=
 match x,y with
 |.int k a,.int k' b =>
  match op with
  |.shl=>if b<0 then none else some (.int k (k.wrap (a*2^(Nat.min b.toNat k.bits))))
  |.shr=>if b<0 then none else some (.int k (a.fdiv (2^(Nat.min b.toNat k.bits))))
  |op=>if k=k' then nN op k a b else none
 |_,_=>none
def gM:AV→Option Int
 |.int _ n=>some n
 |_=>none
def cP (e:Env) (d:Nat):Option AOpd→Option Int
 |none=>some d
 |some x=>gM (x.ev e)
def aL (n:Nat) (xs:List AV):Bool:=xs.all fun x=>x.cells.length==n&&x.cells.all (·.cell)
def zE (n:Nat):AV→Bool
 |.ref _ _ _ sz=>sz==n
 |_=>true
def cY (e:Env) (cs:List AV):List (Nat×Nat×AOpd)→Option (List AV)
 |[]=>some cs
 |(off,n,x)::rest =>
  if ((x.ev e).cells.length==n&&(x.ev e).cells.all (·.cell))=true then
   match gY cs off (x.ev e).cells with
   |some cs=>cY e cs rest
   |none=>none
  else none
def aM (σ:St) (id:Nat):Option (List AV) :=
 match σ[id]? with
 |some (.cells cs)=>some cs
 |_=>none
def vY (sz:Nat):Nat→List AV→List AV
 |0,_=>[]
 |n+1,cs=>(if sz=1∧(cs.headD .undef).cell=true then cs.headD .undef else .agg (cs.take sz))::vY sz n (cs.drop sz)
def lO (σ:St):AV→Option (List AV)
 |.lit xs _ _=>some xs
 |.ref id off len sz =>
  match aM σ id with
  |some cs=>if off+len*sz≤cs.length then some (vY sz len (cs.drop off)) else none
  |none=>none
 |_=>none
def findKey (sh:EqTy) (k:AV):List (AV×AV)→Option (Option AV)
 |[]=>some none
 |(k',v)::es =>
  match kR sh k k' with
  |some true=>some (some v)
  |some false=>findKey sh k es
  |none=>none
def oK (sh:EqTy) (k v:AV):List (AV×AV)→Option (List (AV×AV))
 |[]=>some [(k,v)]
 |(k',v')::es =>
  match kR sh k k' with
  |some true=>some ((k,v)::es)
  |some false=>(oK sh k v es).map ((k',v')::·)
  |none=>none
def vC (sh:EqTy) (σ:St) (m k:AV):Option (Option AV) :=
 match m with
 |.nilMap=>if (kR sh k k).isSome=true then some none else none
 |.map id =>
  match σ[id]? with
  |some (.map es)=>if (kR sh k k).isSome=true then findKey sh k es else none
  |_=>none
 |_=>none
def mC (sh:Option Nat) (σ:St):AV→Option AV
 |.ptr id off =>
  match aM σ id with
  |some cs=>gJ sh cs off
  |none=>none
 |.lptr xs i off _ =>
  match xs[i]? with
  |some x=>gJ sh x.cells off
  |none=>none
 |_=>none
def o9 (n:Nat) (σ:St) (a v:AV):Option St :=
 match a with
 |.ptr id off =>
  if (v.cells.length==n&&v.cells.all (·.cell))=true then
   match aM σ id with
   |some cs =>
    match gY cs off v.cells with
    |some cs'=>some (σ.set id (.cells cs'))
    |none=>none
   |none=>none
  else none
 |_=>none
def AA (sz:Nat) (xs:List AV) (l h:Int):Bool :=
 decide (l=h)||(match xs[l.toNat]? with|some x=>x.cells.length==sz|none=>false)
def nZ (sz:Nat) (x:AV) (l h:Int) (full:Bool):Option AV :=
 match x with
 |.lit xs fl tk =>
  if 0≤l∧l≤h∧h≤xs.length∧AA sz xs l h=true then
   some (.lit ((xs.drop l.toNat).take (h.toNat-l.toNat)) (full||(fl&&decide (h=xs.length))) tk)
  else none
 |.ref id off len sz' =>
  if 0≤l∧l≤h∧h≤len∧sz'=sz then some (.ref id (off+l.toNat*sz) (h.toNat-l.toNat) sz) else none
 |_=>none
def kD (k:Nat) (σ:St) (x:AV):Option Nat :=
 match k,x with
 |0,.str s=>some s.size
 |1,.lit xs _ _=>some xs.length
 |1,.ref _ _ len _=>some len
 |2,.nilMap=>some 0
 |2,.map id=>match σ[id]? with|some (.map es)=>some es.length|_=>none
 |_,_=>none
def room:Nat:=2^47
def cO (sz bytes:Nat) (σ:St) (x y:AV):Option (AV×St) :=
 match x,lO σ y with
 |.lit xs full tk,some ys =>
  if ys.length=0 then some (.lit xs full tk,σ) else
  if (zE sz y&&aL sz xs&&aL sz ys&&decide ((xs.length+ys.length)*bytes≤room)&&decide (xs.length+ys.length≤room))=true then
   if full=true then some (.lit (xs++ys) false (some σ.length),σ++[.tok sz (xs.length+ys.length) true])
   else
    match tk with
    |some t =>
     match σ[t]? with
     |some (.tok sz' n _)=>if sz'=sz∧n=xs.length then some (.lit (xs++ys) false (some t),σ.set t (.tok sz (xs.length+ys.length) true)) else none
     |_=>none
    |none=>none
  else none
 |_,_=>none
def uQ (sz bytes:Nat) (σ:St) (x y:AV):Option (AV×St) :=
 match x,lO σ y with
 |.lit xs full tk,some ys =>
  if ys.length=0 then some (.lit xs full tk,σ) else
  if (full&&zE sz y&&aL sz (xs++ys)&&decide ((xs.length+ys.length)*bytes≤room)&&decide (xs.length+ys.length≤room))=true then
   some (.ref σ.length 0 (xs.length+ys.length) sz,σ++[.cells ((xs++ys).flatMap AV.cells)])
  else none
 |_,_=>none
def s8 (sz:Nat) (σ:St) (x y:AV):Option (AV×St) :=
 match x,lO σ y with
 |.ref id off len sz',some ys =>
  let zs:=ys.take len
  if (decide (sz'=sz)&&zE sz y&&aL sz ys)=true then
   match aM σ id with
   |some cs =>
    match gY cs off (zs.flatMap AV.cells) with
    |some cs'=>some (.int .i64 (Nat.min ys.length len),σ.set id (.cells cs'))
    |none=>none
   |none=>none
  else none
 |_,_=>none
def uB (k:IntKind) (a:Int):List AV→Option AV
 |[]=>some (.int k a)
 |.int k' b::rest=>if k'=k then uB k (if b<a then b else a) rest else none
 |_=>none
def zF:List AV→Option AV
 |.int k a::rest=>uB k a rest
 |_=>none
def tW (k:IntKind) (a:Int):List AV→Option AV
 |[]=>some (.int k a)
 |.int k' b::rest=>if k'=k then tW k (if b > a then b else a) rest else none
 |_=>none
def zB:List AV→Option AV
 |.int k a::rest=>tW k a rest
 |_=>none
def aop (op:AOp) (e:Env) (σ:St):Option (AV×St) :=
 match op with
 |.mov x=>some (x.ev e,σ)
 |.pick c a b=>match c.ev e with|.bool true=>some (a.ev e,σ)|.bool false=>some (b.ev e,σ)|_=>none
 |.alloc zero=>some (.ptr σ.length 0,σ++[.cells zero])
 |.box n x=>if ((x.ev e).cells.length==n&&(x.ev e).cells.all (·.cell))=true then some (.ptr σ.length 0,σ++[.cells (x.ev e).cells]) else none
 |.build zero parts=>match cY e zero parts with|some cs=>some (.agg cs,σ)|none=>none
 |.mklit sz xs=>if aL sz (xs.map (·.ev e))=true then some (.lit (xs.map (·.ev e)) true none,σ) else none
 |.mkref sz xs=>if aL sz (xs.map (·.ev e))=true then some (.ref σ.length 0 xs.length sz,σ++[.cells ((xs.map (·.ev e)).flatMap AV.cells)]) else none
 |.load sh x=>match mC sh σ (x.ev e) with|some v=>some (v,σ)|none=>none
 |.store n a x=>match o9 n σ (a.ev e) (x.ev e) with|some σ'=>some (.tuple [],σ')|none=>none
 |.nilCheck x=>match x.ev e with|.ptr i o=>some (.ptr i o,σ)|.lptr xs i o t=>some (.lptr xs i o t,σ)|.func f a b=>some (.func f a b,σ)|.yield i=>some (.yield i,σ)|_=>none
 |.bin op x y=>match gU op (x.ev e) (y.ev e) with|some v=>some (v,σ)|none=>none
 |.eql sh neg x y=>match kR sh (x.ev e) (y.ev e) with|some b=>some (.bool (if neg then !b else b),σ)|none=>none
 |.not x=>match x.ev e with|.bool b=>some (.bool !b,σ)|_=>none
 |.neg x=>match x.ev e with|.int k n=>some (.int k (k.wrap (0-n)),σ)|_=>none
 |.conv k x=>match x.ev e with|.int _ n=>some (.int k (k.wrap n),σ)|_=>none
 |.mkfun f first cap=>some (.func f (first.map (·.ev e)) (cap.map (·.ev e)),σ)
 |.mkmap=>some (.map σ.length,σ++[.map []])
 |.mkslice zero bytes l c =>
  match l.ev e,c.ev e with
  |.int _ n,.int _ m=>if 0≤n∧n=m∧n*bytes≤room∧n≤room then some (.ref σ.length 0 n.toNat zero.length,σ++[.cells (List.replicate n.toNat zero).flatten]) else none
  |_,_=>none
 |.slicev sz x lo hi mx =>
  match kD 1 σ (x.ev e) with
  |none=>none
  |some n =>
   match cP e 0 lo,cP e n hi,mx.map (fun m=>gM (m.ev e)) with
   |some l,some h,none=>(match nZ sz (x.ev e) l h false with|some v=>some (v,σ)|none=>none)
   |some l,some h,some (some m)=>if m=h∧hi.isSome=true then (match nZ sz (x.ev e) l h true with|some v=>some (v,σ)|none=>none) else none
   |_,_,_=>none
 |.slicea n sz x lo hi =>
  match x.ev e,cP e 0 lo,cP e n hi with
  |.ptr id off,some l,some h=>if 0≤l∧l≤h∧h≤n then some (.ref id (off+l.toNat*sz) (h.toNat-l.toNat) sz,σ) else none
  |_,_,_=>none
 |.faddr x off=>match x.ev e with|.ptr id o=>some (.ptr id (o+off),σ)|.lptr xs i o t=>some (.lptr xs i (o+off) t,σ)|_=>none
 |.field x off sh=>match x.ev e with|.agg cs=>(match gJ sh cs off with|some v=>some (v,σ)|none=>none)|_=>none
 |.iaddr arr sz x i =>
  match gM (i.ev e),arr,x.ev e with
  |some j,some n,.ptr id off=>if 0≤j∧j<n then some (.ptr id (off+j.toNat*sz),σ) else none
  |some j,some n,.lptr xs q off t=>if 0≤j∧j<n then some (.lptr xs q (off+j.toNat*sz) t,σ) else none
  |some j,none,.lit xs _ t =>
   match xs[j.toNat]? with
   |some y=>if 0≤j∧y.cells.length=sz then some (.lptr xs j.toNat 0 t,σ) else none
   |none=>none
  |some j,none,.ref id off len sz'=>if 0≤j∧j<len∧sz'=sz then some (.ptr id (off+j.toNat*sz),σ) else none
  |_,_,_=>none
 |.index n sz sh x i =>
  match gM (i.ev e),x.ev e with
  |some j,.agg cs=>if 0≤j∧j<n then (match gJ sh cs (j.toNat*sz) with|some v=>some (v,σ)|none=>none) else none
  |_,_=>none
 |.sindex x i =>
  match gM (i.ev e),x.ev e with
  |some j,.str s=>if 0≤j then (match s[j.toNat]? with|some b=>some (.int .u8 b.toNat,σ)|none=>none) else none
  |_,_=>none
 |.lookup sh ok zero m k =>
  match vC sh σ (m.ev e) (k.ev e) with
  |some (some v)=>some (if ok then .tuple [v,.bool true] else v,σ)
  |some none=>some (if ok then .tuple [zero,.bool false] else zero,σ)
  |none=>none
 |.mapset sh m k v =>
  match m.ev e with
  |.map id =>
   if (kR sh (k.ev e) (k.ev e)).isSome=false then none else
   match σ[id]? with
   |some (.map es)=>(match oK sh (k.ev e) (v.ev e) es with|some es'=>some (.tuple [],σ.set id (.map es'))|none=>none)
   |_=>none
  |_=>none
 |.srange x=>match x.ev e with|.str s=>some (.ptr σ.length 0,σ++[.siter s 0])|_=>none
 |.snext x =>
  match x.ev e with
  |.ptr id 0 =>
   match σ[id]? with
   |some (.siter s pos) =>
    if pos<s.size then
     some (.tuple [.bool true,.int .i64 pos,.int .i32 (Utf8.decode s pos).1],σ.set id (.siter s (pos+(Utf8.decode s pos).2)))
    else some (.tuple [.bool false],σ)
   |_=>none
  |_=>none
 |.mrange x =>
  match x.ev e with
  |.map id=>(match σ[id]? with|some (.map es)=>some (.ptr σ.length 0,σ++[.miter id es.length (List.range es.length) none])|_=>none)
  |_=>none
 |.mnext _=>none
 |.entry x =>
  match x.ev e with
  |.ptr id 0 =>
   match σ[id]? with
   |some (.miter m n _ (some i)) =>
    match σ[m]? with
    |some (.map es) =>
     if es.length=n then
      match es[i]? with
      |some (k,v)=>some (.tuple [k,v],σ)
      |none=>none
     else none
    |_=>none
   |_=>none
  |_=>none
 |.ext x i=>match x.ev e with|.tuple vs=>(match vs[i]? with|some v=>some (v,σ)|none=>none)|_=>none
 |.len k x=>match kD k σ (x.ev e) with|some n=>some (.int .i64 n,σ)|none=>none
 |.append sz bytes x y=>cO sz bytes σ (x.ev e) (y.ev e)
 |.apref sz bytes x y=>uQ sz bytes σ (x.ev e) (y.ev e)
 |.copy sz x y=>s8 sz σ (x.ev e) (y.ev e)
 |.min xs=>match zF (xs.map (·.ev e)) with|some v=>some (v,σ)|none=>none
 |.max xs=>match zB (xs.map (·.ev e)) with|some v=>some (v,σ)|none=>none
 |.call _ _=>none
mutual
def okV (m:Nat):AV→Prop
 |.func _ first cap=>okVs m first∧okVs m cap
 |.yield id|.ptr id _|.ref id _ _ _|.map id=>id<m
 |.lptr xs _ _ tk|.lit xs _ tk=>(∀ t,tk=some t→t<m)∧okVs m xs
 |.agg cs=>okVs m cs
 |.tuple vs=>okVs m vs
 |_=>True
def okVs (m:Nat):List AV→Prop
 |[]=>True
 |v::vs=>okV m v∧okVs m vs
end
def aH (m:Nat):ABlk→Prop
 |.cells cs=>okVs m cs
 |.map es=>∀ p∈es,okV m p.1∧okV m p.2
 |.tok _ _ _|.siter _ _|.dead=>True
 |.miter id _ _ _=>id<m
 |.loop _ _ _ _ _ _=>False
mutual
def snap (σ:St) (m:Nat):Nat→AV→Option AV
 |d,.func f first cap=>match snaps σ m d first,snaps σ m d cap with|some a,some b=>some (.func f a b)|_,_=>none
 |_,.yield id=>if id<m then some (.yield id) else none
 |_,.ptr id off=>if id<m then some (.ptr id off) else none
 |_,.map id=>if id<m then some (.map id) else none
 |0,.ref id off len sz=>if id<m then some (.ref id off len sz) else none
 |d+1,.ref id off len sz =>
  if id<m then some (.ref id off len sz) else
  match lO σ (.ref id off len sz) with
  |some xs=>if (decide (0<sz)&&aL sz xs)=true then (match snaps σ m d xs with|some ys=>some (.lit ys false none)|none=>none) else none
  |none=>none
 |d,.lit xs full tk =>
  match snaps σ m d xs with
  |some ys=>some (.lit ys full (tk.filter (· < m)))
  |none=>none
 |d,.agg cs=>match snaps σ m d cs with|some ys=>some (.agg ys)|none=>none
 |d,.tuple vs=>match snaps σ m d vs with|some ys=>some (.tuple ys)|none=>none
 |d,.lptr xs i off tk=>match snaps σ m d xs with|some ys=>some (.lptr ys i off (tk.filter (· < m)))|none=>none
 |_,v=>some v
termination_by d v=>(d,SizeOf.sizeOf v)
def snaps (σ:St) (m:Nat):Nat→List AV→Option (List AV)
 |_,[]=>some []
 |d,v::vs=>match snap σ m d v,snaps σ m d vs with|some a,some b=>some (a::b)|_,_=>none
termination_by d vs=>(d,SizeOf.sizeOf vs)
end
structure Out where
 j:Option AJump
 env:Env
 σ:St
 v:AV
structure ARead where
 lo:Nat
 hi:Nat
 op:AOp
 env:Env
 v:AV
inductive Task where
 |code (c:ACode) (env:Env) (σ:St)
 |ops (os:List AOper) (env:Env) (σ:St)
 |dops (os:List ADOper) (env:Env) (σ:St) (next:Nat) (hist:List St) (reads:List ARead)
 |call (f:FuncId) (args:List AV) (σ:St)
 |callv (f:AV) (args:List AV) (σ:St)
 |chain (az:List ACode) (env:Env) (σ:St)
def AOper.wanted (o:AOper) (env:Env):Option Bool :=
 match o.guard with
 |none=>some true
 |some (t,want) =>
  match Env.get env t with
  |.bool b=>some (b==want)
  |.tuple []=>some false
  |_=>none
def eJ (os:List ADOper):List ABlk :=
 os.filterMap fun o=>match o.o.op with|.alloc z=>some (.cells z)|_=>none
def ARead.ok (r:ARead) (hist:List St):Prop :=
 ∀ j s,r.lo≤j→j≤r.hi→hist[j]? = some s→aop r.op r.env s=some (r.v,s)
def AOp.reads:AOp→Bool
 |.load ..|.lookup ..|.len ..|.slicev ..|.entry _=>true
 |_=>false
def AOp.allocs:AOp→Bool
 |.alloc _=>true
 |_=>false
def AOp.calls:AOp→Bool
 |.call ..|.mnext _=>true
 |_=>false
def AOp.acts:AOp→Bool
 |.store ..|.append ..|.apref ..|.mkref ..|.copy ..|.box ..|.mkmap|.mkslice ..|.mapset ..|.srange _|.snext _|.mrange _|.mnext _|.call ..=>true
 |_=>false
def gS:Nat→List AV→Env
 |_,[]=>[]
 |k,v::vs=>(k,v)::gS (k+1) vs
def oR (env:Env) (σ:St):List ARes→Option (List AV)
 |[]=>some []
 |.tmp t::rs=>(oR env σ rs).map (Env.get env t::·)
 |.cell t sh::rs =>
  match mC sh σ (Env.get env t),oR env σ rs with
  |some v,some vs=>some (v::vs)
  |_,_=>none
def iH (rs:List ARes) (env:Env) (σ:St):Option AV :=
 match oR env σ rs with
 |some [v]=>some v
 |some vs=>some (.tuple vs)
 |none=>none
def fI (σ σ':St) (m i:Nat):Prop :=
 σ'[i]? = σ[i]?∨(∃ b,σ'[i]? = some b∧aH m b) ∨
  ∃ st pe st' pe' env ps a b,σ[i]? = some (.loop st pe env ps a b)∧σ'[i]? = some (.loop st' pe' env ps a b)
mutual
def clr:AV→AV
 |.func f a b=>.func f (clrs a) (clrs b)
 |.lptr xs i off tk=>.lptr (clrs xs) i off tk
 |.lit xs full tk=>.lit (clrs xs) (full&&tk.isSome) tk
 |.agg cs=>.agg (clrs cs)
 |.tuple vs=>.tuple (clrs vs)
 |.undef=>.undef
 |.int k n=>.int k n
 |.bool b=>.bool b
 |.str s=>.str s
 |.nilFunc=>.nilFunc
 |.yield i=>.yield i
 |.ptr i o=>.ptr i o
 |.nilPtr=>.nilPtr
 |.ref i o l s=>.ref i o l s
 |.map i=>.map i
 |.nilMap=>.nilMap
def clrs:List AV→List AV
 |[]=>[]
 |v::vs=>clr v::clrs vs
end
def OX (σ σ':St) (v:AV) (Q:Out→Prop):Prop :=
 Q ⟨none,[],σ',v⟩ ∨
 ∃ d v' v'',snap σ' σ.length d v=some v'∧(v''=v'∨v''=clr v')∧(∀ i,i<σ.length→fI σ σ' σ.length i)∧σ.length≤σ'.length∧Q ⟨none,[],σ'.take σ.length,v''⟩
def Y3 (σ:St) (env':Env) (σ':St) (env'':Env) (m:Nat):Prop :=
 σ.length≤m∧m≤σ'.length∧(∀ p∈env'',p.2=Env.get env' p.1∧okV m p.2) ∧
 ∀ i,i<m→(i<σ.length∧fI σ σ' m i)∨∃ b,σ'[i]? = some b∧aH m b
def lJ (env:Env):List Nat→List AV→Env
 |p::ps,v::vs=>lJ (Env.put env (some p) v) ps vs
 |_,_=>env
mutual
def Scal:AV→Prop
 |.int _ _|.bool _|.str _=>True
 |.lit [] _ none=>True
 |.agg cs=>Scals cs
 |.tuple vs=>Scals vs
 |_=>False
def Scals:List AV→Prop
 |[]=>True
 |v::vs=>Scal v∧Scals vs
end
def TO (σ:St) (m:Nat) (v v':AV):Prop:=(v'=v∧okV m v)∨∃ d v1,snap σ m d v=some v1∧(v'=v1∨v'=clr v1)
def P9 (σ:St) (m:Nat):List AV→List AV→Prop
 |[],[]=>True
 |a::az,b::bs=>TO σ m a b∧P9 σ m az bs
 |_,_=>False
def LX (σ:St) (m:Nat) (env:Env):Env→Prop
 |[]=>True
 |(t,v)::e=>TO σ m (Env.get env t) v∧LX σ m env e
def XL (σ:St) (env':Env) (σ':St) (m i:Nat) (b:ABlk):Prop :=
 (i<σ.length∧fI σ σ' m i∧σ'[i]? = some b)∨(σ'[i]? = some b∧aH m b) ∨
  ∃ cs cs',σ'[i]? = some (.cells cs)∧b = .cells cs'∧P9 σ' m cs cs'∧(σ.length≤i∨∃ t off,Env.get env' t = .ptr i off)
def CA (σ:St) (env':Env) (σ':St) (env'':Env) (σ'':St):Prop :=
 σ.length≤σ''.length∧σ''.length≤σ'.length∧LX σ' σ''.length env' env''∧∀ i,i<σ''.length→∃ b,σ''[i]? = some b∧XL σ env' σ' σ''.length i b
mutual
def noTok (t:Nat):AV→Prop
 |.func _ first cap=>noToks t first∧noToks t cap
 |.lptr xs _ _ tk|.lit xs _ tk=>tk≠some t∧noToks t xs
 |.agg cs=>noToks t cs
 |.tuple vs=>noToks t vs
 |_=>True
def noToks (t:Nat):List AV→Prop
 |[]=>True
 |v::vs=>noTok t v∧noToks t vs
end
def aCY (t:Nat):ABlk→Prop
 |.cells cs=>noToks t cs
 |.map es=>∀ p∈es,noTok t p.1∧noTok t p.2
 |.loop _ _ _ _ _ _=>False
 |_=>True
def NT:List ACode→ACode→ACode
 |[],c=>c
 |a::az,c=>.seq a (NT az c)
def R4 (n0:Nat) (env:Env) (σ:St) (env':Env) (σ':St):Prop :=
 ∃ t p xs sz,n0≤t∧aL sz xs=true∧σ[t]? = some (.tok sz xs.length true)∧env=(p,.lit xs false (some t))::env.tail∧noToks t xs∧(∀ q∈env.tail,noTok t q.2)∧(∀ i b,i≠t→σ[i]? = some b→aCY t b) ∧
  env'=(p,.ref t 0 xs.length sz)::env.tail∧σ'=σ.set t (.cells (xs.flatMap AV.cells))
inductive Run (T:FuncId→Option AFunc):Task→(Out→Prop)→Prop where
 |mono {t Q R} (h:Run T t R) (hq:∀ o,R o→Q o):Run T t Q
 |skip {env σ Q} (h:Q ⟨none,env,σ,.undef⟩):Run T (.code .skip env σ) Q
 |jump {j env σ Q} (h:Q ⟨some j,env,σ,.undef⟩):Run T (.code (.jump j) env σ) Q
 |seq {a b env σ Q R} (h:Run T (.code a env σ) R) (h1:∀ o,R o→o.j=none→Run T (.code b o.env o.σ) Q) (h2:∀ o,R o→o.j≠none→Q o) :
   Run T (.code (.seq a b) env σ) Q
 |cond {c x y env σ Q} (b:Bool) (hc:c.ev env = .bool b) (h:Run T (.code (if b then x else y) env σ) Q):Run T (.code (.cond c x y) env σ) Q
 |block {id b env σ Q R} (h:Run T (.code b env σ) R) (h1:∀ o,R o→Q (if o.j=some (.exit id) then { o with j:=none } else o)) :
   Run T (.code (.block id b) env σ) Q
 |loop {b env σ Q R} (h:Run T (.code b env σ) R) (h1:∀ o,R o→o.j=none→Run T (.code (.loop b) o.env o.σ) Q) (h2:∀ o,R o→o.j≠none→Q o) :
   Run T (.code (.loop b) env σ) Q
 |scope {b env σ Q} (h:Run T (.code b env σ) Q):Run T (.code (.scope b) env σ) Q
 |reg {os env σ Q} (h:Run T (.ops os env σ) Q):Run T (.code (.reg os) env σ) Q
 |dreg {os env σ Q} (h:Run T (.dops os env (σ++eJ os) σ.length [σ++eJ os] []) Q):Run T (.code (.dreg os) env σ) Q
 |rangeFunc {f g first cap ps a b env σ Q R} (hf:f.ev env = .func g first cap)
   (h:Run T (.call g (first++[.yield σ.length]++cap) (σ++[.loop .ready none env ps a b])) R)
   (h1:∀ o,R o→∃ st pend env' ps' a' b',o.σ[σ.length]? = some (.loop st pend env' ps' a' b')∧st≠.busy∧Q ⟨pend,env,o.σ.set σ.length .dead,.undef⟩) :
   Run T (.code (.rangeFunc f ps a b) env σ) Q
 /-- What the code has made and nobody needs is forgotten. -/
 |trim {c env σ Q R} (h:Run T (.code c env σ) R) (h1:∀ o,R o→∃ env' m,Y3 σ o.env o.σ env' m∧Q ⟨o.j,env',o.σ.take m,o.v⟩):Run T (.code c env σ) Q
 |trim2 {c env σ Q R} (h:Run T (.code c env σ) R) (h1:∀ o,R o→Q o∨∃ env'' σ'',CA σ o.env o.σ env'' σ''∧Q ⟨o.j,env'',σ'',o.v⟩):Run T (.code c env σ) Q
 /-- A call that needs nothing of the state. -/
 |frame {f args args0 σ Q R} (hf:okVs 0 args) (h0:args0=args∨args0=clrs args) (h:Run T (.call f args0 []) R) (h1:∀ o,R o→o.σ=[]∧Q ⟨none,[],σ,o.v⟩):Run T (.call f args σ) Q
 |frameS {f args args0 as1 d σ Q R} (hf:snaps σ 0 d args=some as1) (h0:args0=as1∨args0=clrs as1) (h:Run T (.call f args0 []) R) (h1:∀ o,R o→o.σ=[]∧Scal o.v∧Q ⟨none,[],σ,o.v⟩):Run T (.call f args σ) Q
 |chainNil {env σ Q} (h:Q ⟨none,env,σ,.undef⟩):Run T (.chain [] env σ) Q
 |chainCons {a az env σ Q R} (h:Run T (.code a env σ) R) (h1:∀ o,R o→o.j=none→Run T (.chain az o.env o.σ) Q) (h2:∀ o,R o→o.j≠none→Q o):Run T (.chain (a::az) env σ) Q
 |chain {a0 az c env σ Q R} {S:Env→St→Prop} (h:Run T (.chain (a0::az) env σ) R) (h1:∀ o,R o→o.j≠none→Q o)
   (h2:∀ o,R o→o.j=none→∃ env1 σ1 env2 σ2,CA σ o.env o.σ env1 σ1∧((env2=env1∧σ2=σ1)∨R4 σ.length env1 σ1 env2 σ2)∧S env2 σ2)
   (h3:∀ env2 σ2,S env2 σ2→Run T (.code c env2 σ2) Q):Run T (.code (NT (a0::az) c) env σ) Q
 /-- A full slice is given a token. -/
 |ghost {c env σ Q} (t sz:Nat) (xs:List AV) (ht:Env.get env t = .lit xs true none)
   (h:Run T (.code c ((t,.lit xs false (some σ.length))::env) (σ++[.tok sz xs.length false])) Q):Run T (.code c env σ) Q
 /-- An environment stands for what it has at each temporary. -/
 |reenv {c env env' σ Q} (he:∀ t,Env.get env t=Env.get env' t) (h:Run T (.code c env' σ) Q):Run T (.code c env σ) Q
 /-- Less may be known of the temporaries. -/
 |weak {c env env' σ Q} (he:∀ t,Env.get env' t = .undef∨Env.get env' t=Env.get env t∨Env.get env' t=clr (Env.get env t)) (h:Run T (.code c env' σ) Q):Run T (.code c env σ) Q
 |reops {os env env' σ Q} (he:∀ t,Env.get env t=Env.get env' t) (h:Run T (.ops os env' σ) Q):Run T (.ops os env σ) Q
 |nil {env σ Q} (h:Q ⟨none,env,σ,.undef⟩):Run T (.ops [] env σ) Q
 |off {o os env σ Q} (hw:o.wanted env=some false) (h:Run T (.ops os (Env.put env o.dst (.tuple [])) σ) Q):Run T (.ops (o::os) env σ) Q
 |step {o os env σ v σ' Q} (hw:o.wanted env=some true) (ha:aop o.op env σ=some (v,σ')) (h:Run T (.ops os (Env.put env o.dst v) σ') Q) :
   Run T (.ops (o::os) env σ) Q
 |stepc {o os env σ f args Q R} (hw:o.wanted env=some true) (ho:o.op = .call f args) (hc:Run T (.callv (f.ev env) (args.map (·.ev env)) σ) R)
   (h:∀ r,R r→Run T (.ops os (Env.put env o.dst r.v) r.σ) Q):Run T (.ops (o::os) env σ) Q
 |stepm {o os env σ x id m n es left last Q} (hw:o.wanted env=some true) (ho:o.op = .mnext x) (hx:x.ev env = .ptr id 0) (hl:σ[id]? = some (.miter m n left last))
   (he:σ[m]? = some (.map es)) (hn:es.length=n)
   (h0:left=[]→Run T (.ops os (Env.put env o.dst (.tuple [.bool false])) σ) Q)
   (h1:∀ i k v,i∈left→es[i]? = some (k,v)→Run T (.ops os (Env.put env o.dst (.tuple [.bool true,k,v])) (σ.set id (.miter m n (left.filter (·≠i)) (some i)))) Q) :
   Run T (.ops (o::os) env σ) Q
 |dnil {env σ next hist reads Q} (hr:∀ r∈reads,ARead.ok r hist) (h:Q ⟨none,env,σ,.undef⟩):Run T (.dops [] env σ next hist reads) Q
 |doff {o os env σ next hist reads Q} (hw:o.o.wanted env=some false)
   (h:Run T (.dops os (Env.put env o.o.dst (.tuple [])) σ (if o.o.op.allocs then next+1 else next) (if o.o.op.acts then hist++[σ] else hist) reads) Q) :
   Run T (.dops (o::os) env σ next hist reads) Q
 |dalloc {o os env σ next hist reads z Q} (hw:o.o.wanted env=some true) (ho:o.o.op = .alloc z)
   (h:Run T (.dops os (Env.put env o.o.dst (.ptr next 0)) σ (next+1) hist reads) Q):Run T (.dops (o::os) env σ next hist reads) Q
 |dpure {o os env σ next hist reads v Q} (hw:o.o.wanted env=some true) (hk:(o.o.op.acts||o.o.op.allocs||o.o.op.reads)=false) (ha:aop o.o.op env σ=some (v,σ))
   (h:Run T (.dops os (Env.put env o.o.dst v) σ next hist reads) Q):Run T (.dops (o::os) env σ next hist reads) Q
 |dread {o os env σ next hist reads v Q} (hw:o.o.wanted env=some true) (hk:o.o.op.reads=true) (ha:aop o.o.op env σ=some (v,σ))
   (h:Run T (.dops os (Env.put env o.o.dst v) σ next hist (⟨o.lo,o.hi,o.o.op,env,v⟩::reads)) Q):Run T (.dops (o::os) env σ next hist reads) Q
 |dact {o os env σ next hist reads v σ' Q} (hw:o.o.wanted env=some true) (hk:o.o.op.acts=true) (ha:aop o.o.op env σ=some (v,σ'))
   (h:Run T (.dops os (Env.put env o.o.dst v) σ' next (hist++[σ']) reads) Q):Run T (.dops (o::os) env σ next hist reads) Q
 |dcall {o os env σ next hist reads f args v σ' Q} (hw:o.o.wanted env=some true) (ho:o.o.op = .call f args)
   (hc:Run T (.callv (f.ev env) (args.map (·.ev env)) σ) fun r=>r.v=v∧r.σ=σ')
   (h:Run T (.dops os (Env.put env o.o.dst v) σ' next (hist++[σ']) reads) Q):Run T (.dops (o::os) env σ next hist reads) Q
 |callf {f first cap args σ Q} (h:Run T (.call f (first++args++cap) σ) Q):Run T (.callv (.func f first cap) args σ) Q
 |round {id args σ env ps a b Q R S} (hl:σ[id]? = some (.loop .ready none env ps a b)) (hn:ps.length=args.length)
   (h:Run T (.code a (lJ env ps args) σ) R)
   (h0:∀ o,R o→o.j=none∧o.σ[id]? = some (.loop .ready none env ps a b))
   (h1:∀ o,R o→Run T (.code b o.env (o.σ.set id (.loop .busy none env ps a b))) S)
   (h2:∀ o,S o→o.σ[id]? = some (.loop .busy none env ps a b) ∧
    Q ⟨none,[],o.σ.set id (.loop (if o.j=none then .ready else .done) o.j env ps a b),.bool (decide (o.j=none))⟩) :
   Run T (.callv (.yield id) args σ) Q
 |call {f args σ af Q R} (hf:T f=some af) (hn:args.length≤af.ntmps) (h:Run T (.code af.body (gS 0 args) σ) R)
   (h1:∀ o,R o→(o.j=none∨o.j=some .ret)∧∃ v,iH af.results o.env o.σ=some v∧OX σ o.σ v Q):Run T (.call f args σ) Q
def top:Nat:=2^60
def Env.has:Env→Nat→Bool
 |[],_=>false
 |(k,_)::e,t=>if k=t then true else Env.has e t
def Env.tidyTo (acc:Env):Env→Env
 |[]=>acc
 |(k,v)::e=>if Env.has acc k then Env.tidyTo acc e else Env.tidyTo (acc++[(k,v)]) e
def Env.tidy (e:Env):Env:=Env.tidyTo [] e
def ZA (q:AOp) (e:Env):Nat :=
 match q with
 |.store _ a _=>match a.ev e with|.ptr id _=>id|_=>top
 |.mapset _ m _ _=>match m.ev e with|.map id=>id|_=>top
 |.copy _ x _=>match x.ev e with|.ref id _ _ _=>id|_=>top
 |.snext x=>match x.ev e with|.ptr id _=>id|_=>top
 |.append _ _ x _=>match x.ev e with|.lit _ false (some t)=>t|_=>top
 |_=>top
mutual
def okVB (m:Nat):Nat→AV→Bool
 |0,_=>false
 |d+1,v =>
  match v with
  |.func _ a b=>okVBs m d a&&okVBs m d b
  |.yield id|.ptr id _|.ref id _ _ _|.map id=>decide (id<m)
  |.lptr xs _ _ tk|.lit xs _ tk=>(match tk with|some t=>decide (t<m)|none=>true)&&okVBs m d xs
  |.agg cs=>okVBs m d cs
  |.tuple vs=>okVBs m d vs
  |_=>true
def okVBs (m:Nat):Nat→List AV→Bool
 |0,_=>false
 |_+1,[]=>true
 |d+1,v::vs=>okVB m d v&&okVBs m d vs
end
def aBA (m:Nat):ABlk→Bool
 |.cells cs=>okVBs m 10000 cs
 |.map es=>es.all fun p=>okVB m 10000 p.1&&okVB m 10000 p.2
 |.miter id _ _ _=>decide (id<m)
 |_=>true
def X0 (m:Nat):List ABlk→Nat→Nat→Bool
 |[],_,_=>true
 |b::bs,i,lo=>if i<m then (decide (i<lo)||aBA m b)&&X0 m bs (i+1) lo else true
mutual
def snapF (σ:St) (m:Nat):Nat→Nat→AV→Option AV
 |0,_,_=>none
 |k+1,d,v =>
  match v with
  |.func f first cap=>match snapsF σ m k d first,snapsF σ m k d cap with|some a,some b=>some (.func f a b)|_,_=>none
  |.yield id=>if id<m then some (.yield id) else none
  |.ptr id off=>if id<m then some (.ptr id off) else none
  |.map id=>if id<m then some (.map id) else none
  |.ref id off len sz =>
   if id<m then some (.ref id off len sz) else
   match d with
   |0=>none
   |d+1 =>
    match lO σ (.ref id off len sz) with
    |some xs=>if (decide (0<sz)&&aL sz xs)=true then (match snapsF σ m k d xs with|some ys=>some (.lit ys false none)|none=>none) else none
    |none=>none
  |.lit xs full tk=>match snapsF σ m k d xs with|some ys=>some (.lit ys full (tk.filter (· < m)))|none=>none
  |.agg cs=>match snapsF σ m k d cs with|some ys=>some (.agg ys)|none=>none
  |.tuple vs=>match snapsF σ m k d vs with|some ys=>some (.tuple ys)|none=>none
  |.lptr xs i off tk=>match snapsF σ m k d xs with|some ys=>some (.lptr ys i off (tk.filter (· < m)))|none=>none
  |.undef=>some .undef
  |.int k n=>some (.int k n)
  |.bool b=>some (.bool b)
  |.str s=>some (.str s)
  |.nilFunc=>some .nilFunc
  |.nilPtr=>some .nilPtr
  |.nilMap=>some .nilMap
def snapsF (σ:St) (m:Nat):Nat→Nat→List AV→Option (List AV)
 |0,_,_=>none
 |_+1,_,[]=>some []
 |k+1,d,v::vs=>match snapF σ m k d v,snapsF σ m k d vs with|some a,some b=>some (a::b)|_,_=>none
end
mutual
def eqVF:Nat→AV→AV→Bool
 |0,_,_=>false
 |k+1,a,b =>
  match a,b with
  |.undef,.undef|.nilFunc,.nilFunc|.nilPtr,.nilPtr|.nilMap,.nilMap=>true
  |.int k n,.int l m=>decide (k=l)&&decide (n=m)
  |.bool x,.bool y=>x==y
  |.str x,.str y=>decide (x=y)
  |.func f a b,.func g c d=>decide (f=g)&&eqVsF k a c&&eqVsF k b d
  |.yield i,.yield j|.map i,.map j=>decide (i=j)
  |.ptr i o,.ptr j p=>decide (i=j)&&decide (o=p)
  |.lptr xs i o t,.lptr ys j p u=>eqVsF k xs ys&&decide (i=j)&&decide (o=p)&&decide (t=u)
  |.lit xs f t,.lit ys g u=>eqVsF k xs ys&&(f==g)&&decide (t=u)
  |.ref a b c d,.ref e f g h=>decide (a=e)&&decide (b=f)&&decide (c=g)&&decide (d=h)
  |.agg xs,.agg ys=>eqVsF k xs ys
  |.tuple xs,.tuple ys=>eqVsF k xs ys
  |_,_=>false
def eqVsF:Nat→List AV→List AV→Bool
 |0,_,_=>false
 |_+1,[],[]=>true
 |k+1,a::x,b::y=>eqVF k a b&&eqVsF k x y
 |_+1,_,_=>false
end
def TN (r:ARead):List St→Nat→Bool
 |[],_=>true
 |s::ss,j =>
  (if decide (r.lo≤j)&&decide (j≤r.hi) then (match aop r.op r.env s with|some (v,_)=>eqVF 100000 v r.v|none=>false) else true)&&TN r ss (j+1)
def aHH (x:AOpd) (e:Env) (σ:St):Option (AV×St):=some (x.ev e,σ)
def aD9 (c a b:AOpd) (e:Env) (σ:St):Option (AV×St):=match c.ev e with|.bool true=>some (a.ev e,σ)|.bool false=>some (b.ev e,σ)|_=>none
def aC6 (zero:List AV) (σ:St):Option (AV×St):=some (.ptr σ.length 0,σ++[.cells zero])
def aHE (n:Nat) (v:AV) (σ:St):Option (AV×St):=if (v.cells.length==n&&v.cells.all (·.cell))=true then some (.ptr σ.length 0,σ++[.cells v.cells]) else none
def aAY (zero:List AV) (parts:List (Nat×Nat×AOpd)) (e:Env) (σ:St):Option (AV×St):=match cY e zero parts with|some cs=>some (.agg cs,σ)|none=>none
def aA0 (sz:Nat) (vs:List AV) (σ:St):Option (AV×St):=if aL sz vs=true then some (.lit vs true none,σ) else none
def aEJ (sh:Option Nat) (σ:St) (v:AV):Option (AV×St):=match mC sh σ v with|some v=>some (v,σ)|none=>none
def aAD (n:Nat) (σ:St) (a v:AV):Option (AV×St):=match o9 n σ a v with|some σ'=>some (.tuple [],σ')|none=>none
def aHU (σ:St) (x y:AV):Option (AV×St):=match x,y with|.int k a,.int k' b=>if k=k' then some (.int k (k.wrap (a+b)),σ) else none|_,_=>none
def aHA (σ:St) (x y:AV):Option (AV×St):=match x,y with|.int k a,.int k' b=>if k=k' then some (.int k (k.wrap (a-b)),σ) else none|_,_=>none
def aGS (σ:St) (x y:AV):Option (AV×St):=match x,y with|.int k a,.int k' b=>if k=k' then some (.int k (k.wrap (a*b)),σ) else none|_,_=>none
def aHF (σ:St) (x y:AV):Option (AV×St):=match x,y with|.int k a,.int k' b=>if k=k' then some (.bool (decide (a<b)),σ) else none|_,_=>none
def aGM (σ:St) (x y:AV):Option (AV×St):=match x,y with|.int k a,.int k' b=>if k=k' then some (.bool (decide (a≤b)),σ) else none|_,_=>none
def aGP (σ:St) (x y:AV):Option (AV×St):=match x,y with|.int k a,.int k' b=>if k=k' then some (.bool (decide (a > b)),σ) else none|_,_=>none
def aG2 (σ:St) (x y:AV):Option (AV×St):=match x,y with|.int k a,.int k' b=>if k=k' then some (.bool (decide (a≥b)),σ) else none|_,_=>none
def aFK (op:BinOp) (σ:St) (x y:AV):Option (AV×St):=match gU op x y with|some v=>some (v,σ)|none=>none
def aG8 (op:BinOp) (σ:St) (x y:AV):Option (AV×St) :=
 match op with
 |.add=>aHU σ x y
 |.sub=>aHA σ x y
 |.mul=>aGS σ x y
 |.lss=>aHF σ x y
 |.leq=>aGM σ x y
 |.gtr=>aGP σ x y
 |.geq=>aG2 σ x y
 |op=>aFK op σ x y
def aG4 (sh:EqTy) (neg:Bool) (σ:St) (x y:AV):Option (AV×St):=match kR sh x y with|some b=>some (.bool (if neg then !b else b),σ)|none=>none
def aHI (σ:St) (x:AV):Option (AV×St):=match x with|.bool b=>some (.bool !b,σ)|_=>none
def aAW (off:Nat) (σ:St) (x:AV):Option (AV×St):=match x with|.ptr id o=>some (.ptr id (o+off),σ)|.lptr xs i o t=>some (.lptr xs i (o+off) t,σ)|_=>none
def aAP (off:Nat) (sh:Option Nat) (σ:St) (x:AV):Option (AV×St):=match x with|.agg cs=>(match gJ sh cs off with|some v=>some (v,σ)|none=>none)|_=>none
def aG0 (i:Nat) (σ:St) (x:AV):Option (AV×St):=match x with|.tuple vs=>(match vs[i]? with|some v=>some (v,σ)|none=>none)|_=>none
def aHL (k:Nat) (σ:St) (x:AV):Option (AV×St):=match kD k σ x with|some n=>some (.int .i64 n,σ)|none=>none
def aGN (σ:St) (x:AV):Option (AV×St):=match x with|.ptr i o=>some (.ptr i o,σ)|.lptr xs i o t=>some (.lptr xs i o t,σ)|.func f a b=>some (.func f a b,σ)|.yield i=>some (.yield i,σ)|_=>none
def aDS (op:AOp) (e:Env) (σ:St):Option (AV×St) :=
 match op with
 |.mov x=>aHH x e σ
 |.pick c a b=>aD9 c a b e σ
 |.alloc z=>aC6 z σ
 |.box n x=>aHE n (x.ev e) σ
 |.build z ps=>aAY z ps e σ
 |.mklit n xs=>aA0 n (xs.map (·.ev e)) σ
 |.load sh x=>aEJ sh σ (x.ev e)
 |.store n a x=>aAD n σ (a.ev e) (x.ev e)
 |.nilCheck x=>aGN σ (x.ev e)
 |.bin op x y=>aG8 op σ (x.ev e) (y.ev e)
 |.eql sh n x y=>aG4 sh n σ (x.ev e) (y.ev e)
 |.not x=>aHI σ (x.ev e)
 |.faddr x o=>aAW o σ (x.ev e)
 |.field x o sh=>aAP o sh σ (x.ev e)
 |.ext x i=>aG0 i σ (x.ev e)
 |.len k x=>aHL k σ (x.ev e)
 |.append sz b x y=>cO sz b σ (x.ev e) (y.ev e)
 |op=>aop op e σ
section
variable (callv:AV→List AV→St→Option (AV×St×Nat))
def AJ:List AOper→Env→St→Nat→Option (Env×St×Nat)
 |[],e,σ,lo=>some (e,σ,lo)
 |o::os,e,σ,lo =>
  match o.wanted e with
  |some true =>
   match o.op with
   |.call f args =>
    match callv (f.ev e) (args.map (·.ev e)) σ with
    |some (v,σ',l)=>AJ os (Env.put e o.dst v) σ' (Nat.min lo l)
    |none=>none
   |op =>
    match aDS op e σ with
    |some (v,σ')=>AJ os (Env.put e o.dst v) σ' (Nat.min lo (ZA op e))
    |none=>none
  |some false=>AJ os (Env.put e o.dst (.tuple [])) σ lo
  |none=>none
def BQ:List ADOper→Env→St→Nat→List St→List ARead→Nat→Option (Env×St×Nat)
 |[],e,σ,_,hist,reads,lo=>if reads.all (fun r=>TN r hist 0)=true then some (e,σ,lo) else none
 |d::ds,e,σ,next,hist,reads,lo =>
  match d.o.wanted e with
  |some true =>
   match d.o.op with
   |.call f args =>
    match callv (f.ev e) (args.map (·.ev e)) σ with
    |some (v,σ',l)=>BQ ds (Env.put e d.o.dst v) σ' next (hist++[σ']) reads (Nat.min lo l)
    |none=>none
   |.alloc _=>BQ ds (Env.put e d.o.dst (.ptr next 0)) σ (next+1) hist reads lo
   |op =>
    match aDS op e σ with
    |some (v,σ') =>
     if op.acts=true then BQ ds (Env.put e d.o.dst v) σ' next (hist++[σ']) reads (Nat.min lo (ZA op e))
     else if op.reads=true then BQ ds (Env.put e d.o.dst v) σ next hist (⟨d.lo,d.hi,op,e,v⟩::reads) lo
     else BQ ds (Env.put e d.o.dst v) σ next hist reads lo
    |none=>none
  |some false=>BQ ds (Env.put e d.o.dst (.tuple [])) σ (if d.o.op.allocs then next+1 else next) (if d.o.op.acts then hist++[σ] else hist) reads lo
  |none=>none
end
def aGJ:Option AJump→Bool
 |none|some .ret=>true
 |_=>false
section
variable (T:FuncId→Option AFunc) (M:FuncId→List AV→Option AV) (E:ACode→Env→St→Option (Option AJump×Env×St×Nat))
def ZG (f:FuncId) (args:List AV) (σ:St):Option (AV×St×Nat) :=
 match M f args with
 |some v=>some (v,σ,top)
 |none =>
 match T f with
 |some af =>
  if args.length≤af.ntmps then
   match E af.body (gS 0 args) σ with
   |some (j,e,σ1,lo) =>
    if aGJ j=true then
     match iH af.results e σ1 with
     |some v =>
      match snapF σ1 σ.length 100000 20 v with
      |some v'=>if X0 σ.length σ1 0 lo=true then some (v',σ1.take σ.length,lo) else some (v,σ1,lo)
      |none=>some (v,σ1,lo)
     |none=>none
    else none
   |none=>none
  else none
 |none=>none
def Y8 (f:AV) (args:List AV) (σ:St):Option (AV×St×Nat) :=
 match f with
 |.func f first cap=>ZG T M E f (first++args++cap) σ
 |.yield id =>
  match σ[id]? with
  |some (.loop .ready none env ps a b) =>
   if ps.length=args.length then
    match E a (lJ env ps args) σ with
    |some (none,e1,σ1,l1) =>
     match σ1[id]? with
     |some (.loop .ready none _ _ _ _) =>
      match E b e1 (σ1.set id (.loop .busy none env ps a b)) with
      |some (j,_,σ2,l2) =>
       match σ2[id]? with
       |some (.loop .busy none _ _ _ _) =>
        match j with
        |none=>some (.bool true,σ2.set id (.loop .ready none env ps a b),Nat.min id (Nat.min l1 l2))
        |some j=>some (.bool false,σ2.set id (.loop .done (some j) env ps a b),Nat.min id (Nat.min l1 l2))
       |_=>none
      |none=>none
     |_=>none
    |_=>none
   else none
  |_=>none
 |_=>none
end
def aEK (id:Nat):Option AJump→Option AJump
 |some (.exit i)=>if i=id then none else some (.exit i)
 |j=>j
abbrev Res:=Option (Option AJump×Env×St×Nat)
def aE1 (r:Option (Env×St×Nat)):Res:=match r with|some (e',σ',lo)=>some (none,e',σ',lo)|none=>none
def aF2 (lo:Nat) (r:Res):Res:=match r with|some (j,e2,σ2,l2)=>some (j,e2,σ2,Nat.min lo l2)|none=>none
def aH0 (E:ACode→Env→St→Res) (b:ACode) (r:Res):Res :=
 match r with
 |some (none,e1,σ1,lo)=>aF2 lo (E b e1 σ1)
 |r=>r
def aDV (E:ACode→Env→St→Res) (b:ACode) (r:Res):Res :=
 match r with
 |some (none,e1,σ1,lo)=>aF2 lo (E (.loop b) (Env.tidy e1) σ1)
 |r=>r
def aEY (x:AV) (r q:Res):Res:=match x with|.bool true=>r|.bool false=>q|_=>none
def aBT (id:Nat) (r:Res):Res:=match r with|some (j,e1,σ1,lo)=>some (aEK id j,e1,σ1,lo)|none=>none
def M6 (e:Env) (n:Nat) (r:Option (AV×St×Nat)):Res :=
 match r with
 |some (_,σ1,lo) =>
  match σ1[n]? with
  |some (.loop .ready pend _ _ _ _)=>some (pend,e,σ1.set n .dead,lo)
  |some (.loop .done pend _ _ _ _)=>some (pend,e,σ1.set n .dead,lo)
  |_=>none
 |none=>none
def aAI (T:FuncId→Option AFunc) (M:FuncId→List AV→Option AV) (E:ACode→Env→St→Res) (f:AV) (ps:List Nat) (a b:ACode) (e:Env) (σ:St):Res :=
 match f with
 |.func g first cap=>M6 e σ.length (ZG T M E g (first++[.yield σ.length]++cap) (σ++[.loop .ready none e ps a b]))
 |_=>none
def ST (T:FuncId→Option AFunc) (M:FuncId→List AV→Option AV) (E:ACode→Env→St→Res) (c:ACode) (e:Env) (σ:St):Res :=
 match c with
 |.skip=>some (none,e,σ,top)
 |.jump j=>some (some j,e,σ,top)
 |.reg os=>aE1 (AJ (Y8 T M E) os e σ top)
 |.dreg ds=>aE1 (BQ (Y8 T M E) ds e (σ++eJ ds) σ.length [σ++eJ ds] [] top)
 |.seq a b=>aH0 E b (E a e σ)
 |.cond c a b=>aEY (c.ev e) (E a e σ) (E b e σ)
 |.block id b=>aBT id (E b e σ)
 |.loop b=>aDV E b (E b e σ)
 |.scope b=>E b e σ
 |.rangeFunc f ps a b=>aAI T M E (f.ev e) ps a b e σ
def exec (T:FuncId→Option AFunc) (M:FuncId→List AV→Option AV):Nat→ACode→Env→St→Res
 |0=>fun _ _ _=>none
 |k+1=>ST T M (exec T M k)
end Go.Am
namespace Go.Am.Room
def a2:AFunc:=⟨1,[],
 .reg [⟨some 0,.call (.c (.func 1 [] [])) [],none⟩]⟩
def a3:AFunc:=⟨61,[.tmp 4],
 .seq (.reg [⟨some 2,.box 4 (.t 0),none⟩,⟨some 4,.mov (.c (.bool false)),none⟩])
 (.seq (.reg [⟨some 14,.load (some 4) (.t 2),none⟩,⟨some 15,.call (.c (.func 17 [] [])) [.t 14],none⟩,⟨some 13,.mov (.t 15),none⟩,⟨some 16,.ext (.t 13) 0,none⟩,⟨some 17,.ext (.t 13) 1,none⟩,⟨some 18,.ext (.t 13) 2,none⟩,⟨some 5,.mov (.t 16),none⟩,⟨some 6,.mov (.t 17),none⟩,⟨some 7,.mov (.t 18),none⟩])
 (.seq (.reg [⟨some 20,.load (some 4) (.t 2),none⟩,⟨some 21,.call (.c (.func 18 [] [])) [.t 20],none⟩,⟨some 19,.mov (.t 21),none⟩,⟨some 22,.ext (.t 19) 0,none⟩,⟨some 23,.ext (.t 19) 1,none⟩,⟨some 24,.ext (.t 19) 2,none⟩,⟨some 8,.mov (.t 22),none⟩,⟨some 9,.mov (.t 23),none⟩,⟨some 10,.mov (.t 24),none⟩])
 (.seq (.seq (.reg [⟨some 25,.mov (.t 5),none⟩,⟨some 26,.mov (.t 8),none⟩,⟨some 27,.eql (.one .i) true (.t 25) (.t 26),none⟩,⟨some 28,.mov (.t 27),none⟩,⟨some 29,.mov (.t 6),(some (28,false))⟩,⟨some 30,.mov (.t 9),(some (28,false))⟩,⟨some 31,.eql (.one .i) true (.t 29) (.t 30),(some (28,false))⟩,⟨some 32,.pick (.t 28) (.c (.bool true)) (.t 31),none⟩,⟨some 33,.mov (.t 32),none⟩,⟨some 34,.mov (.t 7),(some (33,false))⟩,⟨some 35,.mov (.t 10),(some (33,false))⟩,⟨some 36,.eql (.one .i) true (.t 34) (.t 35),(some (33,false))⟩,⟨some 37,.pick (.t 33) (.c (.bool true)) (.t 36),none⟩])
 (.cond (.t 37) (.seq (.reg [⟨some 4,.mov (.c (.bool false)),none⟩])
 (.jump .ret))
 .skip))
 (.seq (.reg [⟨some 39,.load (some 4) (.t 2),none⟩,⟨some 40,.mov (.t 1),none⟩,⟨some 41,.call (.c (.func 19 [] [])) [.t 39,.t 40],none⟩,⟨some 38,.mov (.t 41),none⟩,⟨some 42,.ext (.t 38) 0,none⟩,⟨some 43,.ext (.t 38) 1,none⟩,⟨some 11,.mov (.t 42),none⟩,⟨some 7,.mov (.t 43),none⟩])
 (.seq (.reg [⟨some 45,.load (some 4) (.t 2),none⟩,⟨some 46,.mov (.t 1),none⟩,⟨some 47,.call (.c (.func 20 [] [])) [.t 45,.t 46],none⟩,⟨some 44,.mov (.t 47),none⟩,⟨some 48,.ext (.t 44) 0,none⟩,⟨some 49,.ext (.t 44) 1,none⟩,⟨some 12,.mov (.t 48),none⟩,⟨some 10,.mov (.t 49),none⟩])
 (.seq (.reg [⟨some 50,.mov (.t 11),none⟩,⟨some 51,.mov (.t 12),none⟩,⟨some 52,.call (.c (.func 21 [] [])) [.t 50,.t 51],none⟩,⟨some 53,.mov (.t 52),none⟩,⟨some 54,.mov (.t 7),(some (53,true))⟩,⟨some 55,.mov (.t 10),(some (53,true))⟩,⟨some 56,.eql (.one .i) false (.t 54) (.t 55),(some (53,true))⟩,⟨some 57,.pick (.t 53) (.t 56) (.c (.bool false)),none⟩,⟨some 58,.mov (.t 57),none⟩,⟨some 59,.call (.c (.func 22 [] [])) [],(some (58,true))⟩,⟨some 60,.pick (.t 58) (.t 59) (.c (.bool false)),none⟩,⟨some 4,.mov (.t 60),none⟩])
 (.jump .ret)))))))⟩
def a4:AFunc:=⟨90,[.tmp 4],
 .seq (.reg [⟨some 2,.box 4 (.t 0),none⟩,⟨some 4,.mov (.c (.bool false)),none⟩])
 (.seq (.reg [⟨some 16,.load (some 4) (.t 2),none⟩,⟨some 17,.mov (.t 1),none⟩,⟨some 18,.call (.c (.func 23 [] [])) [.t 16,.t 17],none⟩,⟨some 15,.mov (.t 18),none⟩,⟨some 19,.ext (.t 15) 0,none⟩,⟨some 20,.ext (.t 15) 1,none⟩,⟨some 21,.ext (.t 15) 2,none⟩,⟨some 5,.alloc [.int .i64 0,.int .i64 0],none⟩,⟨none,.store 2 (.t 5) (.t 19),none⟩,⟨some 6,.mov (.t 20),none⟩,⟨some 7,.mov (.t 21),none⟩])
 (.seq (.reg [⟨some 23,.load (some 4) (.t 2),none⟩,⟨some 24,.mov (.t 1),none⟩,⟨some 25,.call (.c (.func 24 [] [])) [.t 23,.t 24],none⟩,⟨some 22,.mov (.t 25),none⟩,⟨some 26,.ext (.t 22) 0,none⟩,⟨some 27,.ext (.t 22) 1,none⟩,⟨some 28,.ext (.t 22) 2,none⟩,⟨some 8,.alloc [.int .i64 0,.int .i64 0],none⟩,⟨none,.store 2 (.t 8) (.t 26),none⟩,⟨some 9,.mov (.t 27),none⟩,⟨some 10,.mov (.t 28),none⟩])
 (.seq (.seq (.reg [⟨some 29,.load (some 2) (.t 5),none⟩,⟨some 30,.load (some 2) (.t 8),none⟩,⟨some 31,.eql (.agg [.i,.i]) true (.t 29) (.t 30),none⟩,⟨some 32,.mov (.t 31),none⟩,⟨some 33,.mov (.t 6),(some (32,false))⟩,⟨some 34,.mov (.t 9),(some (32,false))⟩,⟨some 35,.eql (.one .i) true (.t 33) (.t 34),(some (32,false))⟩,⟨some 36,.pick (.t 32) (.c (.bool true)) (.t 35),none⟩,⟨some 37,.mov (.t 36),none⟩,⟨some 38,.mov (.t 7),(some (37,false))⟩,⟨some 39,.mov (.t 10),(some (37,false))⟩,⟨some 40,.eql (.one .i) true (.t 38) (.t 39),(some (37,false))⟩,⟨some 41,.pick (.t 37) (.c (.bool true)) (.t 40),none⟩])
 (.cond (.t 41) (.seq (.reg [⟨some 4,.mov (.c (.bool false)),none⟩])
 (.jump .ret))
 .skip))
 (.seq (.reg [⟨some 43,.load (some 4) (.t 2),none⟩,⟨some 44,.call (.c (.func 25 [] [])) [.t 43],none⟩,⟨some 42,.mov (.t 44),none⟩,⟨some 45,.ext (.t 42) 0,none⟩,⟨some 46,.ext (.t 42) 1,none⟩,⟨some 47,.ext (.t 42) 2,none⟩,⟨some 11,.mov (.t 45),none⟩,⟨some 12,.mov (.t 46),none⟩,⟨some 7,.mov (.t 47),none⟩])
 (.seq (.reg [⟨some 49,.load (some 4) (.t 2),none⟩,⟨some 50,.call (.c (.func 26 [] [])) [.t 49],none⟩,⟨some 48,.mov (.t 50),none⟩,⟨some 51,.ext (.t 48) 0,none⟩,⟨some 52,.ext (.t 48) 1,none⟩,⟨some 53,.ext (.t 48) 2,none⟩,⟨some 13,.mov (.t 51),none⟩,⟨some 14,.mov (.t 52),none⟩,⟨some 10,.mov (.t 53),none⟩])
 (.seq (.seq (.reg [⟨some 54,.mov (.t 11),none⟩,⟨some 55,.mov (.t 13),none⟩,⟨some 56,.call (.c (.func 27 [] [])) [.t 54,.t 55],none⟩,⟨some 57,.not (.t 56),none⟩,⟨some 58,.mov (.t 57),none⟩,⟨some 59,.mov (.t 12),(some (58,false))⟩,⟨some 60,.mov (.t 14),(some (58,false))⟩,⟨some 61,.call (.c (.func 27 [] [])) [.t 59,.t 60],(some (58,false))⟩,⟨some 62,.not (.t 61),(some (58,false))⟩,⟨some 63,.pick (.t 58) (.c (.bool true)) (.t 62),none⟩,⟨some 64,.mov (.t 63),none⟩,⟨some 65,.mov (.t 7),(some (64,false))⟩,⟨some 66,.mov (.t 10),(some (64,false))⟩,⟨some 67,.eql (.one .i) true (.t 65) (.t 66),(some (64,false))⟩,⟨some 68,.pick (.t 64) (.c (.bool true)) (.t 67),none⟩])
 (.cond (.t 68) (.seq (.reg [⟨some 4,.mov (.c (.bool false)),none⟩])
 (.jump .ret))
 .skip))
 (.seq (.reg [⟨some 70,.load (some 4) (.t 2),none⟩,⟨some 71,.call (.c (.func 28 [] [])) [.t 70],none⟩,⟨some 69,.mov (.t 71),none⟩,⟨some 72,.ext (.t 69) 0,none⟩,⟨some 73,.ext (.t 69) 1,none⟩,⟨some 6,.mov (.t 72),none⟩,⟨some 7,.mov (.t 73),none⟩])
 (.seq (.reg [⟨some 75,.load (some 4) (.t 2),none⟩,⟨some 76,.call (.c (.func 29 [] [])) [.t 75],none⟩,⟨some 74,.mov (.t 76),none⟩,⟨some 77,.ext (.t 74) 0,none⟩,⟨some 78,.ext (.t 74) 1,none⟩,⟨some 9,.mov (.t 77),none⟩,⟨some 10,.mov (.t 78),none⟩])
 (.seq (.reg [⟨some 79,.mov (.t 6),none⟩,⟨some 80,.mov (.t 9),none⟩,⟨some 81,.eql (.one .i) false (.t 79) (.t 80),none⟩,⟨some 82,.mov (.t 81),none⟩,⟨some 83,.mov (.t 7),(some (82,true))⟩,⟨some 84,.mov (.t 10),(some (82,true))⟩,⟨some 85,.eql (.one .i) false (.t 83) (.t 84),(some (82,true))⟩,⟨some 86,.pick (.t 82) (.t 85) (.c (.bool false)),none⟩,⟨some 87,.mov (.t 86),none⟩,⟨some 88,.call (.c (.func 22 [] [])) [],(some (87,true))⟩,⟨some 89,.pick (.t 87) (.t 88) (.c (.bool false)),none⟩,⟨some 4,.mov (.t 89),none⟩])
 (.jump .ret))))))))))⟩
def a5:AFunc:=⟨37,[.tmp 2],
 .seq (.reg [⟨some 1,.box 4 (.t 0),none⟩,⟨some 2,.mov (.c (.bool false)),none⟩])
 (.seq (.reg [⟨some 10,.load (some 4) (.t 1),none⟩,⟨some 11,.call (.c (.func 30 [] [])) [.t 10],none⟩,⟨some 9,.mov (.t 11),none⟩,⟨some 12,.ext (.t 9) 0,none⟩,⟨some 13,.ext (.t 9) 1,none⟩,⟨some 14,.ext (.t 9) 2,none⟩,⟨some 3,.mov (.t 12),none⟩,⟨some 4,.mov (.t 13),none⟩,⟨some 5,.mov (.t 14),none⟩])
 (.seq (.reg [⟨some 16,.load (some 4) (.t 1),none⟩,⟨some 17,.call (.c (.func 31 [] [])) [.t 16],none⟩,⟨some 15,.mov (.t 17),none⟩,⟨some 18,.ext (.t 15) 0,none⟩,⟨some 19,.ext (.t 15) 1,none⟩,⟨some 20,.ext (.t 15) 2,none⟩,⟨some 6,.mov (.t 18),none⟩,⟨some 7,.mov (.t 19),none⟩,⟨some 8,.mov (.t 20),none⟩])
 (.seq (.reg [⟨some 21,.mov (.t 3),none⟩,⟨some 22,.mov (.t 6),none⟩,⟨some 23,.call (.c (.func 21 [] [])) [.t 21,.t 22],none⟩,⟨some 24,.mov (.t 23),none⟩,⟨some 25,.mov (.t 4),(some (24,true))⟩,⟨some 26,.mov (.t 7),(some (24,true))⟩,⟨some 27,.call (.c (.func 27 [] [])) [.t 25,.t 26],(some (24,true))⟩,⟨some 28,.pick (.t 24) (.t 27) (.c (.bool false)),none⟩,⟨some 29,.mov (.t 28),none⟩,⟨some 30,.mov (.t 5),(some (29,true))⟩,⟨some 31,.mov (.t 8),(some (29,true))⟩,⟨some 32,.eql (.one .i) false (.t 30) (.t 31),(some (29,true))⟩,⟨some 33,.pick (.t 29) (.t 32) (.c (.bool false)),none⟩,⟨some 34,.mov (.t 33),none⟩,⟨some 35,.call (.c (.func 22 [] [])) [],(some (34,true))⟩,⟨some 36,.pick (.t 34) (.t 35) (.c (.bool false)),none⟩,⟨some 2,.mov (.t 36),none⟩])
 (.jump .ret))))⟩
def a6:AFunc:=⟨86,[.tmp 2],
 .seq (.reg [⟨some 1,.box 4 (.t 0),none⟩,⟨some 2,.mov (.c (.bool false)),none⟩])
 (.seq (.reg [⟨some 14,.load (some 4) (.t 1),none⟩,⟨some 15,.call (.c (.func 32 [] [])) [.t 14],none⟩,⟨some 13,.mov (.t 15),none⟩,⟨some 16,.ext (.t 13) 0,none⟩,⟨some 17,.ext (.t 13) 1,none⟩,⟨some 18,.ext (.t 13) 2,none⟩,⟨some 3,.mov (.t 16),none⟩,⟨some 4,.mov (.t 17),none⟩,⟨some 5,.mov (.t 18),none⟩])
 (.seq (.reg [⟨some 20,.load (some 4) (.t 1),none⟩,⟨some 21,.call (.c (.func 33 [] [])) [.t 20],none⟩,⟨some 19,.mov (.t 21),none⟩,⟨some 22,.ext (.t 19) 0,none⟩,⟨some 23,.ext (.t 19) 1,none⟩,⟨some 24,.ext (.t 19) 2,none⟩,⟨some 6,.mov (.t 22),none⟩,⟨some 7,.mov (.t 23),none⟩,⟨some 8,.mov (.t 24),none⟩])
 (.seq (.seq (.reg [⟨some 25,.mov (.t 3),none⟩,⟨some 26,.mov (.t 6),none⟩,⟨some 27,.call (.c (.func 27 [] [])) [.t 25,.t 26],none⟩,⟨some 28,.not (.t 27),none⟩,⟨some 29,.mov (.t 28),none⟩,⟨some 30,.mov (.t 4),(some (29,false))⟩,⟨some 31,.mov (.t 7),(some (29,false))⟩,⟨some 32,.call (.c (.func 27 [] [])) [.t 30,.t 31],(some (29,false))⟩,⟨some 33,.not (.t 32),(some (29,false))⟩,⟨some 34,.pick (.t 29) (.c (.bool true)) (.t 33),none⟩,⟨some 35,.mov (.t 34),none⟩,⟨some 36,.mov (.t 5),(some (35,false))⟩,⟨some 37,.mov (.t 8),(some (35,false))⟩,⟨some 38,.eql (.one .i) true (.t 36) (.t 37),(some (35,false))⟩,⟨some 39,.pick (.t 35) (.c (.bool true)) (.t 38),none⟩])
 (.cond (.t 39) (.seq (.reg [⟨some 2,.mov (.c (.bool false)),none⟩])
 (.jump .ret))
 .skip))
 (.seq (.reg [⟨some 41,.load (some 4) (.t 1),none⟩,⟨some 42,.call (.c (.func 34 [] [])) [.t 41],none⟩,⟨some 40,.mov (.t 42),none⟩,⟨some 43,.ext (.t 40) 0,none⟩,⟨some 44,.ext (.t 40) 1,none⟩,⟨some 45,.ext (.t 40) 2,none⟩,⟨some 9,.mov (.t 43),none⟩,⟨some 10,.mov (.t 44),none⟩,⟨some 5,.mov (.t 45),none⟩])
 (.seq (.reg [⟨some 47,.load (some 4) (.t 1),none⟩,⟨some 48,.call (.c (.func 35 [] [])) [.t 47],none⟩,⟨some 46,.mov (.t 48),none⟩,⟨some 49,.ext (.t 46) 0,none⟩,⟨some 50,.ext (.t 46) 1,none⟩,⟨some 51,.ext (.t 46) 2,none⟩,⟨some 11,.mov (.t 49),none⟩,⟨some 12,.mov (.t 50),none⟩,⟨some 8,.mov (.t 51),none⟩])
 (.seq (.seq (.reg [⟨some 52,.mov (.t 9),none⟩,⟨some 53,.mov (.t 11),none⟩,⟨some 54,.eql (.one .i) true (.t 52) (.t 53),none⟩,⟨some 55,.mov (.t 54),none⟩,⟨some 56,.mov (.t 10),(some (55,false))⟩,⟨some 57,.mov (.t 12),(some (55,false))⟩,⟨some 58,.eql (.one .i) true (.t 56) (.t 57),(some (55,false))⟩,⟨some 59,.pick (.t 55) (.c (.bool true)) (.t 58),none⟩,⟨some 60,.mov (.t 59),none⟩,⟨some 61,.mov (.t 5),(some (60,false))⟩,⟨some 62,.mov (.t 8),(some (60,false))⟩,⟨some 63,.eql (.one .i) true (.t 61) (.t 62),(some (60,false))⟩,⟨some 64,.pick (.t 60) (.c (.bool true)) (.t 63),none⟩])
 (.cond (.t 64) (.seq (.reg [⟨some 2,.mov (.c (.bool false)),none⟩])
 (.jump .ret))
 .skip))
 (.seq (.reg [⟨some 66,.load (some 4) (.t 1),none⟩,⟨some 67,.call (.c (.func 36 [] [])) [.t 66],none⟩,⟨some 65,.mov (.t 67),none⟩,⟨some 68,.ext (.t 65) 0,none⟩,⟨some 69,.ext (.t 65) 1,none⟩,⟨some 3,.mov (.t 68),none⟩,⟨some 5,.mov (.t 69),none⟩])
 (.seq (.reg [⟨some 71,.load (some 4) (.t 1),none⟩,⟨some 72,.call (.c (.func 37 [] [])) [.t 71],none⟩,⟨some 70,.mov (.t 72),none⟩,⟨some 73,.ext (.t 70) 0,none⟩,⟨some 74,.ext (.t 70) 1,none⟩,⟨some 6,.mov (.t 73),none⟩,⟨some 8,.mov (.t 74),none⟩])
 (.seq (.reg [⟨some 75,.mov (.t 3),none⟩,⟨some 76,.mov (.t 6),none⟩,⟨some 77,.call (.c (.func 27 [] [])) [.t 75,.t 76],none⟩,⟨some 78,.mov (.t 77),none⟩,⟨some 79,.mov (.t 5),(some (78,true))⟩,⟨some 80,.mov (.t 8),(some (78,true))⟩,⟨some 81,.eql (.one .i) false (.t 79) (.t 80),(some (78,true))⟩,⟨some 82,.pick (.t 78) (.t 81) (.c (.bool false)),none⟩,⟨some 83,.mov (.t 82),none⟩,⟨some 84,.call (.c (.func 22 [] [])) [],(some (83,true))⟩,⟨some 85,.pick (.t 83) (.t 84) (.c (.bool false)),none⟩,⟨some 2,.mov (.t 85),none⟩])
 (.jump .ret))))))))))⟩
def a7:AFunc:=⟨174,[.tmp 0],
 .seq (.reg [⟨some 0,.mov (.c (.bool false)),none⟩])
 (.seq (.reg [⟨some 24,.call (.c (.func 38 [] [])) [(.c (.bool false)),(.c (.lit [] true none))],none⟩,⟨some 25,.call (.c (.func 39 [] [])) [(.c (.int .i64 0)),(.c (.int .i64 (-1)))],none⟩,⟨some 26,.mklit 2 [.t 25],none⟩,⟨some 27,.call (.c (.func 38 [] [])) [(.c (.bool true)),(.t 26)],none⟩,⟨some 1,.alloc [.int .i64 0,.lit [] true none,.lit [] true none,.lit [] true none],none⟩,⟨some 2,.alloc [.int .i64 0,.lit [] true none,.lit [] true none,.lit [] true none],none⟩,⟨none,.store 4 (.t 1) (.t 24),none⟩,⟨none,.store 4 (.t 2) (.t 27),none⟩])
 (.seq (.reg [⟨some 29,.load (some 4) (.t 1),none⟩,⟨some 30,.call (.c (.func 19 [] [])) [(.t 29),(.c (.int .i64 2))],none⟩,⟨some 28,.mov (.t 30),none⟩,⟨some 31,.ext (.t 28) 0,none⟩,⟨some 32,.ext (.t 28) 1,none⟩,⟨some 3,.mov (.t 31),none⟩,⟨some 4,.mov (.t 32),none⟩])
 (.seq (.reg [⟨some 34,.load (some 4) (.t 1),none⟩,⟨some 35,.call (.c (.func 19 [] [])) [(.t 34),(.c (.int .i64 0))],none⟩,⟨some 33,.mov (.t 35),none⟩,⟨some 36,.ext (.t 33) 0,none⟩,⟨some 37,.ext (.t 33) 1,none⟩,⟨some 5,.mov (.t 36),none⟩,⟨some 6,.mov (.t 37),none⟩])
 (.seq (.reg [⟨some 39,.load (some 4) (.t 1),none⟩,⟨some 40,.call (.c (.func 23 [] [])) [(.t 39),(.c (.int .i64 0))],none⟩,⟨some 38,.mov (.t 40),none⟩,⟨some 41,.ext (.t 38) 0,none⟩,⟨some 42,.ext (.t 38) 1,none⟩,⟨some 43,.ext (.t 38) 2,none⟩,⟨some 7,.alloc [.int .i64 0,.int .i64 0],none⟩,⟨none,.store 2 (.t 7) (.t 41),none⟩,⟨some 8,.mov (.t 42),none⟩,⟨some 9,.mov (.t 43),none⟩])
 (.seq (.reg [⟨some 45,.load (some 4) (.t 1),none⟩,⟨some 46,.call (.c (.func 25 [] [])) [.t 45],none⟩,⟨some 44,.mov (.t 46),none⟩,⟨some 47,.ext (.t 44) 0,none⟩,⟨some 48,.ext (.t 44) 1,none⟩,⟨some 49,.ext (.t 44) 2,none⟩,⟨some 10,.mov (.t 47),none⟩,⟨some 11,.mov (.t 48),none⟩,⟨some 12,.mov (.t 49),none⟩])
 (.seq (.reg [⟨some 51,.load (some 4) (.t 2),none⟩,⟨some 52,.call (.c (.func 25 [] [])) [.t 51],none⟩,⟨some 50,.mov (.t 52),none⟩,⟨some 53,.ext (.t 50) 0,none⟩,⟨some 54,.ext (.t 50) 1,none⟩,⟨some 55,.ext (.t 50) 2,none⟩,⟨some 13,.mov (.t 53),none⟩,⟨some 14,.mov (.t 54),none⟩,⟨some 15,.mov (.t 55),none⟩])
 (.seq (.reg [⟨some 57,.load (some 4) (.t 1),none⟩,⟨some 58,.call (.c (.func 30 [] [])) [.t 57],none⟩,⟨some 56,.mov (.t 58),none⟩,⟨some 59,.ext (.t 56) 0,none⟩,⟨some 60,.ext (.t 56) 1,none⟩,⟨some 61,.ext (.t 56) 2,none⟩,⟨some 16,.mov (.t 59),none⟩,⟨some 17,.mov (.t 60),none⟩,⟨some 18,.mov (.t 61),none⟩])
 (.seq (.reg [⟨some 63,.load (some 4) (.t 2),none⟩,⟨some 64,.call (.c (.func 32 [] [])) [.t 63],none⟩,⟨some 62,.mov (.t 64),none⟩,⟨some 65,.ext (.t 62) 0,none⟩,⟨some 66,.ext (.t 62) 1,none⟩,⟨some 67,.ext (.t 62) 2,none⟩,⟨some 19,.mov (.t 65),none⟩,⟨some 20,.mov (.t 66),none⟩,⟨some 21,.mov (.t 67),none⟩])
 (.seq (.reg [⟨some 69,.load (some 4) (.t 2),none⟩,⟨some 70,.call (.c (.func 36 [] [])) [.t 69],none⟩,⟨some 68,.mov (.t 70),none⟩,⟨some 71,.ext (.t 68) 0,none⟩,⟨some 72,.ext (.t 68) 1,none⟩,⟨some 22,.mov (.t 71),none⟩,⟨some 23,.mov (.t 72),none⟩])
 (.seq (.dreg [⟨⟨some 73,.mov (.t 4),none⟩,0,0⟩,⟨⟨some 74,.eql (.one .i) false (.t 73) (.c (.int .i64 0)),none⟩,0,0⟩,⟨⟨some 75,.mov (.t 74),none⟩,0,0⟩,⟨⟨some 76,.mov (.t 6),(some (75,true))⟩,0,0⟩,⟨⟨some 77,.eql (.one .i) false (.t 76) (.c (.int .i64 0)),(some (75,true))⟩,0,0⟩,⟨⟨some 78,.pick (.t 75) (.t 77) (.c (.bool false)),none⟩,0,0⟩,⟨⟨some 79,.mov (.t 78),none⟩,0,0⟩,⟨⟨some 80,.mov (.t 9),(some (79,true))⟩,0,0⟩,⟨⟨some 81,.eql (.one .i) false (.t 80) (.c (.int .i64 0)),(some (79,true))⟩,0,0⟩,⟨⟨some 82,.pick (.t 79) (.t 81) (.c (.bool false)),none⟩,0,0⟩,⟨⟨some 83,.mov (.t 82),none⟩,0,0⟩,⟨⟨some 84,.mov (.t 12),(some (83,true))⟩,0,0⟩,⟨⟨some 85,.eql (.one .i) false (.t 84) (.c (.int .i64 0)),(some (83,true))⟩,0,0⟩,⟨⟨some 86,.pick (.t 83) (.t 85) (.c (.bool false)),none⟩,0,0⟩,⟨⟨some 87,.mov (.t 86),none⟩,0,0⟩,⟨⟨some 88,.mov (.t 15),(some (87,true))⟩,0,0⟩,⟨⟨some 89,.eql (.one .i) false (.t 88) (.c (.int .i64 0)),(some (87,true))⟩,0,0⟩,⟨⟨some 90,.pick (.t 87) (.t 89) (.c (.bool false)),none⟩,0,0⟩,⟨⟨some 91,.mov (.t 90),none⟩,0,0⟩,⟨⟨some 92,.mov (.t 18),(some (91,true))⟩,0,0⟩,⟨⟨some 93,.eql (.one .i) false (.t 92) (.c (.int .i64 0)),(some (91,true))⟩,0,0⟩,⟨⟨some 94,.pick (.t 91) (.t 93) (.c (.bool false)),none⟩,0,0⟩,⟨⟨some 95,.mov (.t 94),none⟩,0,0⟩,⟨⟨some 96,.mov (.t 21),(some (95,true))⟩,0,0⟩,⟨⟨some 97,.eql (.one .i) false (.t 96) (.c (.int .i64 0)),(some (95,true))⟩,0,0⟩,⟨⟨some 98,.pick (.t 95) (.t 97) (.c (.bool false)),none⟩,0,0⟩,⟨⟨some 99,.mov (.t 98),none⟩,0,0⟩,⟨⟨some 100,.mov (.t 23),(some (99,true))⟩,0,0⟩,⟨⟨some 101,.eql (.one .i) false (.t 100) (.c (.int .i64 0)),(some (99,true))⟩,0,0⟩,⟨⟨some 102,.pick (.t 99) (.t 101) (.c (.bool false)),none⟩,0,0⟩,⟨⟨some 103,.mov (.t 102),none⟩,0,0⟩,⟨⟨some 104,.mov (.t 3),(some (103,true))⟩,0,0⟩,⟨⟨some 105,.mklit 1 [(.c (.int .i64 2))],(some (103,true))⟩,0,0⟩,⟨⟨some 106,.mklit 1 [(.c (.int .i64 1)),(.c (.int .i64 0))],(some (103,true))⟩,0,0⟩,⟨⟨some 107,.mklit 1 [.t 105,.t 106],(some (103,true))⟩,0,0⟩,⟨⟨some 108,.call (.c (.func 21 [] [])) [.t 104,.t 107],(some (103,true))⟩,0,1⟩,⟨⟨some 109,.pick (.t 103) (.t 108) (.c (.bool false)),none⟩,1,1⟩,⟨⟨some 110,.mov (.t 109),none⟩,1,1⟩,⟨⟨some 111,.mov (.t 5),(some (110,true))⟩,1,1⟩,⟨⟨some 112,.len 1 (.t 111),(some (110,true))⟩,1,1⟩,⟨⟨some 113,.eql (.one .i) false (.t 112) (.c (.int .i64 0)),(some (110,true))⟩,1,1⟩,⟨⟨some 114,.pick (.t 110) (.t 113) (.c (.bool false)),none⟩,1,1⟩,⟨⟨some 115,.mov (.t 114),none⟩,1,1⟩,⟨⟨some 116,.load (some 2) (.t 7),(some (115,true))⟩,1,2⟩,⟨⟨some 117,.call (.c (.func 40 [] [])) [(.c (.int .i64 9)),(.c (.int .i64 10))],(some (115,true))⟩,1,2⟩,⟨⟨some 118,.eql (.agg [.i,.i]) false (.t 116) (.t 117),(some (115,true))⟩,2,2⟩,⟨⟨some 119,.pick (.t 115) (.t 118) (.c (.bool false)),none⟩,2,2⟩,⟨⟨some 120,.mov (.t 119),none⟩,2,2⟩,⟨⟨some 121,.mov (.t 8),(some (120,true))⟩,2,2⟩,⟨⟨some 122,.eql (.one .i) false (.t 121) (.c (.int .i64 1)),(some (120,true))⟩,2,2⟩,⟨⟨some 123,.pick (.t 120) (.t 122) (.c (.bool false)),none⟩,2,2⟩,⟨⟨some 124,.mov (.t 123),none⟩,2,2⟩,⟨⟨some 125,.mov (.t 10),(some (124,true))⟩,2,2⟩,⟨⟨some 126,.len 1 (.t 125),(some (124,true))⟩,2,2⟩,⟨⟨some 127,.eql (.one .i) false (.t 126) (.c (.int .i64 0)),(some (124,true))⟩,2,2⟩,⟨⟨some 128,.pick (.t 124) (.t 127) (.c (.bool false)),none⟩,2,2⟩,⟨⟨some 129,.mov (.t 128),none⟩,2,2⟩,⟨⟨some 130,.mov (.t 11),(some (129,true))⟩,2,2⟩,⟨⟨some 131,.len 1 (.t 130),(some (129,true))⟩,2,2⟩,⟨⟨some 132,.eql (.one .i) false (.t 131) (.c (.int .i64 0)),(some (129,true))⟩,2,2⟩,⟨⟨some 133,.pick (.t 129) (.t 132) (.c (.bool false)),none⟩,2,2⟩,⟨⟨some 134,.mov (.t 133),none⟩,2,2⟩,⟨⟨some 135,.mov (.t 13),(some (134,true))⟩,2,2⟩,⟨⟨some 136,.mklit 1 [(.c (.int .i64 0)),(.c (.int .i64 1))],(some (134,true))⟩,2,2⟩,⟨⟨some 137,.call (.c (.func 27 [] [])) [.t 135,.t 136],(some (134,true))⟩,2,3⟩,⟨⟨some 138,.pick (.t 134) (.t 137) (.c (.bool false)),none⟩,3,3⟩,⟨⟨some 139,.mov (.t 138),none⟩,3,3⟩,⟨⟨some 140,.mov (.t 14),(some (139,true))⟩,3,3⟩,⟨⟨some 141,.mklit 1 [(.c (.int .i64 0)),(.c (.int .i64 1))],(some (139,true))⟩,3,3⟩,⟨⟨some 142,.call (.c (.func 27 [] [])) [.t 140,.t 141],(some (139,true))⟩,3,4⟩,⟨⟨some 143,.pick (.t 139) (.t 142) (.c (.bool false)),none⟩,4,4⟩,⟨⟨some 144,.mov (.t 143),none⟩,4,4⟩,⟨⟨some 145,.mov (.t 16),(some (144,true))⟩,4,4⟩,⟨⟨some 146,.mklit 1 [(.c (.int .i64 1)),(.c (.int .i64 0))],(some (144,true))⟩,4,4⟩,⟨⟨some 147,.mklit 1 [(.c (.int .i64 3)),(.c (.int .i64 1)),(.c (.int .i64 0))],(some (144,true))⟩,4,4⟩,⟨⟨some 148,.mklit 1 [.t 146,.t 147],(some (144,true))⟩,4,4⟩,⟨⟨some 149,.call (.c (.func 21 [] [])) [.t 145,.t 148],(some (144,true))⟩,4,5⟩,⟨⟨some 150,.pick (.t 144) (.t 149) (.c (.bool false)),none⟩,5,5⟩,⟨⟨some 151,.mov (.t 150),none⟩,5,5⟩,⟨⟨some 152,.mov (.t 17),(some (151,true))⟩,5,5⟩,⟨⟨some 153,.len 1 (.t 152),(some (151,true))⟩,5,5⟩,⟨⟨some 154,.eql (.one .i) false (.t 153) (.c (.int .i64 0)),(some (151,true))⟩,5,5⟩,⟨⟨some 155,.pick (.t 151) (.t 154) (.c (.bool false)),none⟩,5,5⟩,⟨⟨some 156,.mov (.t 155),none⟩,5,5⟩,⟨⟨some 157,.mov (.t 19),(some (156,true))⟩,5,5⟩,⟨⟨some 158,.mklit 1 [(.c (.int .i64 0))],(some (156,true))⟩,5,5⟩,⟨⟨some 159,.call (.c (.func 27 [] [])) [.t 157,.t 158],(some (156,true))⟩,5,6⟩,⟨⟨some 160,.pick (.t 156) (.t 159) (.c (.bool false)),none⟩,6,6⟩,⟨⟨some 161,.mov (.t 160),none⟩,6,6⟩,⟨⟨some 162,.mov (.t 20),(some (161,true))⟩,6,6⟩,⟨⟨some 163,.mklit 1 [(.c (.int .i64 0))],(some (161,true))⟩,6,6⟩,⟨⟨some 164,.call (.c (.func 27 [] [])) [.t 162,.t 163],(some (161,true))⟩,6,7⟩,⟨⟨some 165,.pick (.t 161) (.t 164) (.c (.bool false)),none⟩,7,7⟩,⟨⟨some 166,.mov (.t 165),none⟩,7,7⟩,⟨⟨some 167,.mov (.t 22),(some (166,true))⟩,7,7⟩,⟨⟨some 168,.len 1 (.t 167),(some (166,true))⟩,7,7⟩,⟨⟨some 169,.eql (.one .i) false (.t 168) (.c (.int .i64 0)),(some (166,true))⟩,7,7⟩,⟨⟨some 170,.pick (.t 166) (.t 169) (.c (.bool false)),none⟩,7,7⟩,⟨⟨some 171,.mov (.t 170),none⟩,7,7⟩,⟨⟨some 172,.call (.c (.func 22 [] [])) [],(some (171,true))⟩,7,8⟩,⟨⟨some 173,.pick (.t 171) (.t 172) (.c (.bool false)),none⟩,8,8⟩,⟨⟨some 0,.mov (.t 173),none⟩,8,8⟩])
 (.jump .ret)))))))))))⟩
def aHD:ACode:=.seq (.seq (.reg [⟨some 67,.mov (.t 15),none⟩,⟨some 68,.faddr (.t 8) 0,none⟩,⟨some 69,.load none (.t 68),none⟩,⟨some 70,.len 1 (.t 69),none⟩,⟨some 71,.bin .lss (.t 67) (.t 70),none⟩])
 (.cond (.t 71) .skip
 (.jump (.exit 0))))
 (.seq (.block 1 (.seq (.reg [⟨some 74,.faddr (.t 8) 0,none⟩,⟨some 75,.load none (.t 74),none⟩,⟨some 76,.mov (.t 15),none⟩,⟨some 77,.iaddr none 1 (.t 75) (.t 76),none⟩,⟨some 78,.load none (.t 77),none⟩,⟨some 79,.mov (.t 78),none⟩,⟨some 80,.mov (.t 13),(some (79,true))⟩,⟨some 81,.mov (.t 15),(some (79,true))⟩,⟨some 82,.call (.c (.func 43 [] [])) [.t 80,.t 81],(some (79,true))⟩,⟨some 83,.not (.t 82),(some (79,true))⟩,⟨some 84,.pick (.t 79) (.t 83) (.c (.bool false)),none⟩,⟨some 85,.mov (.t 84),none⟩,⟨some 86,.faddr (.t 8) 0,(some (85,false))⟩,⟨some 87,.load none (.t 86),(some (85,false))⟩,⟨some 88,.mov (.t 15),(some (85,false))⟩,⟨some 89,.iaddr none 1 (.t 87) (.t 88),(some (85,false))⟩,⟨some 90,.load none (.t 89),(some (85,false))⟩,⟨some 91,.not (.t 90),(some (85,false))⟩,⟨some 92,.mov (.t 91),(some (85,false))⟩,⟨some 93,.mov (.t 12),(some (92,true))⟩,⟨some 94,.mov (.t 15),(some (92,true))⟩,⟨some 95,.call (.c (.func 43 [] [])) [.t 93,.t 94],(some (92,true))⟩,⟨some 96,.pick (.t 92) (.t 95) (.c (.bool false)),(some (85,false))⟩,⟨some 97,.pick (.t 85) (.c (.bool true)) (.t 96),none⟩])
 (.cond (.t 97) (.seq (.reg [⟨some 4,.mov (.c (.bool false)),none⟩])
 (.jump .ret))
 .skip)))
 (.reg [⟨some 72,.mov (.t 15),none⟩,⟨some 73,.bin .add (.t 72) (.c (.int .i64 1)),none⟩,⟨some 15,.mov (.t 73),none⟩]))
def aGX:ACode:=.seq (.seq (.reg [⟨some 106,.mov (.t 19),none⟩,⟨some 107,.mov (.t 9),none⟩,⟨some 108,.len 1 (.t 107),none⟩,⟨some 109,.bin .lss (.t 106) (.t 108),none⟩])
 (.cond (.t 109) .skip
 (.jump (.exit 2))))
 (.seq (.block 3 (.seq (.reg [⟨some 113,.load (some 4) (.t 7),none⟩,⟨some 114,.mov (.t 19),none⟩,⟨some 115,.call (.c (.func 23 [] [])) [.t 113,.t 114],none⟩,⟨some 112,.mov (.t 115),none⟩,⟨some 116,.ext (.t 112) 0,none⟩,⟨some 117,.ext (.t 112) 1,none⟩,⟨some 118,.ext (.t 112) 2,none⟩,⟨some 20,.alloc [.int .i64 0,.int .i64 0],none⟩,⟨none,.store 2 (.t 20) (.t 116),none⟩,⟨some 21,.mov (.t 117),none⟩,⟨some 22,.mov (.t 118),none⟩])
 (.seq (.dreg [⟨⟨some 119,.mov (.t 9),none⟩,0,1⟩,⟨⟨some 120,.mov (.t 19),none⟩,0,1⟩,⟨⟨some 121,.iaddr none 1 (.t 119) (.t 120),none⟩,0,1⟩,⟨⟨some 122,.load none (.t 121),none⟩,0,1⟩,⟨⟨some 123,.eql (.one .i) true (.t 122) (.c (.int .i64 (-1))),none⟩,0,1⟩,⟨⟨some 124,.faddr (.t 7) 2,none⟩,0,0⟩,⟨⟨some 125,.load none (.t 124),none⟩,0,0⟩,⟨⟨some 126,.mov (.t 19),none⟩,0,0⟩,⟨⟨some 127,.iaddr none 5 (.t 125) (.t 126),none⟩,0,0⟩,⟨⟨some 128,.load (some 5) (.t 127),none⟩,0,0⟩,⟨⟨some 129,.mov (.t 9),none⟩,0,0⟩,⟨⟨some 130,.mov (.t 19),none⟩,0,0⟩,⟨⟨some 131,.iaddr none 1 (.t 129) (.t 130),none⟩,0,0⟩,⟨⟨some 132,.load none (.t 131),none⟩,0,0⟩,⟨⟨some 133,.call (.c (.func 44 [] [])) [.t 128,.t 132],none⟩,0,1⟩,⟨⟨some 23,.mov (.t 123),none⟩,1,1⟩,⟨⟨some 24,.mov (.t 133),none⟩,1,1⟩])
 (.seq (.dreg [⟨⟨some 134,.mov (.t 22),none⟩,0,0⟩,⟨⟨some 135,.eql (.one .i) true (.t 134) (.c (.int .i64 0)),none⟩,0,0⟩,⟨⟨some 136,.mov (.t 135),none⟩,0,0⟩,⟨⟨some 137,.mov (.t 23),(some (136,false))⟩,0,0⟩,⟨⟨some 138,.mov (.t 137),(some (136,false))⟩,0,0⟩,⟨⟨some 139,.mov (.t 21),(some (138,true))⟩,0,0⟩,⟨⟨some 140,.eql (.one .i) false (.t 139) (.c (.int .i64 2)),(some (138,true))⟩,0,0⟩,⟨⟨some 141,.mov (.t 140),(some (138,true))⟩,0,0⟩,⟨⟨some 142,.mov (.t 9),(some (141,false))⟩,0,0⟩,⟨⟨some 143,.mov (.t 19),(some (141,false))⟩,0,0⟩,⟨⟨some 144,.iaddr none 1 (.t 142) (.t 143),(some (141,false))⟩,0,0⟩,⟨⟨some 145,.load none (.t 144),(some (141,false))⟩,0,0⟩,⟨⟨some 146,.load (some 2) (.t 20),(some (141,false))⟩,0,0⟩,⟨⟨some 147,.call (.c (.func 45 [] [])) [.t 145,.t 146],(some (141,false))⟩,0,1⟩,⟨⟨some 148,.not (.t 147),(some (141,false))⟩,1,1⟩,⟨⟨some 149,.pick (.t 141) (.c (.bool true)) (.t 148),(some (138,true))⟩,1,1⟩,⟨⟨some 150,.pick (.t 138) (.t 149) (.c (.bool false)),(some (136,false))⟩,1,1⟩,⟨⟨some 151,.pick (.t 136) (.c (.bool true)) (.t 150),none⟩,1,1⟩,⟨⟨some 152,.mov (.t 151),none⟩,1,1⟩,⟨⟨some 153,.mov (.t 23),(some (152,false))⟩,1,1⟩,⟨⟨some 154,.not (.t 153),(some (152,false))⟩,1,1⟩,⟨⟨some 155,.mov (.t 154),(some (152,false))⟩,1,1⟩,⟨⟨some 156,.mov (.t 21),(some (155,true))⟩,1,1⟩,⟨⟨some 157,.eql (.one .i) false (.t 156) (.c (.int .i64 1)),(some (155,true))⟩,1,1⟩,⟨⟨some 158,.pick (.t 155) (.t 157) (.c (.bool false)),(some (152,false))⟩,1,1⟩,⟨⟨some 159,.pick (.t 152) (.c (.bool true)) (.t 158),none⟩,1,1⟩,⟨⟨some 160,.mov (.t 159),none⟩,1,1⟩,⟨⟨some 161,.mov (.t 24),(some (160,false))⟩,1,1⟩,⟨⟨some 162,.mov (.t 161),(some (160,false))⟩,1,1⟩,⟨⟨some 163,.mov (.t 16),(some (162,true))⟩,1,1⟩,⟨⟨some 164,.mov (.t 19),(some (162,true))⟩,1,1⟩,⟨⟨some 165,.call (.c (.func 43 [] [])) [.t 163,.t 164],(some (162,true))⟩,1,2⟩,⟨⟨some 166,.pick (.t 162) (.t 165) (.c (.bool false)),(some (160,false))⟩,2,2⟩,⟨⟨some 167,.pick (.t 160) (.c (.bool true)) (.t 166),none⟩,2,2⟩,⟨⟨some 168,.mov (.t 167),none⟩,2,2⟩,⟨⟨some 169,.mov (.t 24),(some (168,false))⟩,2,2⟩,⟨⟨some 170,.not (.t 169),(some (168,false))⟩,2,2⟩,⟨⟨some 171,.mov (.t 170),(some (168,false))⟩,2,2⟩,⟨⟨some 172,.mov (.t 17),(some (171,true))⟩,2,2⟩,⟨⟨some 173,.mov (.t 19),(some (171,true))⟩,2,2⟩,⟨⟨some 174,.call (.c (.func 43 [] [])) [.t 172,.t 173],(some (171,true))⟩,2,3⟩,⟨⟨some 175,.not (.t 174),(some (171,true))⟩,3,3⟩,⟨⟨some 176,.pick (.t 171) (.t 175) (.c (.bool false)),(some (168,false))⟩,3,3⟩,⟨⟨some 177,.pick (.t 168) (.c (.bool true)) (.t 176),none⟩,3,3⟩])
 (.cond (.t 177) (.seq (.reg [⟨some 4,.mov (.c (.bool false)),none⟩])
 (.jump .ret))
 .skip)))))
 (.reg [⟨some 110,.mov (.t 19),none⟩,⟨some 111,.bin .add (.t 110) (.c (.int .i64 1)),none⟩,⟨some 19,.mov (.t 111),none⟩]))
def a8:AFunc:=⟨179,[.tmp 4],
 .seq (.reg [⟨some 2,.box 4 (.t 0),none⟩,⟨some 4,.mov (.c (.bool false)),none⟩])
 (.seq (.seq (.reg [⟨some 25,.load (some 4) (.t 2),none⟩,⟨some 26,.call (.c (.func 41 [] [])) [.t 25],none⟩,⟨some 27,.not (.t 26),none⟩])
 (.cond (.t 27) (.seq (.reg [⟨some 29,.load (some 4) (.t 2),none⟩,⟨some 30,.call (.c (.func 36 [] [])) [.t 29],none⟩,⟨some 28,.mov (.t 30),none⟩,⟨some 31,.ext (.t 28) 0,none⟩,⟨some 32,.ext (.t 28) 1,none⟩,⟨some 5,.mov (.t 31),none⟩,⟨some 6,.mov (.t 32),none⟩])
 (.seq (.reg [⟨some 33,.mov (.t 6),none⟩,⟨some 34,.eql (.one .i) true (.t 33) (.c (.int .i64 0)),none⟩,⟨some 35,.mov (.t 34),none⟩,⟨some 36,.call (.c (.func 22 [] [])) [],(some (35,true))⟩,⟨some 37,.pick (.t 35) (.t 36) (.c (.bool false)),none⟩,⟨some 4,.mov (.t 37),none⟩])
 (.jump .ret)))
 .skip))
 (.seq (.reg [⟨some 39,.load (some 4) (.t 2),none⟩,⟨some 40,.mov (.t 1),none⟩,⟨some 41,.call (.c (.func 42 [] [])) [.t 39,.t 40],none⟩,⟨some 38,.mov (.t 41),none⟩,⟨some 42,.ext (.t 38) 0,none⟩,⟨some 43,.ext (.t 38) 1,none⟩,⟨some 44,.ext (.t 38) 2,none⟩,⟨some 7,.alloc [.int .i64 0,.lit [] true none,.lit [] true none,.lit [] true none],none⟩,⟨some 8,.alloc [.lit [] true none,.lit [] true none],none⟩,⟨none,.store 4 (.t 7) (.t 42),none⟩,⟨none,.store 2 (.t 8) (.t 43),none⟩,⟨some 9,.mov (.t 44),none⟩])
 (.seq (.reg [⟨some 46,.load (some 4) (.t 7),none⟩,⟨some 47,.call (.c (.func 36 [] [])) [.t 46],none⟩,⟨some 45,.mov (.t 47),none⟩,⟨some 48,.ext (.t 45) 0,none⟩,⟨some 49,.ext (.t 45) 1,none⟩,⟨some 10,.mov (.t 48),none⟩,⟨some 11,.mov (.t 49),none⟩])
 (.seq (.reg [⟨some 51,.load (some 4) (.t 7),none⟩,⟨some 52,.call (.c (.func 32 [] [])) [.t 51],none⟩,⟨some 50,.mov (.t 52),none⟩,⟨some 53,.ext (.t 50) 0,none⟩,⟨some 54,.ext (.t 50) 1,none⟩,⟨some 55,.ext (.t 50) 2,none⟩,⟨some 12,.mov (.t 53),none⟩,⟨some 13,.mov (.t 54),none⟩,⟨some 14,.mov (.t 55),none⟩])
 (.seq (.seq (.reg [⟨some 56,.mov (.t 11),none⟩,⟨some 57,.eql (.one .i) true (.t 56) (.c (.int .i64 0)),none⟩,⟨some 58,.mov (.t 57),none⟩,⟨some 59,.mov (.t 14),(some (58,false))⟩,⟨some 60,.eql (.one .i) true (.t 59) (.c (.int .i64 0)),(some (58,false))⟩,⟨some 61,.pick (.t 58) (.c (.bool true)) (.t 60),none⟩,⟨some 62,.mov (.t 61),none⟩,⟨some 63,.mov (.t 10),(some (62,false))⟩,⟨some 64,.len 1 (.t 63),(some (62,false))⟩,⟨some 65,.bin .gtr (.t 64) (.c (.int .i64 0)),(some (62,false))⟩,⟨some 66,.pick (.t 62) (.c (.bool true)) (.t 65),none⟩])
 (.cond (.t 66) (.seq (.reg [⟨some 4,.mov (.c (.bool false)),none⟩])
 (.jump .ret))
 .skip))
 (.seq (.seq (.reg [⟨some 15,.mov (.c (.int .i64 0)),none⟩])
 (.block 0 (.loop aHD)))
 (.seq (.reg [⟨some 99,.load (some 4) (.t 7),none⟩,⟨some 100,.call (.c (.func 25 [] [])) [.t 99],none⟩,⟨some 98,.mov (.t 100),none⟩,⟨some 101,.ext (.t 98) 0,none⟩,⟨some 102,.ext (.t 98) 1,none⟩,⟨some 103,.ext (.t 98) 2,none⟩,⟨some 16,.mov (.t 101),none⟩,⟨some 17,.mov (.t 102),none⟩,⟨some 18,.mov (.t 103),none⟩])
 (.seq (.seq (.reg [⟨some 104,.mov (.t 18),none⟩,⟨some 105,.eql (.one .i) true (.t 104) (.c (.int .i64 0)),none⟩])
 (.cond (.t 105) (.seq (.reg [⟨some 4,.mov (.c (.bool false)),none⟩])
 (.jump .ret))
 .skip))
 (.seq (.seq (.reg [⟨some 19,.mov (.c (.int .i64 0)),none⟩])
 (.block 2 (.loop aGX)))
 (.seq (.reg [⟨some 178,.call (.c (.func 22 [] [])) [],none⟩,⟨some 4,.mov (.t 178),none⟩])
 (.jump .ret)))))))))))⟩
def aHN:ACode:=.seq (.seq (.reg [⟨some 84,.mov (.t 13),none⟩,⟨some 85,.mov (.t 12),none⟩,⟨some 86,.len 1 (.t 85),none⟩,⟨some 87,.bin .lss (.t 84) (.t 86),none⟩])
 (.cond (.t 87) .skip
 (.jump (.exit 0))))
 (.seq (.block 1 (.seq (.dreg [⟨⟨some 90,.faddr (.t 2) 2,none⟩,0,0⟩,⟨⟨some 91,.load none (.t 90),none⟩,0,0⟩,⟨⟨some 92,.mov (.t 13),none⟩,0,0⟩,⟨⟨some 93,.iaddr none 5 (.t 91) (.t 92),none⟩,0,0⟩,⟨⟨some 94,.load (some 5) (.t 93),none⟩,0,0⟩,⟨⟨some 95,.mov (.t 12),none⟩,0,0⟩,⟨⟨some 96,.mov (.t 13),none⟩,0,0⟩,⟨⟨some 97,.iaddr none 1 (.t 95) (.t 96),none⟩,0,0⟩,⟨⟨some 98,.load none (.t 97),none⟩,0,0⟩,⟨⟨some 99,.call (.c (.func 44 [] [])) [.t 94,.t 98],none⟩,0,1⟩,⟨⟨some 100,.not (.t 99),none⟩,1,1⟩,⟨⟨some 101,.mov (.t 100),none⟩,1,1⟩,⟨⟨some 102,.mov (.t 6),(some (101,true))⟩,1,1⟩,⟨⟨some 103,.mov (.t 13),(some (101,true))⟩,1,1⟩,⟨⟨some 104,.call (.c (.func 43 [] [])) [.t 102,.t 103],(some (101,true))⟩,1,2⟩,⟨⟨some 105,.not (.t 104),(some (101,true))⟩,2,2⟩,⟨⟨some 106,.pick (.t 101) (.t 105) (.c (.bool false)),none⟩,2,2⟩])
 (.cond (.t 106) (.seq (.reg [⟨some 4,.mov (.c (.bool false)),none⟩])
 (.jump .ret))
 .skip)))
 (.reg [⟨some 88,.mov (.t 13),none⟩,⟨some 89,.bin .add (.t 88) (.c (.int .i64 1)),none⟩,⟨some 13,.mov (.t 89),none⟩]))
def a9:AFunc:=⟨155,[.tmp 4],
 .seq (.reg [⟨some 2,.box 4 (.t 0),none⟩,⟨some 4,.mov (.c (.bool false)),none⟩])
 (.seq (.reg [⟨some 18,.load (some 4) (.t 2),none⟩,⟨some 19,.call (.c (.func 25 [] [])) [.t 18],none⟩,⟨some 17,.mov (.t 19),none⟩,⟨some 20,.ext (.t 17) 0,none⟩,⟨some 21,.ext (.t 17) 1,none⟩,⟨some 22,.ext (.t 17) 2,none⟩,⟨some 5,.mov (.t 20),none⟩,⟨some 6,.mov (.t 21),none⟩,⟨some 7,.mov (.t 22),none⟩])
 (.seq (.reg [⟨some 24,.load (some 4) (.t 2),none⟩,⟨some 25,.call (.c (.func 28 [] [])) [.t 24],none⟩,⟨some 23,.mov (.t 25),none⟩,⟨some 26,.ext (.t 23) 0,none⟩,⟨some 27,.ext (.t 23) 1,none⟩,⟨some 8,.mov (.t 26),none⟩,⟨some 9,.mov (.t 27),none⟩])
 (.seq (.seq (.reg [⟨some 28,.load (some 4) (.t 2),none⟩,⟨some 29,.call (.c (.func 46 [] [])) [.t 28],none⟩,⟨some 30,.not (.t 29),none⟩])
 (.cond (.t 30) (.seq (.reg [⟨some 31,.mov (.t 7),none⟩,⟨some 32,.eql (.one .i) true (.t 31) (.c (.int .i64 0)),none⟩,⟨some 33,.mov (.t 32),none⟩,⟨some 34,.mov (.t 9),(some (33,true))⟩,⟨some 35,.mov (.t 7),(some (33,true))⟩,⟨some 36,.eql (.one .i) false (.t 34) (.t 35),(some (33,true))⟩,⟨some 37,.pick (.t 33) (.t 36) (.c (.bool false)),none⟩,⟨some 38,.mov (.t 37),none⟩,⟨some 39,.mov (.t 5),(some (38,true))⟩,⟨some 40,.len 1 (.t 39),(some (38,true))⟩,⟨some 41,.mov (.t 6),(some (38,true))⟩,⟨some 42,.len 1 (.t 41),(some (38,true))⟩,⟨some 43,.bin .add (.t 40) (.t 42),(some (38,true))⟩,⟨some 44,.eql (.one .i) false (.t 43) (.c (.int .i64 0)),(some (38,true))⟩,⟨some 45,.pick (.t 38) (.t 44) (.c (.bool false)),none⟩,⟨some 46,.mov (.t 45),none⟩,⟨some 47,.call (.c (.func 22 [] [])) [],(some (46,true))⟩,⟨some 48,.pick (.t 46) (.t 47) (.c (.bool false)),none⟩,⟨some 4,.mov (.t 48),none⟩])
 (.jump .ret))
 .skip))
 (.seq (.seq (.reg [⟨some 49,.mov (.t 7),none⟩,⟨some 50,.eql (.one .i) true (.t 49) (.c (.int .i64 0)),none⟩,⟨some 51,.mov (.t 50),none⟩,⟨some 52,.mov (.t 5),(some (51,false))⟩,⟨some 53,.faddr (.t 2) 2,(some (51,false))⟩,⟨some 54,.load none (.t 53),(some (51,false))⟩,⟨some 55,.len 1 (.t 54),(some (51,false))⟩,⟨some 56,.call (.c (.func 47 [] [])) [.t 52,.t 55],(some (51,false))⟩,⟨some 57,.not (.t 56),(some (51,false))⟩,⟨some 58,.pick (.t 51) (.c (.bool true)) (.t 57),none⟩,⟨some 59,.mov (.t 58),none⟩,⟨some 60,.mov (.t 6),(some (59,false))⟩,⟨some 61,.faddr (.t 2) 2,(some (59,false))⟩,⟨some 62,.load none (.t 61),(some (59,false))⟩,⟨some 63,.len 1 (.t 62),(some (59,false))⟩,⟨some 64,.call (.c (.func 47 [] [])) [.t 60,.t 63],(some (59,false))⟩,⟨some 65,.not (.t 64),(some (59,false))⟩,⟨some 66,.pick (.t 59) (.c (.bool true)) (.t 65),none⟩])
 (.cond (.t 66) (.seq (.reg [⟨some 4,.mov (.c (.bool false)),none⟩])
 (.jump .ret))
 .skip))
 (.seq (.reg [⟨some 67,.load (some 4) (.t 2),none⟩,⟨some 68,.call (.c (.func 48 [] [])) [(.t 67),(.c (.lit [] true none))],none⟩,⟨some 10,.mov (.t 68),none⟩])
 (.seq (.dreg [⟨⟨some 70,.load (some 4) (.t 2),none⟩,0,1⟩,⟨⟨some 71,.mov (.t 10),none⟩,0,1⟩,⟨⟨some 72,.mov (.t 1),none⟩,0,1⟩,⟨⟨some 73,.conv .i64 (.t 72),none⟩,0,1⟩,⟨⟨some 74,.mov (.t 10),none⟩,0,1⟩,⟨⟨some 75,.len 1 (.t 74),none⟩,0,1⟩,⟨⟨some 76,.bin .rem (.t 73) (.t 75),none⟩,0,1⟩,⟨⟨some 77,.iaddr none 2 (.t 71) (.t 76),none⟩,0,1⟩,⟨⟨some 78,.load (some 2) (.t 77),none⟩,0,1⟩,⟨⟨some 79,.load (some 4) (.t 2),none⟩,0,0⟩,⟨⟨some 80,.call (.c (.func 50 [] [])) [.t 79],none⟩,0,1⟩,⟨⟨some 81,.call (.c (.func 49 [] [])) [.t 70,.t 78,.t 80],none⟩,1,2⟩,⟨⟨some 69,.mov (.t 81),none⟩,2,2⟩,⟨⟨some 82,.ext (.t 69) 0,none⟩,2,2⟩,⟨⟨some 83,.ext (.t 69) 1,none⟩,2,2⟩,⟨⟨some 11,.mov (.t 82),none⟩,2,2⟩,⟨⟨some 12,.mov (.t 83),none⟩,2,2⟩])
 (.seq (.seq (.reg [⟨some 13,.mov (.c (.int .i64 0)),none⟩])
 (.block 0 (.loop aHN)))
 (.seq (.seq (.reg [⟨some 107,.mov (.t 6),none⟩,⟨some 108,.len 1 (.t 107),none⟩,⟨some 109,.eql (.one .i) false (.t 108) (.c (.int .i64 0)),none⟩])
 (.cond (.t 109) (.seq (.reg [⟨some 110,.mov (.t 9),none⟩,⟨some 111,.eql (.one .i) false (.t 110) (.c (.int .i64 9)),none⟩,⟨some 112,.mov (.t 111),none⟩,⟨some 113,.mov (.t 5),(some (112,true))⟩,⟨some 114,.len 1 (.t 113),(some (112,true))⟩,⟨some 115,.eql (.one .i) false (.t 114) (.c (.int .i64 0)),(some (112,true))⟩,⟨some 116,.pick (.t 112) (.t 115) (.c (.bool false)),none⟩,⟨some 117,.mov (.t 116),none⟩,⟨some 118,.call (.c (.func 22 [] [])) [],(some (117,true))⟩,⟨some 119,.pick (.t 117) (.t 118) (.c (.bool false)),none⟩,⟨some 4,.mov (.t 119),none⟩])
 (.jump .ret))
 .skip))
 (.seq (.seq (.reg [⟨some 120,.mov (.t 9),none⟩,⟨some 121,.eql (.one .i) true (.t 120) (.c (.int .i64 0)),none⟩,⟨some 122,.mov (.t 121),none⟩,⟨some 123,.mov (.t 6),(some (122,false))⟩,⟨some 124,.mov (.t 8),(some (122,false))⟩,⟨some 125,.call (.c (.func 43 [] [])) [.t 123,.t 124],(some (122,false))⟩,⟨some 126,.not (.t 125),(some (122,false))⟩,⟨some 127,.pick (.t 122) (.c (.bool true)) (.t 126),none⟩])
 (.cond (.t 127) (.seq (.reg [⟨some 4,.mov (.c (.bool false)),none⟩])
 (.jump .ret))
 .skip))
 (.seq (.reg [⟨some 129,.load (some 4) (.t 2),none⟩,⟨some 130,.mov (.t 8),none⟩,⟨some 131,.call (.c (.func 23 [] [])) [.t 129,.t 130],none⟩,⟨some 128,.mov (.t 131),none⟩,⟨some 132,.ext (.t 128) 0,none⟩,⟨some 133,.ext (.t 128) 1,none⟩,⟨some 134,.ext (.t 128) 2,none⟩,⟨some 14,.alloc [.int .i64 0,.int .i64 0],none⟩,⟨none,.store 2 (.t 14) (.t 132),none⟩,⟨some 15,.mov (.t 133),none⟩,⟨some 16,.mov (.t 134),none⟩])
 (.seq (.dreg [⟨⟨some 135,.mov (.t 16),none⟩,0,0⟩,⟨⟨some 136,.eql (.one .i) false (.t 135) (.c (.int .i64 0)),none⟩,0,0⟩,⟨⟨some 137,.mov (.t 136),none⟩,0,0⟩,⟨⟨some 138,.mov (.t 15),(some (137,true))⟩,0,0⟩,⟨⟨some 139,.eql (.one .i) true (.t 138) (.c (.int .i64 1)),(some (137,true))⟩,0,0⟩,⟨⟨some 140,.mov (.t 139),(some (137,true))⟩,0,0⟩,⟨⟨some 141,.faddr (.t 14) 1,(some (140,false))⟩,0,0⟩,⟨⟨some 142,.load none (.t 141),(some (140,false))⟩,0,0⟩,⟨⟨some 143,.faddr (.t 2) 2,(some (140,false))⟩,0,0⟩,⟨⟨some 144,.load none (.t 143),(some (140,false))⟩,0,0⟩,⟨⟨some 145,.mov (.t 8),(some (140,false))⟩,0,0⟩,⟨⟨some 146,.iaddr none 5 (.t 144) (.t 145),(some (140,false))⟩,0,0⟩,⟨⟨some 147,.faddr (.t 146) 3,(some (140,false))⟩,0,0⟩,⟨⟨some 148,.load none (.t 147),(some (140,false))⟩,0,0⟩,⟨⟨some 149,.bin .gtr (.t 142) (.t 148),(some (140,false))⟩,0,0⟩,⟨⟨some 150,.pick (.t 140) (.c (.bool true)) (.t 149),(some (137,true))⟩,0,0⟩,⟨⟨some 151,.pick (.t 137) (.t 150) (.c (.bool false)),none⟩,0,0⟩,⟨⟨some 152,.mov (.t 151),none⟩,0,0⟩,⟨⟨some 153,.call (.c (.func 22 [] [])) [],(some (152,true))⟩,0,1⟩,⟨⟨some 154,.pick (.t 152) (.t 153) (.c (.bool false)),none⟩,1,1⟩,⟨⟨some 4,.mov (.t 154),none⟩,1,1⟩])
 (.jump .ret))))))))))))⟩
def a17:AFunc:=⟨64,[.tmp 2,.tmp 3,.tmp 4],
 .seq (.reg [⟨some 1,.box 4 (.t 0),none⟩,⟨some 2,.mov (.c (.int .i64 0)),none⟩,⟨some 3,.mov (.c (.int .i64 0)),none⟩,⟨some 4,.mov (.c (.int .i64 0)),none⟩])
 (.seq (.reg [⟨some 6,.faddr (.t 1) 0,none⟩,⟨some 7,.load none (.t 6),none⟩,⟨some 8,.bin .sub (.t 7) (.c (.int .i64 1)),none⟩,⟨some 5,.alloc [.int .i64 0],none⟩,⟨none,.store 1 (.t 5) (.t 8),none⟩])
 (.seq (.block 0 (.seq (.reg [⟨some 10,.faddr (.t 1) 0,none⟩,⟨some 11,.load none (.t 10),none⟩,⟨some 12,.mklit 1 [.t 11],none⟩,⟨some 13,.call (.c (.func 63 [] [])) [(.c (.int .i64 2)),(.c (.int .i64 5)),(.t 12)],none⟩,⟨some 9,.mov (.t 13),none⟩])
 (.cond (.t 9) (.seq (.reg [⟨some 2,.mov (.c (.int .i64 1)),none⟩,⟨some 3,.mov (.c (.int .i64 0)),none⟩,⟨some 4,.mov (.c (.int .i64 7)),none⟩])
 (.jump .ret))
 (.seq (.reg [⟨some 15,.faddr (.t 1) 1,none⟩,⟨some 16,.load none (.t 15),none⟩,⟨some 17,.len 1 (.t 16),none⟩,⟨some 18,.bin .gtr (.t 17) (.c (.int .i64 5)),none⟩,⟨some 14,.mov (.t 18),none⟩])
 (.cond (.t 14) (.seq (.reg [⟨some 2,.mov (.c (.int .i64 2)),none⟩,⟨some 3,.mov (.c (.int .i64 0)),none⟩,⟨some 4,.mov (.c (.int .i64 3)),none⟩])
 (.jump .ret))
 .skip)))))
 (.seq (.reg [⟨some 20,.faddr (.t 1) 1,none⟩,⟨some 21,.load none (.t 20),none⟩,⟨some 22,.mkfun 65 [] [.t 5],none⟩,⟨some 23,.call (.c (.func 64 [] [])) [.t 21,.t 22],none⟩,⟨some 19,.mov (.t 23),none⟩,⟨some 24,.ext (.t 19) 0,none⟩,⟨some 25,.ext (.t 19) 1,none⟩,⟨some 3,.mov (.t 24),none⟩,⟨some 4,.mov (.t 25),none⟩])
 (.seq (.block 1 (.seq (.reg [⟨some 27,.mov (.t 4),none⟩,⟨some 28,.eql (.one .i) true (.t 27) (.c (.int .i64 0)),none⟩,⟨some 26,.mov (.t 28),none⟩])
 (.cond (.t 26) (.seq (.reg [⟨some 29,.mov (.t 3),none⟩,⟨some 30,.mov (.t 4),none⟩,⟨some 2,.mov (.c (.int .i64 2)),none⟩,⟨some 3,.mov (.t 29),none⟩,⟨some 4,.mov (.t 30),none⟩])
 (.jump .ret))
 (.seq (.reg [⟨some 32,.faddr (.t 1) 2,none⟩,⟨some 33,.load none (.t 32),none⟩,⟨some 34,.len 1 (.t 33),none⟩,⟨some 35,.bin .gtr (.t 34) (.c (.int .i64 3)),none⟩,⟨some 31,.mov (.t 35),none⟩])
 (.cond (.t 31) (.seq (.reg [⟨some 2,.mov (.c (.int .i64 3)),none⟩,⟨some 3,.mov (.c (.int .i64 0)),none⟩,⟨some 4,.mov (.c (.int .i64 3)),none⟩])
 (.jump .ret))
 .skip)))))
 (.seq (.reg [⟨some 37,.faddr (.t 1) 2,none⟩,⟨some 38,.load none (.t 37),none⟩,⟨some 39,.mkfun 67 [] [.t 1,.t 5],none⟩,⟨some 40,.call (.c (.func 66 [] [])) [.t 38,.t 39],none⟩,⟨some 36,.mov (.t 40),none⟩,⟨some 41,.ext (.t 36) 0,none⟩,⟨some 42,.ext (.t 36) 1,none⟩,⟨some 3,.mov (.t 41),none⟩,⟨some 4,.mov (.t 42),none⟩])
 (.seq (.block 2 (.seq (.reg [⟨some 44,.mov (.t 4),none⟩,⟨some 45,.eql (.one .i) true (.t 44) (.c (.int .i64 0)),none⟩,⟨some 43,.mov (.t 45),none⟩])
 (.cond (.t 43) (.seq (.reg [⟨some 46,.mov (.t 3),none⟩,⟨some 47,.mov (.t 4),none⟩,⟨some 2,.mov (.c (.int .i64 3)),none⟩,⟨some 3,.mov (.t 46),none⟩,⟨some 4,.mov (.t 47),none⟩])
 (.jump .ret))
 (.seq (.reg [⟨some 49,.faddr (.t 1) 3,none⟩,⟨some 50,.load none (.t 49),none⟩,⟨some 51,.len 1 (.t 50),none⟩,⟨some 52,.bin .gtr (.t 51) (.c (.int .i64 3)),none⟩,⟨some 48,.mov (.t 52),none⟩])
 (.cond (.t 48) (.seq (.reg [⟨some 2,.mov (.c (.int .i64 4)),none⟩,⟨some 3,.mov (.c (.int .i64 0)),none⟩,⟨some 4,.mov (.c (.int .i64 3)),none⟩])
 (.jump .ret))
 .skip)))))
 (.seq (.reg [⟨some 54,.faddr (.t 1) 3,none⟩,⟨some 55,.load none (.t 54),none⟩,⟨some 56,.mkfun 73 [] [.t 1],none⟩,⟨some 57,.call (.c (.func 72 [] [])) [.t 55,.t 56],none⟩,⟨some 53,.mov (.t 57),none⟩,⟨some 58,.ext (.t 53) 0,none⟩,⟨some 59,.ext (.t 53) 1,none⟩,⟨some 3,.mov (.t 58),none⟩,⟨some 4,.mov (.t 59),none⟩])
 (.seq (.seq (.reg [⟨some 60,.mov (.t 4),none⟩,⟨some 61,.eql (.one .i) true (.t 60) (.c (.int .i64 0)),none⟩])
 (.cond (.t 61) (.seq (.reg [⟨some 62,.mov (.t 3),none⟩,⟨some 63,.mov (.t 4),none⟩,⟨some 2,.mov (.c (.int .i64 4)),none⟩,⟨some 3,.mov (.t 62),none⟩,⟨some 4,.mov (.t 63),none⟩])
 (.jump .ret))
 .skip))
 (.seq (.reg [⟨some 2,.mov (.c (.int .i64 0)),none⟩,⟨some 3,.mov (.c (.int .i64 0)),none⟩,⟨some 4,.mov (.c (.int .i64 0)),none⟩])
 (.jump .ret))))))))))⟩
def YL:ACode:=.seq (.seq (.reg [⟨some 19,.mov (.t 5),none⟩,⟨some 20,.faddr (.t 1) 1,none⟩,⟨some 21,.load none (.t 20),none⟩,⟨some 22,.len 1 (.t 21),none⟩,⟨some 23,.bin .lss (.t 19) (.t 22),none⟩])
 (.cond (.t 23) .skip
 (.jump (.exit 0))))
 (.seq (.block 1 (.seq (.dreg [⟨⟨some 26,.load (some 4) (.t 1),none⟩,0,0⟩,⟨⟨some 27,.faddr (.t 1) 1,none⟩,0,0⟩,⟨⟨some 28,.load none (.t 27),none⟩,0,0⟩,⟨⟨some 29,.mov (.t 5),none⟩,0,0⟩,⟨⟨some 30,.iaddr none 5 (.t 28) (.t 29),none⟩,0,0⟩,⟨⟨some 31,.load (some 5) (.t 30),none⟩,0,0⟩,⟨⟨some 32,.call (.c (.func 74 [] [])) [.t 26,.t 31],none⟩,0,1⟩,⟨⟨some 6,.mov (.t 32),none⟩,1,1⟩])
 (.seq (.reg [⟨some 33,.mov (.t 6),none⟩,⟨some 34,.eql (.one .i) true (.t 33) (.c (.int .i64 0)),none⟩])
 (.cond (.t 34) (.seq (.reg [⟨some 35,.mov (.t 5),none⟩,⟨some 36,.mov (.t 6),none⟩,⟨some 2,.mov (.c (.int .i64 2)),none⟩,⟨some 3,.mov (.t 35),none⟩,⟨some 4,.mov (.t 36),none⟩])
 (.jump .ret))
 .skip))))
 (.reg [⟨some 24,.mov (.t 5),none⟩,⟨some 25,.bin .add (.t 24) (.c (.int .i64 1)),none⟩,⟨some 5,.mov (.t 25),none⟩]))
def Z1:ACode:=.seq (.seq (.reg [⟨some 41,.mov (.t 8),none⟩,⟨some 42,.faddr (.t 1) 2,none⟩,⟨some 43,.load none (.t 42),none⟩,⟨some 44,.len 1 (.t 43),none⟩,⟨some 45,.bin .lss (.t 41) (.t 44),none⟩])
 (.cond (.t 45) .skip
 (.jump (.exit 2))))
 (.seq (.block 3 (.seq (.reg [⟨some 48,.faddr (.t 1) 2,none⟩,⟨some 49,.load none (.t 48),none⟩,⟨some 50,.mov (.t 8),none⟩,⟨some 51,.iaddr none 5 (.t 49) (.t 50),none⟩,⟨some 52,.faddr (.t 51) 0,none⟩,⟨some 53,.load none (.t 52),none⟩,⟨some 54,.mov (.t 7),none⟩,⟨some 55,.call (.c (.func 75 [] [])) [.t 53,.t 54],none⟩,⟨some 9,.mov (.t 55),none⟩])
 (.seq (.reg [⟨some 56,.mov (.t 7),none⟩,⟨some 57,.faddr (.t 1) 2,none⟩,⟨some 58,.load none (.t 57),none⟩,⟨some 59,.mov (.t 8),none⟩,⟨some 60,.iaddr none 5 (.t 58) (.t 59),none⟩,⟨some 61,.faddr (.t 60) 0,none⟩,⟨some 62,.load none (.t 61),none⟩,⟨some 63,.mklit 1 [.t 62],none⟩,⟨some 64,.append 1 16 (.t 56) (.t 63),none⟩,⟨some 7,.mov (.t 64),none⟩])
 (.seq (.seq (.reg [⟨some 65,.mov (.t 9),none⟩,⟨some 66,.eql (.one .i) false (.t 65) (.c (.int .i64 0)),none⟩])
 (.cond (.t 66) (.dreg [⟨⟨some 67,.load (some 4) (.t 1),none⟩,0,0⟩,⟨⟨some 68,.faddr (.t 1) 2,none⟩,0,0⟩,⟨⟨some 69,.load none (.t 68),none⟩,0,0⟩,⟨⟨some 70,.mov (.t 8),none⟩,0,0⟩,⟨⟨some 71,.iaddr none 5 (.t 69) (.t 70),none⟩,0,0⟩,⟨⟨some 72,.load (some 5) (.t 71),none⟩,0,0⟩,⟨⟨some 73,.call (.c (.func 76 [] [])) [.t 67,.t 72],none⟩,0,1⟩,⟨⟨some 9,.mov (.t 73),none⟩,1,1⟩])
 .skip))
 (.seq (.reg [⟨some 74,.mov (.t 9),none⟩,⟨some 75,.eql (.one .i) true (.t 74) (.c (.int .i64 0)),none⟩])
 (.cond (.t 75) (.seq (.reg [⟨some 76,.mov (.t 8),none⟩,⟨some 77,.mov (.t 9),none⟩,⟨some 2,.mov (.c (.int .i64 3)),none⟩,⟨some 3,.mov (.t 76),none⟩,⟨some 4,.mov (.t 77),none⟩])
 (.jump .ret))
 .skip))))))
 (.reg [⟨some 46,.mov (.t 8),none⟩,⟨some 47,.bin .add (.t 46) (.c (.int .i64 1)),none⟩,⟨some 8,.mov (.t 47),none⟩]))
def XT:ACode:=.seq (.seq (.reg [⟨some 82,.mov (.t 10),none⟩,⟨some 83,.faddr (.t 1) 3,none⟩,⟨some 84,.load none (.t 83),none⟩,⟨some 85,.len 1 (.t 84),none⟩,⟨some 86,.bin .lss (.t 82) (.t 85),none⟩])
 (.cond (.t 86) .skip
 (.jump (.exit 4))))
 (.seq (.block 5 (.seq (.seq (.dreg [⟨⟨some 89,.faddr (.t 1) 3,none⟩,0,0⟩,⟨⟨some 90,.load none (.t 89),none⟩,0,0⟩,⟨⟨some 91,.mov (.t 10),none⟩,0,0⟩,⟨⟨some 92,.iaddr none 2 (.t 90) (.t 91),none⟩,0,0⟩,⟨⟨some 93,.faddr (.t 92) 0,none⟩,0,0⟩,⟨⟨some 94,.load none (.t 93),none⟩,0,0⟩,⟨⟨some 95,.faddr (.t 1) 2,none⟩,0,0⟩,⟨⟨some 96,.load none (.t 95),none⟩,0,0⟩,⟨⟨some 97,.len 1 (.t 96),none⟩,0,0⟩,⟨⟨some 98,.bin .sub (.t 97) (.c (.int .i64 1)),none⟩,0,0⟩,⟨⟨some 99,.call (.c (.func 62 [] [])) [(.t 94),(.c (.int .i64 0)),(.t 98)],none⟩,0,1⟩,⟨⟨some 100,.not (.t 99),none⟩,1,1⟩])
 (.cond (.t 100) (.seq (.reg [⟨some 101,.mov (.t 10),none⟩,⟨some 2,.mov (.c (.int .i64 4)),none⟩,⟨some 3,.mov (.t 101),none⟩,⟨some 4,.mov (.c (.int .i64 4)),none⟩])
 (.jump .ret))
 .skip))
 (.seq (.reg [⟨some 102,.faddr (.t 1) 3,none⟩,⟨some 103,.load none (.t 102),none⟩,⟨some 104,.mov (.t 10),none⟩,⟨some 105,.iaddr none 2 (.t 103) (.t 104),none⟩,⟨some 106,.faddr (.t 105) 1,none⟩,⟨some 107,.load none (.t 106),none⟩,⟨some 108,.call (.c (.func 62 [] [])) [(.t 107),(.c (.int .i64 (-1))),(.c (.int .i64 400))],none⟩,⟨some 109,.not (.t 108),none⟩])
 (.cond (.t 109) (.seq (.reg [⟨some 110,.mov (.t 10),none⟩,⟨some 2,.mov (.c (.int .i64 4)),none⟩,⟨some 3,.mov (.t 110),none⟩,⟨some 4,.mov (.c (.int .i64 7)),none⟩])
 (.jump .ret))
 .skip))))
 (.reg [⟨some 87,.mov (.t 10),none⟩,⟨some 88,.bin .add (.t 87) (.c (.int .i64 1)),none⟩,⟨some 10,.mov (.t 88),none⟩]))
def a18:AFunc:=⟨111,[.tmp 2,.tmp 3,.tmp 4],
 .seq (.reg [⟨some 1,.box 4 (.t 0),none⟩,⟨some 2,.mov (.c (.int .i64 0)),none⟩,⟨some 3,.mov (.c (.int .i64 0)),none⟩,⟨some 4,.mov (.c (.int .i64 0)),none⟩])
 (.seq (.seq (.reg [⟨some 11,.faddr (.t 1) 0,none⟩,⟨some 12,.load none (.t 11),none⟩,⟨some 13,.call (.c (.func 62 [] [])) [(.t 12),(.c (.int .i64 2)),(.c (.int .i64 5))],none⟩,⟨some 14,.not (.t 13),none⟩])
 (.cond (.t 14) (.seq (.reg [⟨some 2,.mov (.c (.int .i64 1)),none⟩,⟨some 3,.mov (.c (.int .i64 0)),none⟩,⟨some 4,.mov (.c (.int .i64 7)),none⟩])
 (.jump .ret))
 .skip))
 (.seq (.seq (.reg [⟨some 15,.faddr (.t 1) 1,none⟩,⟨some 16,.load none (.t 15),none⟩,⟨some 17,.len 1 (.t 16),none⟩,⟨some 18,.bin .gtr (.t 17) (.c (.int .i64 5)),none⟩])
 (.cond (.t 18) (.seq (.reg [⟨some 2,.mov (.c (.int .i64 2)),none⟩,⟨some 3,.mov (.c (.int .i64 0)),none⟩,⟨some 4,.mov (.c (.int .i64 3)),none⟩])
 (.jump .ret))
 .skip))
 (.seq (.seq (.reg [⟨some 5,.mov (.c (.int .i64 0)),none⟩])
 (.block 0 (.loop YL)))
 (.seq (.seq (.reg [⟨some 37,.faddr (.t 1) 2,none⟩,⟨some 38,.load none (.t 37),none⟩,⟨some 39,.len 1 (.t 38),none⟩,⟨some 40,.bin .gtr (.t 39) (.c (.int .i64 3)),none⟩])
 (.cond (.t 40) (.seq (.reg [⟨some 2,.mov (.c (.int .i64 3)),none⟩,⟨some 3,.mov (.c (.int .i64 0)),none⟩,⟨some 4,.mov (.c (.int .i64 3)),none⟩])
 (.jump .ret))
 .skip))
 (.seq (.reg [⟨some 7,.mov (.c (.lit [] true none)),none⟩])
 (.seq (.seq (.reg [⟨some 8,.mov (.c (.int .i64 0)),none⟩])
 (.block 2 (.loop Z1)))
 (.seq (.seq (.reg [⟨some 78,.faddr (.t 1) 3,none⟩,⟨some 79,.load none (.t 78),none⟩,⟨some 80,.len 1 (.t 79),none⟩,⟨some 81,.bin .gtr (.t 80) (.c (.int .i64 3)),none⟩])
 (.cond (.t 81) (.seq (.reg [⟨some 2,.mov (.c (.int .i64 4)),none⟩,⟨some 3,.mov (.c (.int .i64 0)),none⟩,⟨some 4,.mov (.c (.int .i64 3)),none⟩])
 (.jump .ret))
 .skip))
 (.seq (.seq (.reg [⟨some 10,.mov (.c (.int .i64 0)),none⟩])
 (.block 4 (.loop XT)))
 (.seq (.reg [⟨some 2,.mov (.c (.int .i64 0)),none⟩,⟨some 3,.mov (.c (.int .i64 0)),none⟩,⟨some 4,.mov (.c (.int .i64 0)),none⟩])
 (.jump .ret))))))))))⟩
def a19:AFunc:=⟨29,[.tmp 4,.tmp 5],
 .seq (.reg [⟨some 2,.box 4 (.t 0),none⟩,⟨some 4,.mov (.c (.lit [] true none)),none⟩,⟨some 5,.mov (.c (.int .i64 0)),none⟩])
 (.seq (.reg [⟨some 10,.load (some 4) (.t 2),none⟩,⟨some 11,.call (.c (.func 17 [] [])) [.t 10],none⟩,⟨some 9,.mov (.t 11),none⟩,⟨some 12,.ext (.t 9) 0,none⟩,⟨some 13,.ext (.t 9) 1,none⟩,⟨some 14,.ext (.t 9) 2,none⟩,⟨some 6,.mov (.t 12),none⟩,⟨some 7,.mov (.t 13),none⟩,⟨some 8,.mov (.t 14),none⟩])
 (.seq (.block 0 (.seq (.reg [⟨some 16,.mov (.t 8),none⟩,⟨some 17,.eql (.one .i) true (.t 16) (.c (.int .i64 0)),none⟩,⟨some 15,.mov (.t 17),none⟩])
 (.cond (.t 15) (.seq (.reg [⟨some 18,.mov (.t 8),none⟩,⟨some 4,.mov (.c (.lit [] true none)),none⟩,⟨some 5,.mov (.t 18),none⟩])
 (.jump .ret))
 (.seq (.reg [⟨some 20,.faddr (.t 2) 0,none⟩,⟨some 21,.load none (.t 20),none⟩,⟨some 22,.bin .sub (.t 21) (.c (.int .i64 1)),none⟩,⟨some 23,.mov (.t 1),none⟩,⟨some 24,.mklit 1 [.t 23],none⟩,⟨some 25,.call (.c (.func 63 [] [])) [(.c (.int .i64 0)),(.t 22),(.t 24)],none⟩,⟨some 19,.mov (.t 25),none⟩])
 (.cond (.t 19) (.seq (.reg [⟨some 4,.mov (.c (.lit [] true none)),none⟩,⟨some 5,.mov (.c (.int .i64 4)),none⟩])
 (.jump .ret))
 .skip)))))
 (.seq (.reg [⟨some 26,.load (some 4) (.t 2),none⟩,⟨some 27,.mov (.t 1),none⟩,⟨some 28,.call (.c (.func 77 [] [])) [(.t 26),(.t 27),(.c (.int .i64 (-1)))],none⟩,⟨some 4,.mov (.t 28),none⟩,⟨some 5,.mov (.c (.int .i64 0)),none⟩])
 (.jump .ret))))⟩
def a20:AFunc:=⟨29,[.tmp 4,.tmp 5],
 .seq (.reg [⟨some 2,.box 4 (.t 0),none⟩,⟨some 4,.mov (.c (.lit [] true none)),none⟩,⟨some 5,.mov (.c (.int .i64 0)),none⟩])
 (.seq (.reg [⟨some 10,.load (some 4) (.t 2),none⟩,⟨some 11,.call (.c (.func 18 [] [])) [.t 10],none⟩,⟨some 9,.mov (.t 11),none⟩,⟨some 12,.ext (.t 9) 0,none⟩,⟨some 13,.ext (.t 9) 1,none⟩,⟨some 14,.ext (.t 9) 2,none⟩,⟨some 6,.mov (.t 12),none⟩,⟨some 7,.mov (.t 13),none⟩,⟨some 8,.mov (.t 14),none⟩])
 (.seq (.seq (.reg [⟨some 15,.mov (.t 8),none⟩,⟨some 16,.eql (.one .i) false (.t 15) (.c (.int .i64 0)),none⟩,⟨some 17,.mov (.t 16),none⟩,⟨some 18,.load (some 4) (.t 2),(some (17,true))⟩,⟨some 19,.mov (.t 1),(some (17,true))⟩,⟨some 20,.call (.c (.func 78 [] [])) [.t 18,.t 19],(some (17,true))⟩,⟨some 21,.not (.t 20),(some (17,true))⟩,⟨some 22,.pick (.t 17) (.t 21) (.c (.bool false)),none⟩])
 (.cond (.t 22) (.reg [⟨some 8,.mov (.c (.int .i64 4)),none⟩])
 .skip))
 (.seq (.seq (.reg [⟨some 23,.mov (.t 8),none⟩,⟨some 24,.eql (.one .i) true (.t 23) (.c (.int .i64 0)),none⟩])
 (.cond (.t 24) (.seq (.reg [⟨some 25,.mov (.t 8),none⟩,⟨some 4,.mov (.c (.lit [] true none)),none⟩,⟨some 5,.mov (.t 25),none⟩])
 (.jump .ret))
 .skip))
 (.seq (.reg [⟨some 26,.load (some 4) (.t 2),none⟩,⟨some 27,.mov (.t 1),none⟩,⟨some 28,.call (.c (.func 51 [] [])) [(.t 26),(.t 27),(.c (.lit [] true none))],none⟩,⟨some 4,.mov (.t 28),none⟩,⟨some 5,.mov (.c (.int .i64 0)),none⟩])
 (.jump .ret)))))⟩
def ZP:ACode:=.seq (.seq (.reg [⟨some 12,.mov (.t 5),none⟩,⟨some 13,.mov (.t 12),none⟩,⟨some 14,.mov (.t 6),(some (13,true))⟩,⟨some 15,.mov (.t 0),(some (13,true))⟩,⟨some 16,.len 1 (.t 15),(some (13,true))⟩,⟨some 17,.bin .lss (.t 14) (.t 16),(some (13,true))⟩,⟨some 18,.pick (.t 13) (.t 17) (.c (.bool false)),none⟩])
 (.cond (.t 18) .skip
 (.jump (.exit 0))))
 (.seq (.block 1 (.dreg [⟨⟨some 21,.mov (.t 0),none⟩,0,0⟩,⟨⟨some 22,.mov (.t 6),none⟩,0,0⟩,⟨⟨some 23,.iaddr none 1 (.t 21) (.t 22),none⟩,0,0⟩,⟨⟨some 24,.load none (.t 23),none⟩,0,0⟩,⟨⟨some 25,.mov (.t 1),none⟩,0,0⟩,⟨⟨some 26,.mov (.t 6),none⟩,0,0⟩,⟨⟨some 27,.iaddr none 1 (.t 25) (.t 26),none⟩,0,0⟩,⟨⟨some 28,.load none (.t 27),none⟩,0,0⟩,⟨⟨some 29,.call (.c (.func 27 [] [])) [.t 24,.t 28],none⟩,0,1⟩,⟨⟨some 5,.mov (.t 29),none⟩,1,1⟩]))
 (.reg [⟨some 19,.mov (.t 6),none⟩,⟨some 20,.bin .add (.t 19) (.c (.int .i64 1)),none⟩,⟨some 6,.mov (.t 20),none⟩]))
def a21:AFunc:=⟨31,[.tmp 4],
 .seq (.reg [⟨some 4,.mov (.c (.bool false)),none⟩])
 (.seq (.reg [⟨some 7,.mov (.t 0),none⟩,⟨some 8,.len 1 (.t 7),none⟩,⟨some 9,.mov (.t 1),none⟩,⟨some 10,.len 1 (.t 9),none⟩,⟨some 11,.eql (.one .i) false (.t 8) (.t 10),none⟩,⟨some 5,.mov (.t 11),none⟩])
 (.seq (.seq (.reg [⟨some 6,.mov (.c (.int .i64 0)),none⟩])
 (.block 0 (.loop ZP)))
 (.seq (.reg [⟨some 30,.mov (.t 5),none⟩,⟨some 4,.mov (.t 30),none⟩])
 (.jump .ret))))⟩
def a22:AFunc:=⟨231,[.tmp 0],
 .seq (.reg [⟨some 0,.mov (.c (.bool false)),none⟩])
 (.seq (.reg [⟨some 36,.call (.c (.func 38 [] [])) [(.c (.bool false)),(.c (.lit [] true none))],none⟩,⟨some 37,.call (.c (.func 38 [] [])) [(.c (.bool true)),(.c (.lit [] true none))],none⟩,⟨some 1,.alloc [.int .i64 0,.lit [] true none,.lit [] true none,.lit [] true none],none⟩,⟨some 2,.alloc [.int .i64 0,.lit [] true none,.lit [] true none,.lit [] true none],none⟩,⟨none,.store 4 (.t 1) (.t 36),none⟩,⟨none,.store 4 (.t 2) (.t 37),none⟩])
 (.seq (.reg [⟨some 38,.call (.c (.func 39 [] [])) [(.c (.int .i64 0)),(.c (.int .i64 (-1)))],none⟩,⟨some 39,.call (.c (.func 39 [] [])) [(.c (.int .i64 1)),(.c (.int .i64 15))],none⟩,⟨some 40,.mklit 2 [.t 38,.t 39],none⟩,⟨some 41,.call (.c (.func 38 [] [])) [(.c (.bool true)),(.t 40)],none⟩,⟨some 42,.call (.c (.func 39 [] [])) [(.c (.int .i64 0)),(.c (.int .i64 (-1)))],none⟩,⟨some 43,.mklit 2 [.t 42],none⟩,⟨some 44,.call (.c (.func 38 [] [])) [(.c (.bool true)),(.t 43)],none⟩,⟨some 3,.alloc [.int .i64 0,.lit [] true none,.lit [] true none,.lit [] true none],none⟩,⟨some 4,.alloc [.int .i64 0,.lit [] true none,.lit [] true none,.lit [] true none],none⟩,⟨none,.store 4 (.t 3) (.t 41),none⟩,⟨none,.store 4 (.t 4) (.t 44),none⟩])
 (.seq (.reg [⟨some 46,.load (some 4) (.t 1),none⟩,⟨some 47,.call (.c (.func 19 [] [])) [(.t 46),(.c (.int .i64 3))],none⟩,⟨some 45,.mov (.t 47),none⟩,⟨some 48,.ext (.t 45) 0,none⟩,⟨some 49,.ext (.t 45) 1,none⟩,⟨some 5,.mov (.t 48),none⟩,⟨some 6,.mov (.t 49),none⟩])
 (.seq (.reg [⟨some 51,.load (some 4) (.t 1),none⟩,⟨some 52,.call (.c (.func 23 [] [])) [(.t 51),(.c (.int .i64 1))],none⟩,⟨some 50,.mov (.t 52),none⟩,⟨some 53,.ext (.t 50) 0,none⟩,⟨some 54,.ext (.t 50) 1,none⟩,⟨some 55,.ext (.t 50) 2,none⟩,⟨some 7,.alloc [.int .i64 0,.int .i64 0],none⟩,⟨none,.store 2 (.t 7) (.t 53),none⟩,⟨some 8,.mov (.t 54),none⟩,⟨some 9,.mov (.t 55),none⟩])
 (.seq (.reg [⟨some 57,.load (some 4) (.t 2),none⟩,⟨some 58,.call (.c (.func 23 [] [])) [(.t 57),(.c (.int .i64 1))],none⟩,⟨some 56,.mov (.t 58),none⟩,⟨some 59,.ext (.t 56) 0,none⟩,⟨some 60,.ext (.t 56) 1,none⟩,⟨some 61,.ext (.t 56) 2,none⟩,⟨some 10,.alloc [.int .i64 0,.int .i64 0],none⟩,⟨none,.store 2 (.t 10) (.t 59),none⟩,⟨some 11,.mov (.t 60),none⟩,⟨some 12,.mov (.t 61),none⟩])
 (.seq (.reg [⟨some 63,.load (some 4) (.t 4),none⟩,⟨some 64,.call (.c (.func 23 [] [])) [(.t 63),(.c (.int .i64 0))],none⟩,⟨some 62,.mov (.t 64),none⟩,⟨some 65,.ext (.t 62) 0,none⟩,⟨some 66,.ext (.t 62) 1,none⟩,⟨some 67,.ext (.t 62) 2,none⟩,⟨some 13,.alloc [.int .i64 0,.int .i64 0],none⟩,⟨none,.store 2 (.t 13) (.t 65),none⟩,⟨some 14,.mov (.t 66),none⟩,⟨some 15,.mov (.t 67),none⟩])
 (.seq (.reg [⟨some 69,.load (some 4) (.t 2),none⟩,⟨some 70,.call (.c (.func 25 [] [])) [.t 69],none⟩,⟨some 68,.mov (.t 70),none⟩,⟨some 71,.ext (.t 68) 0,none⟩,⟨some 72,.ext (.t 68) 1,none⟩,⟨some 73,.ext (.t 68) 2,none⟩,⟨some 16,.mov (.t 71),none⟩,⟨some 17,.mov (.t 72),none⟩,⟨some 18,.mov (.t 73),none⟩])
 (.seq (.reg [⟨some 75,.load (some 4) (.t 2),none⟩,⟨some 76,.call (.c (.func 28 [] [])) [.t 75],none⟩,⟨some 74,.mov (.t 76),none⟩,⟨some 77,.ext (.t 74) 0,none⟩,⟨some 78,.ext (.t 74) 1,none⟩,⟨some 19,.mov (.t 77),none⟩,⟨some 20,.mov (.t 78),none⟩])
 (.seq (.reg [⟨some 80,.load (some 4) (.t 1),none⟩,⟨some 81,.call (.c (.func 28 [] [])) [.t 80],none⟩,⟨some 79,.mov (.t 81),none⟩,⟨some 82,.ext (.t 79) 0,none⟩,⟨some 83,.ext (.t 79) 1,none⟩,⟨some 21,.mov (.t 82),none⟩,⟨some 22,.mov (.t 83),none⟩])
 (.seq (.reg [⟨some 85,.load (some 4) (.t 2),none⟩,⟨some 86,.call (.c (.func 30 [] [])) [.t 85],none⟩,⟨some 84,.mov (.t 86),none⟩,⟨some 87,.ext (.t 84) 0,none⟩,⟨some 88,.ext (.t 84) 1,none⟩,⟨some 89,.ext (.t 84) 2,none⟩,⟨some 23,.mov (.t 87),none⟩,⟨some 24,.mov (.t 88),none⟩,⟨some 25,.mov (.t 89),none⟩])
 (.seq (.reg [⟨some 91,.load (some 4) (.t 1),none⟩,⟨some 92,.call (.c (.func 32 [] [])) [.t 91],none⟩,⟨some 90,.mov (.t 92),none⟩,⟨some 93,.ext (.t 90) 0,none⟩,⟨some 94,.ext (.t 90) 1,none⟩,⟨some 95,.ext (.t 90) 2,none⟩,⟨some 26,.mov (.t 93),none⟩,⟨some 27,.mov (.t 94),none⟩,⟨some 28,.mov (.t 95),none⟩])
 (.seq (.reg [⟨some 97,.load (some 4) (.t 1),none⟩,⟨some 98,.call (.c (.func 34 [] [])) [.t 97],none⟩,⟨some 96,.mov (.t 98),none⟩,⟨some 99,.ext (.t 96) 0,none⟩,⟨some 100,.ext (.t 96) 1,none⟩,⟨some 101,.ext (.t 96) 2,none⟩,⟨some 29,.mov (.t 99),none⟩,⟨some 30,.mov (.t 100),none⟩,⟨some 31,.mov (.t 101),none⟩])
 (.seq (.reg [⟨some 103,.load (some 4) (.t 3),none⟩,⟨some 104,.call (.c (.func 36 [] [])) [.t 103],none⟩,⟨some 102,.mov (.t 104),none⟩,⟨some 105,.ext (.t 102) 0,none⟩,⟨some 106,.ext (.t 102) 1,none⟩,⟨some 32,.mov (.t 105),none⟩,⟨some 33,.mov (.t 106),none⟩])
 (.seq (.reg [⟨some 108,.load (some 4) (.t 3),none⟩,⟨some 109,.call (.c (.func 28 [] [])) [.t 108],none⟩,⟨some 107,.mov (.t 109),none⟩,⟨some 110,.ext (.t 107) 0,none⟩,⟨some 111,.ext (.t 107) 1,none⟩,⟨some 34,.mov (.t 110),none⟩,⟨some 35,.mov (.t 111),none⟩])
 (.seq (.dreg [⟨⟨some 112,.mov (.t 6),none⟩,0,0⟩,⟨⟨some 113,.eql (.one .i) false (.t 112) (.c (.int .i64 0)),none⟩,0,0⟩,⟨⟨some 114,.mov (.t 113),none⟩,0,0⟩,⟨⟨some 115,.mov (.t 9),(some (114,true))⟩,0,0⟩,⟨⟨some 116,.eql (.one .i) false (.t 115) (.c (.int .i64 0)),(some (114,true))⟩,0,0⟩,⟨⟨some 117,.pick (.t 114) (.t 116) (.c (.bool false)),none⟩,0,0⟩,⟨⟨some 118,.mov (.t 117),none⟩,0,0⟩,⟨⟨some 119,.mov (.t 12),(some (118,true))⟩,0,0⟩,⟨⟨some 120,.eql (.one .i) false (.t 119) (.c (.int .i64 0)),(some (118,true))⟩,0,0⟩,⟨⟨some 121,.pick (.t 118) (.t 120) (.c (.bool false)),none⟩,0,0⟩,⟨⟨some 122,.mov (.t 121),none⟩,0,0⟩,⟨⟨some 123,.mov (.t 15),(some (122,true))⟩,0,0⟩,⟨⟨some 124,.eql (.one .i) false (.t 123) (.c (.int .i64 0)),(some (122,true))⟩,0,0⟩,⟨⟨some 125,.pick (.t 122) (.t 124) (.c (.bool false)),none⟩,0,0⟩,⟨⟨some 126,.mov (.t 125),none⟩,0,0⟩,⟨⟨some 127,.mov (.t 18),(some (126,true))⟩,0,0⟩,⟨⟨some 128,.eql (.one .i) false (.t 127) (.c (.int .i64 0)),(some (126,true))⟩,0,0⟩,⟨⟨some 129,.pick (.t 126) (.t 128) (.c (.bool false)),none⟩,0,0⟩,⟨⟨some 130,.mov (.t 129),none⟩,0,0⟩,⟨⟨some 131,.mov (.t 20),(some (130,true))⟩,0,0⟩,⟨⟨some 132,.eql (.one .i) false (.t 131) (.c (.int .i64 0)),(some (130,true))⟩,0,0⟩,⟨⟨some 133,.pick (.t 130) (.t 132) (.c (.bool false)),none⟩,0,0⟩,⟨⟨some 134,.mov (.t 133),none⟩,0,0⟩,⟨⟨some 135,.mov (.t 22),(some (134,true))⟩,0,0⟩,⟨⟨some 136,.eql (.one .i) false (.t 135) (.c (.int .i64 9)),(some (134,true))⟩,0,0⟩,⟨⟨some 137,.pick (.t 134) (.t 136) (.c (.bool false)),none⟩,0,0⟩,⟨⟨some 138,.mov (.t 137),none⟩,0,0⟩,⟨⟨some 139,.mov (.t 25),(some (138,true))⟩,0,0⟩,⟨⟨some 140,.eql (.one .i) false (.t 139) (.c (.int .i64 0)),(some (138,true))⟩,0,0⟩,⟨⟨some 141,.pick (.t 138) (.t 140) (.c (.bool false)),none⟩,0,0⟩,⟨⟨some 142,.mov (.t 141),none⟩,0,0⟩,⟨⟨some 143,.mov (.t 28),(some (142,true))⟩,0,0⟩,⟨⟨some 144,.eql (.one .i) false (.t 143) (.c (.int .i64 0)),(some (142,true))⟩,0,0⟩,⟨⟨some 145,.pick (.t 142) (.t 144) (.c (.bool false)),none⟩,0,0⟩,⟨⟨some 146,.mov (.t 145),none⟩,0,0⟩,⟨⟨some 147,.mov (.t 31),(some (146,true))⟩,0,0⟩,⟨⟨some 148,.eql (.one .i) false (.t 147) (.c (.int .i64 0)),(some (146,true))⟩,0,0⟩,⟨⟨some 149,.pick (.t 146) (.t 148) (.c (.bool false)),none⟩,0,0⟩,⟨⟨some 150,.mov (.t 149),none⟩,0,0⟩,⟨⟨some 151,.mov (.t 33),(some (150,true))⟩,0,0⟩,⟨⟨some 152,.eql (.one .i) false (.t 151) (.c (.int .i64 0)),(some (150,true))⟩,0,0⟩,⟨⟨some 153,.pick (.t 150) (.t 152) (.c (.bool false)),none⟩,0,0⟩,⟨⟨some 154,.mov (.t 153),none⟩,0,0⟩,⟨⟨some 155,.mov (.t 35),(some (154,true))⟩,0,0⟩,⟨⟨some 156,.eql (.one .i) false (.t 155) (.c (.int .i64 8)),(some (154,true))⟩,0,0⟩,⟨⟨some 157,.pick (.t 154) (.t 156) (.c (.bool false)),none⟩,0,0⟩,⟨⟨some 158,.mov (.t 157),none⟩,0,0⟩,⟨⟨some 159,.mov (.t 5),(some (158,true))⟩,0,0⟩,⟨⟨some 160,.mklit 1 [(.c (.int .i64 3)),(.c (.int .i64 2))],(some (158,true))⟩,0,0⟩,⟨⟨some 161,.mklit 1 [(.c (.int .i64 3)),(.c (.int .i64 1)),(.c (.int .i64 0))],(some (158,true))⟩,0,0⟩,⟨⟨some 162,.mklit 1 [.t 160,.t 161],(some (158,true))⟩,0,0⟩,⟨⟨some 163,.call (.c (.func 21 [] [])) [.t 159,.t 162],(some (158,true))⟩,0,1⟩,⟨⟨some 164,.pick (.t 158) (.t 163) (.c (.bool false)),none⟩,1,1⟩,⟨⟨some 165,.mov (.t 164),none⟩,1,1⟩,⟨⟨some 166,.load (some 2) (.t 7),(some (165,true))⟩,1,2⟩,⟨⟨some 167,.call (.c (.func 40 [] [])) [(.c (.int .i64 14)),(.c (.int .i64 16))],(some (165,true))⟩,1,2⟩,⟨⟨some 168,.eql (.agg [.i,.i]) false (.t 166) (.t 167),(some (165,true))⟩,2,2⟩,⟨⟨some 169,.pick (.t 165) (.t 168) (.c (.bool false)),none⟩,2,2⟩,⟨⟨some 170,.mov (.t 169),none⟩,2,2⟩,⟨⟨some 171,.mov (.t 8),(some (170,true))⟩,2,2⟩,⟨⟨some 172,.eql (.one .i) false (.t 171) (.c (.int .i64 1)),(some (170,true))⟩,2,2⟩,⟨⟨some 173,.pick (.t 170) (.t 172) (.c (.bool false)),none⟩,2,2⟩,⟨⟨some 174,.mov (.t 173),none⟩,2,2⟩,⟨⟨some 175,.mov (.t 11),(some (174,true))⟩,2,2⟩,⟨⟨some 176,.eql (.one .i) false (.t 175) (.c (.int .i64 0)),(some (174,true))⟩,2,2⟩,⟨⟨some 177,.pick (.t 174) (.t 176) (.c (.bool false)),none⟩,2,2⟩,⟨⟨some 178,.mov (.t 177),none⟩,2,2⟩,⟨⟨some 179,.mov (.t 14),(some (178,true))⟩,2,2⟩,⟨⟨some 180,.eql (.one .i) false (.t 179) (.c (.int .i64 2)),(some (178,true))⟩,2,2⟩,⟨⟨some 181,.pick (.t 178) (.t 180) (.c (.bool false)),none⟩,2,2⟩,⟨⟨some 182,.mov (.t 181),none⟩,2,2⟩,⟨⟨some 183,.mov (.t 16),(some (182,true))⟩,2,2⟩,⟨⟨some 184,.len 1 (.t 183),(some (182,true))⟩,2,2⟩,⟨⟨some 185,.eql (.one .i) false (.t 184) (.c (.int .i64 0)),(some (182,true))⟩,2,2⟩,⟨⟨some 186,.pick (.t 182) (.t 185) (.c (.bool false)),none⟩,2,2⟩,⟨⟨some 187,.mov (.t 186),none⟩,2,2⟩,⟨⟨some 188,.mov (.t 17),(some (187,true))⟩,2,2⟩,⟨⟨some 189,.mklit 1 [(.c (.int .i64 0)),(.c (.int .i64 1))],(some (187,true))⟩,2,2⟩,⟨⟨some 190,.call (.c (.func 27 [] [])) [.t 188,.t 189],(some (187,true))⟩,2,3⟩,⟨⟨some 191,.pick (.t 187) (.t 190) (.c (.bool false)),none⟩,3,3⟩,⟨⟨some 192,.mov (.t 191),none⟩,3,3⟩,⟨⟨some 193,.mov (.t 19),(some (192,true))⟩,3,3⟩,⟨⟨some 194,.eql (.one .i) false (.t 193) (.c (.int .i64 0)),(some (192,true))⟩,3,3⟩,⟨⟨some 195,.pick (.t 192) (.t 194) (.c (.bool false)),none⟩,3,3⟩,⟨⟨some 196,.mov (.t 195),none⟩,3,3⟩,⟨⟨some 197,.mov (.t 23),(some (196,true))⟩,3,3⟩,⟨⟨some 198,.mklit 1 [(.c (.int .i64 2))],(some (196,true))⟩,3,3⟩,⟨⟨some 199,.mklit 1 [(.c (.int .i64 3)),(.c (.int .i64 2))],(some (196,true))⟩,3,3⟩,⟨⟨some 200,.mklit 1 [.t 198,.t 199],(some (196,true))⟩,3,3⟩,⟨⟨some 201,.call (.c (.func 21 [] [])) [.t 197,.t 200],(some (196,true))⟩,3,4⟩,⟨⟨some 202,.pick (.t 196) (.t 201) (.c (.bool false)),none⟩,4,4⟩,⟨⟨some 203,.mov (.t 202),none⟩,4,4⟩,⟨⟨some 204,.mov (.t 24),(some (203,true))⟩,4,4⟩,⟨⟨some 205,.mklit 1 [(.c (.int .i64 0)),(.c (.int .i64 1))],(some (203,true))⟩,4,4⟩,⟨⟨some 206,.call (.c (.func 27 [] [])) [.t 204,.t 205],(some (203,true))⟩,4,5⟩,⟨⟨some 207,.pick (.t 203) (.t 206) (.c (.bool false)),none⟩,5,5⟩,⟨⟨some 208,.mov (.t 207),none⟩,5,5⟩,⟨⟨some 209,.mov (.t 26),(some (208,true))⟩,5,5⟩,⟨⟨some 210,.len 1 (.t 209),(some (208,true))⟩,5,5⟩,⟨⟨some 211,.eql (.one .i) false (.t 210) (.c (.int .i64 0)),(some (208,true))⟩,5,5⟩,⟨⟨some 212,.pick (.t 208) (.t 211) (.c (.bool false)),none⟩,5,5⟩,⟨⟨some 213,.mov (.t 212),none⟩,5,5⟩,⟨⟨some 214,.mov (.t 27),(some (213,true))⟩,5,5⟩,⟨⟨some 215,.mklit 1 [(.c (.int .i64 2))],(some (213,true))⟩,5,5⟩,⟨⟨some 216,.call (.c (.func 27 [] [])) [.t 214,.t 215],(some (213,true))⟩,5,6⟩,⟨⟨some 217,.pick (.t 213) (.t 216) (.c (.bool false)),none⟩,6,6⟩,⟨⟨some 218,.mov (.t 217),none⟩,6,6⟩,⟨⟨some 219,.mov (.t 29),(some (218,true))⟩,6,6⟩,⟨⟨some 220,.eql (.one .i) false (.t 219) (.c (.int .i64 3)),(some (218,true))⟩,6,6⟩,⟨⟨some 221,.pick (.t 218) (.t 220) (.c (.bool false)),none⟩,6,6⟩,⟨⟨some 222,.mov (.t 221),none⟩,6,6⟩,⟨⟨some 223,.mov (.t 30),(some (222,true))⟩,6,6⟩,⟨⟨some 224,.eql (.one .i) false (.t 223) (.c (.int .i64 1)),(some (222,true))⟩,6,6⟩,⟨⟨some 225,.pick (.t 222) (.t 224) (.c (.bool false)),none⟩,6,6⟩,⟨⟨some 226,.mov (.t 225),none⟩,6,6⟩,⟨⟨some 227,.mov (.t 32),(some (226,true))⟩,6,6⟩,⟨⟨some 228,.mklit 1 [(.c (.int .i64 1))],(some (226,true))⟩,6,6⟩,⟨⟨some 229,.call (.c (.func 27 [] [])) [.t 227,.t 228],(some (226,true))⟩,6,7⟩,⟨⟨some 230,.pick (.t 226) (.t 229) (.c (.bool false)),none⟩,7,7⟩,⟨⟨some 0,.mov (.t 230),none⟩,7,7⟩])
 (.jump .ret))))))))))))))))⟩
def L6:ACode:=.block 1 (.seq (.reg [⟨some 31,.load none (.t 3),none⟩,⟨some 32,.iaddr (some 3) 1 (.t 11) (.t 31),none⟩,⟨some 33,.load none (.t 32),none⟩,⟨some 12,.mov (.t 33),none⟩])
 (.block 2 (.seq (.reg [⟨some 44,.mov (.t 12),none⟩,⟨some 45,.eql (.one .i) false (.t 44) (.c (.int .i64 (-1))),none⟩,⟨some 43,.mov (.t 45),none⟩])
 (.cond (.t 43) (.reg [⟨none,.store 1 (.t 9) (.c (.bool true)),none⟩])
 (.seq (.reg [⟨some 47,.load none (.t 8),none⟩,⟨some 48,.not (.t 47),none⟩,⟨some 46,.mov (.t 48),none⟩])
 (.cond (.t 46) (.reg [⟨some 49,.mov (.t 12),none⟩,⟨some 50,.mov (.t 12),none⟩,⟨some 51,.build [.int .i64 0,.int .i64 0] [(0,1,(.t 49)),(1,1,(.t 50))],none⟩,⟨none,.store 2 (.t 4) (.t 51),none⟩,⟨none,.store 1 (.t 8) (.c (.bool true)),none⟩])
 (.reg [⟨some 34,.faddr (.t 4) 0,none⟩,⟨some 35,.load none (.t 34),none⟩,⟨some 36,.mov (.t 12),none⟩,⟨some 37,.min [.t 35,.t 36],none⟩,⟨some 38,.faddr (.t 4) 1,none⟩,⟨some 39,.load none (.t 38),none⟩,⟨some 40,.mov (.t 12),none⟩,⟨some 41,.max [.t 39,.t 40],none⟩,⟨some 42,.build [.int .i64 0,.int .i64 0] [(0,1,(.t 37)),(1,1,(.t 41))],none⟩,⟨none,.store 2 (.t 4) (.t 42),none⟩])))))))
def a23:AFunc:=⟨61,[.cell 4 (some 2),.tmp 5,.tmp 6],
 .seq (.reg [⟨some 2,.box 4 (.t 0),none⟩,⟨some 3,.box 1 (.t 1),none⟩,⟨some 4,.alloc [.int .i64 0,.int .i64 0],none⟩,⟨some 5,.mov (.c (.int .i64 0)),none⟩,⟨some 6,.mov (.c (.int .i64 0)),none⟩])
 (.seq (.reg [⟨some 14,.load (some 4) (.t 2),none⟩,⟨some 15,.load none (.t 3),none⟩,⟨some 16,.faddr (.t 2) 2,none⟩,⟨some 17,.load none (.t 16),none⟩,⟨some 18,.len 1 (.t 17),none⟩,⟨some 19,.mklit 1 [.t 15,.t 18],none⟩,⟨some 20,.call (.c (.func 79 [] [])) [.t 14,.t 19],none⟩,⟨some 13,.mov (.t 20),none⟩,⟨some 21,.ext (.t 13) 0,none⟩,⟨some 22,.ext (.t 13) 1,none⟩,⟨some 7,.mov (.t 21),none⟩,⟨some 6,.mov (.t 22),none⟩])
 (.seq (.seq (.reg [⟨some 23,.mov (.t 6),none⟩,⟨some 24,.eql (.one .i) true (.t 23) (.c (.int .i64 0)),none⟩])
 (.cond (.t 24) (.seq (.reg [⟨some 25,.load (some 2) (.t 4),none⟩,⟨some 26,.mov (.t 6),none⟩,⟨none,.store 2 (.t 4) (.t 25),none⟩,⟨some 5,.mov (.c (.int .i64 0)),none⟩,⟨some 6,.mov (.t 26),none⟩])
 (.jump .ret))
 .skip))
 (.seq (.reg [⟨some 8,.alloc [.bool false],none⟩,⟨some 9,.alloc [.bool false],none⟩,⟨none,.store 1 (.t 8) (.c (.bool false)),none⟩,⟨none,.store 1 (.t 9) (.c (.bool false)),none⟩])
 (.seq (.seq (.reg [⟨some 27,.mov (.t 7),none⟩,⟨some 28,.call (.c (.func 80 [] [])) [.t 27],none⟩])
 (.block 0 (.rangeFunc (.t 28) [29,30] (.reg [⟨some 11,.alloc [.int .i64 0,.int .i64 0,.int .i64 0],none⟩,⟨none,.store 3 (.t 11) (.t 30),none⟩])
 (L6))))
 (.seq (.block 3 (.seq (.reg [⟨some 53,.load none (.t 9),none⟩,⟨some 54,.not (.t 53),none⟩,⟨some 52,.mov (.t 54),none⟩])
 (.cond (.t 52) (.seq (.reg [⟨some 55,.load (some 2) (.t 4),none⟩,⟨none,.store 2 (.t 4) (.t 55),none⟩,⟨some 5,.mov (.c (.int .i64 1)),none⟩,⟨some 6,.mov (.c (.int .i64 0)),none⟩])
 (.jump .ret))
 (.seq (.reg [⟨some 57,.load none (.t 8),none⟩,⟨some 58,.not (.t 57),none⟩,⟨some 56,.mov (.t 58),none⟩])
 (.cond (.t 56) (.seq (.reg [⟨some 59,.load (some 2) (.t 4),none⟩,⟨none,.store 2 (.t 4) (.t 59),none⟩,⟨some 5,.mov (.c (.int .i64 2)),none⟩,⟨some 6,.mov (.c (.int .i64 0)),none⟩])
 (.jump .ret))
 .skip)))))
 (.seq (.reg [⟨some 60,.load (some 2) (.t 4),none⟩,⟨none,.store 2 (.t 4) (.t 60),none⟩,⟨some 5,.mov (.c (.int .i64 0)),none⟩,⟨some 6,.mov (.c (.int .i64 0)),none⟩])
 (.jump .ret)))))))⟩
def YM:ACode:=.seq (.seq (.reg [⟨some 44,.mov (.t 13),none⟩,⟨some 45,.mov (.t 10),none⟩,⟨some 46,.len 1 (.t 45),none⟩,⟨some 47,.bin .lss (.t 44) (.t 46),none⟩])
 (.cond (.t 47) .skip
 (.jump (.exit 0))))
 (.seq (.block 1 (.seq (.dreg [⟨⟨some 51,.load (some 4) (.t 2),none⟩,0,1⟩,⟨⟨some 52,.mov (.t 10),none⟩,0,1⟩,⟨⟨some 53,.mov (.t 13),none⟩,0,1⟩,⟨⟨some 54,.iaddr none 2 (.t 52) (.t 53),none⟩,0,1⟩,⟨⟨some 55,.load (some 2) (.t 54),none⟩,0,1⟩,⟨⟨some 56,.load (some 4) (.t 2),none⟩,0,0⟩,⟨⟨some 57,.call (.c (.func 50 [] [])) [.t 56],none⟩,0,1⟩,⟨⟨some 58,.call (.c (.func 49 [] [])) [.t 51,.t 55,.t 57],none⟩,1,2⟩,⟨⟨some 50,.mov (.t 58),none⟩,2,2⟩,⟨⟨some 59,.ext (.t 50) 0,none⟩,2,2⟩,⟨⟨some 60,.ext (.t 50) 1,none⟩,2,2⟩,⟨⟨some 14,.mov (.t 59),none⟩,2,2⟩,⟨⟨some 15,.mov (.t 60),none⟩,2,2⟩])
 (.seq (.reg [⟨some 61,.mov (.t 15),none⟩,⟨some 62,.mov (.t 1),none⟩,⟨some 63,.iaddr none 1 (.t 61) (.t 62),none⟩,⟨some 64,.load none (.t 63),none⟩,⟨some 16,.mov (.t 64),none⟩])
 (.seq (.seq (.reg [⟨some 65,.mov (.t 16),none⟩,⟨some 66,.eql (.one .i) false (.t 65) (.c (.int .i64 (-1))),none⟩])
 (.cond (.t 66) (.jump (.exit 1))
 .skip))
 (.seq (.seq (.reg [⟨some 67,.mov (.t 12),none⟩,⟨some 68,.eql (.one .i) false (.t 67) (.c (.int .i64 0)),none⟩])
 (.cond (.t 68) (.reg [⟨some 69,.mov (.t 16),none⟩,⟨some 70,.mov (.t 16),none⟩,⟨some 71,.build [.int .i64 0,.int .i64 0] [(0,1,(.t 69)),(1,1,(.t 70))],none⟩,⟨none,.store 2 (.t 11) (.t 71),none⟩])
 .skip))
 (.seq (.reg [⟨some 72,.load (some 2) (.t 11),none⟩,⟨some 73,.mov (.t 16),none⟩,⟨some 74,.call (.c (.func 82 [] [])) [.t 72,.t 73],none⟩,⟨none,.store 2 (.t 11) (.t 74),none⟩])
 (.reg [⟨some 75,.mov (.t 12),none⟩,⟨some 76,.bin .add (.t 75) (.c (.int .i64 1)),none⟩,⟨some 12,.mov (.t 76),none⟩])))))))
 (.reg [⟨some 48,.mov (.t 13),none⟩,⟨some 49,.bin .add (.t 48) (.c (.int .i64 1)),none⟩,⟨some 13,.mov (.t 49),none⟩]))
def a24:AFunc:=⟨82,[.cell 4 (some 2),.tmp 5,.tmp 6],
 .seq (.reg [⟨some 2,.box 4 (.t 0),none⟩,⟨some 4,.alloc [.int .i64 0,.int .i64 0],none⟩,⟨some 5,.mov (.c (.int .i64 0)),none⟩,⟨some 6,.mov (.c (.int .i64 0)),none⟩])
 (.seq (.reg [⟨some 18,.load (some 4) (.t 2),none⟩,⟨some 19,.call (.c (.func 18 [] [])) [.t 18],none⟩,⟨some 17,.mov (.t 19),none⟩,⟨some 20,.ext (.t 17) 0,none⟩,⟨some 21,.ext (.t 17) 1,none⟩,⟨some 22,.ext (.t 17) 2,none⟩,⟨some 7,.mov (.t 20),none⟩,⟨some 8,.mov (.t 21),none⟩,⟨some 9,.mov (.t 22),none⟩])
 (.seq (.seq (.reg [⟨some 23,.mov (.t 9),none⟩,⟨some 24,.eql (.one .i) false (.t 23) (.c (.int .i64 0)),none⟩,⟨some 25,.mov (.t 24),none⟩,⟨some 26,.mov (.t 1),(some (25,true))⟩,⟨some 27,.faddr (.t 2) 2,(some (25,true))⟩,⟨some 28,.load none (.t 27),(some (25,true))⟩,⟨some 29,.len 1 (.t 28),(some (25,true))⟩,⟨some 30,.bin .sub (.t 29) (.c (.int .i64 1)),(some (25,true))⟩,⟨some 31,.call (.c (.func 62 [] [])) [(.t 26),(.c (.int .i64 0)),(.t 30)],(some (25,true))⟩,⟨some 32,.not (.t 31),(some (25,true))⟩,⟨some 33,.pick (.t 25) (.t 32) (.c (.bool false)),none⟩])
 (.cond (.t 33) (.reg [⟨some 9,.mov (.c (.int .i64 4)),none⟩])
 .skip))
 (.seq (.reg [⟨some 35,.load (some 4) (.t 2),none⟩,⟨some 36,.mov (.t 9),none⟩,⟨some 37,.call (.c (.func 81 [] [])) [.t 35,.t 36],none⟩,⟨some 34,.mov (.t 37),none⟩,⟨some 38,.ext (.t 34) 0,none⟩,⟨some 39,.ext (.t 34) 1,none⟩,⟨some 10,.mov (.t 38),none⟩,⟨some 9,.mov (.t 39),none⟩])
 (.seq (.seq (.reg [⟨some 40,.mov (.t 9),none⟩,⟨some 41,.eql (.one .i) true (.t 40) (.c (.int .i64 0)),none⟩])
 (.cond (.t 41) (.seq (.reg [⟨some 42,.build [.int .i64 0,.int .i64 0] [],none⟩,⟨some 43,.mov (.t 9),none⟩,⟨none,.store 2 (.t 4) (.t 42),none⟩,⟨some 5,.mov (.c (.int .i64 0)),none⟩,⟨some 6,.mov (.t 43),none⟩])
 (.jump .ret))
 .skip))
 (.seq (.reg [⟨some 11,.alloc [.int .i64 0,.int .i64 0],none⟩])
 (.seq (.reg [⟨some 12,.mov (.c (.int .i64 0)),none⟩])
 (.seq (.seq (.reg [⟨some 13,.mov (.c (.int .i64 0)),none⟩])
 (.block 0 (.loop YM)))
 (.seq (.dreg [⟨⟨some 77,.load (some 2) (.t 11),none⟩,0,1⟩,⟨⟨some 78,.mov (.t 12),none⟩,0,0⟩,⟨⟨some 79,.mov (.t 10),none⟩,0,0⟩,⟨⟨some 80,.len 1 (.t 79),none⟩,0,0⟩,⟨⟨some 81,.call (.c (.func 83 [] [])) [.t 78,.t 80],none⟩,0,1⟩,⟨⟨none,.store 2 (.t 4) (.t 77),none⟩,1,2⟩,⟨⟨some 5,.mov (.t 81),none⟩,2,2⟩,⟨⟨some 6,.mov (.c (.int .i64 0)),none⟩,2,2⟩])
 (.jump .ret)))))))))⟩
def a25:AFunc:=⟨31,[.tmp 2,.tmp 3,.tmp 4],
 .seq (.reg [⟨some 1,.box 4 (.t 0),none⟩,⟨some 2,.mov (.c (.lit [] true none)),none⟩,⟨some 3,.mov (.c (.lit [] true none)),none⟩,⟨some 4,.mov (.c (.int .i64 0)),none⟩])
 (.seq (.reg [⟨some 9,.load (some 4) (.t 1),none⟩,⟨some 10,.call (.c (.func 79 [] [])) [(.t 9),(.c (.lit [] true none))],none⟩,⟨some 8,.mov (.t 10),none⟩,⟨some 11,.ext (.t 8) 0,none⟩,⟨some 12,.ext (.t 8) 1,none⟩,⟨some 5,.mov (.t 11),none⟩,⟨some 4,.mov (.t 12),none⟩])
 (.seq (.seq (.reg [⟨some 13,.mov (.t 4),none⟩,⟨some 14,.eql (.one .i) true (.t 13) (.c (.int .i64 0)),none⟩])
 (.cond (.t 14) (.seq (.reg [⟨some 15,.mov (.t 4),none⟩,⟨some 2,.mov (.c (.lit [] true none)),none⟩,⟨some 3,.mov (.c (.lit [] true none)),none⟩,⟨some 4,.mov (.t 15),none⟩])
 (.jump .ret))
 .skip))
 (.seq (.reg [⟨some 17,.mov (.t 5),none⟩,⟨some 18,.call (.c (.func 84 [] [])) [.t 17],none⟩,⟨some 16,.mov (.t 18),none⟩,⟨some 19,.ext (.t 16) 0,none⟩,⟨some 20,.ext (.t 16) 1,none⟩,⟨some 6,.mov (.t 19),none⟩,⟨some 7,.mov (.t 20),none⟩])
 (.seq (.dreg [⟨⟨some 21,.mov (.t 6),none⟩,0,0⟩,⟨⟨some 22,.faddr (.t 1) 2,none⟩,0,0⟩,⟨⟨some 23,.load none (.t 22),none⟩,0,0⟩,⟨⟨some 24,.len 1 (.t 23),none⟩,0,0⟩,⟨⟨some 25,.call (.c (.func 85 [] [])) [.t 21,.t 24],none⟩,0,1⟩,⟨⟨some 26,.mov (.t 7),none⟩,0,1⟩,⟨⟨some 27,.faddr (.t 1) 2,none⟩,0,1⟩,⟨⟨some 28,.load none (.t 27),none⟩,0,1⟩,⟨⟨some 29,.len 1 (.t 28),none⟩,0,1⟩,⟨⟨some 30,.call (.c (.func 85 [] [])) [.t 26,.t 29],none⟩,1,2⟩,⟨⟨some 2,.mov (.t 25),none⟩,2,2⟩,⟨⟨some 3,.mov (.t 30),none⟩,2,2⟩,⟨⟨some 4,.mov (.c (.int .i64 0)),none⟩,2,2⟩])
 (.jump .ret)))))⟩
def Z2:ACode:=.seq (.seq (.reg [⟨some 53,.mov (.t 13),none⟩,⟨some 54,.mov (.t 12),none⟩,⟨some 55,.len 1 (.t 54),none⟩,⟨some 56,.bin .lss (.t 53) (.t 55),none⟩])
 (.cond (.t 56) .skip
 (.jump (.exit 2))))
 (.seq (.block 3 (.seq (.dreg [⟨⟨some 59,.faddr (.t 1) 2,none⟩,0,0⟩,⟨⟨some 60,.load none (.t 59),none⟩,0,0⟩,⟨⟨some 61,.mov (.t 13),none⟩,0,0⟩,⟨⟨some 62,.iaddr none 5 (.t 60) (.t 61),none⟩,0,0⟩,⟨⟨some 63,.load (some 5) (.t 62),none⟩,0,0⟩,⟨⟨some 64,.mov (.t 12),none⟩,0,0⟩,⟨⟨some 65,.mov (.t 13),none⟩,0,0⟩,⟨⟨some 66,.iaddr none 1 (.t 64) (.t 65),none⟩,0,0⟩,⟨⟨some 67,.load none (.t 66),none⟩,0,0⟩,⟨⟨some 68,.call (.c (.func 44 [] [])) [.t 63,.t 67],none⟩,0,1⟩,⟨⟨some 69,.not (.t 68),none⟩,1,1⟩])
 (.cond (.t 69) (.reg [⟨some 70,.mov (.t 9),none⟩,⟨some 71,.mov (.t 13),none⟩,⟨some 72,.iaddr none 1 (.t 70) (.t 71),none⟩,⟨some 73,.load none (.t 72),none⟩,⟨some 74,.bin .add (.t 73) (.c (.int .i64 1)),none⟩,⟨some 75,.iaddr none 1 (.t 70) (.t 71),none⟩,⟨none,.store 1 (.t 75) (.t 74),none⟩])
 .skip)))
 (.reg [⟨some 57,.mov (.t 13),none⟩,⟨some 58,.bin .add (.t 57) (.c (.int .i64 1)),none⟩,⟨some 13,.mov (.t 58),none⟩]))
def Z3:ACode:=.seq (.seq (.reg [⟨some 36,.mov (.t 10),none⟩,⟨some 37,.mov (.t 8),none⟩,⟨some 38,.len 1 (.t 37),none⟩,⟨some 39,.bin .lss (.t 36) (.t 38),none⟩])
 (.cond (.t 39) .skip
 (.jump (.exit 0))))
 (.seq (.block 1 (.seq (.dreg [⟨⟨some 43,.load (some 4) (.t 1),none⟩,0,1⟩,⟨⟨some 44,.mov (.t 8),none⟩,0,1⟩,⟨⟨some 45,.mov (.t 10),none⟩,0,1⟩,⟨⟨some 46,.iaddr none 2 (.t 44) (.t 45),none⟩,0,1⟩,⟨⟨some 47,.load (some 2) (.t 46),none⟩,0,1⟩,⟨⟨some 48,.load (some 4) (.t 1),none⟩,0,0⟩,⟨⟨some 49,.call (.c (.func 50 [] [])) [.t 48],none⟩,0,1⟩,⟨⟨some 50,.call (.c (.func 49 [] [])) [.t 43,.t 47,.t 49],none⟩,1,2⟩,⟨⟨some 42,.mov (.t 50),none⟩,2,2⟩,⟨⟨some 51,.ext (.t 42) 0,none⟩,2,2⟩,⟨⟨some 52,.ext (.t 42) 1,none⟩,2,2⟩,⟨⟨some 11,.mov (.t 51),none⟩,2,2⟩,⟨⟨some 12,.mov (.t 52),none⟩,2,2⟩])
 (.seq (.reg [⟨some 13,.mov (.c (.int .i64 0)),none⟩])
 (.block 2 (.loop Z2)))))
 (.reg [⟨some 40,.mov (.t 10),none⟩,⟨some 41,.bin .add (.t 40) (.c (.int .i64 1)),none⟩,⟨some 10,.mov (.t 41),none⟩]))
def X2:ACode:=.seq (.seq (.reg [⟨some 76,.mov (.t 16),none⟩,⟨some 77,.mov (.t 9),none⟩,⟨some 78,.len 1 (.t 77),none⟩,⟨some 79,.bin .lss (.t 76) (.t 78),none⟩])
 (.cond (.t 79) .skip
 (.jump (.exit 4))))
 (.seq (.block 5 (.seq (.seq (.reg [⟨some 82,.mov (.t 9),none⟩,⟨some 83,.mov (.t 16),none⟩,⟨some 84,.iaddr none 1 (.t 82) (.t 83),none⟩,⟨some 85,.load none (.t 84),none⟩,⟨some 86,.mov (.t 8),none⟩,⟨some 87,.len 1 (.t 86),none⟩,⟨some 88,.eql (.one .i) false (.t 85) (.t 87),none⟩])
 (.cond (.t 88) (.reg [⟨some 89,.mov (.t 14),none⟩,⟨some 90,.mov (.t 16),none⟩,⟨some 91,.mklit 1 [.t 90],none⟩,⟨some 92,.append 1 8 (.t 89) (.t 91),none⟩,⟨some 14,.mov (.t 92),none⟩])
 .skip))
 (.seq (.reg [⟨some 93,.mov (.t 9),none⟩,⟨some 94,.mov (.t 16),none⟩,⟨some 95,.iaddr none 1 (.t 93) (.t 94),none⟩,⟨some 96,.load none (.t 95),none⟩,⟨some 97,.bin .gtr (.t 96) (.c (.int .i64 0)),none⟩])
 (.cond (.t 97) (.reg [⟨some 98,.mov (.t 15),none⟩,⟨some 99,.mov (.t 16),none⟩,⟨some 100,.mklit 1 [.t 99],none⟩,⟨some 101,.append 1 8 (.t 98) (.t 100),none⟩,⟨some 15,.mov (.t 101),none⟩])
 .skip))))
 (.reg [⟨some 80,.mov (.t 16),none⟩,⟨some 81,.bin .add (.t 80) (.c (.int .i64 1)),none⟩,⟨some 16,.mov (.t 81),none⟩]))
def a26:AFunc:=⟨104,[.tmp 2,.tmp 3,.tmp 4],
 .seq (.reg [⟨some 1,.box 4 (.t 0),none⟩,⟨some 2,.mov (.c (.lit [] true none)),none⟩,⟨some 3,.mov (.c (.lit [] true none)),none⟩,⟨some 4,.mov (.c (.int .i64 0)),none⟩])
 (.seq (.reg [⟨some 18,.load (some 4) (.t 1),none⟩,⟨some 19,.call (.c (.func 18 [] [])) [.t 18],none⟩,⟨some 17,.mov (.t 19),none⟩,⟨some 20,.ext (.t 17) 0,none⟩,⟨some 21,.ext (.t 17) 1,none⟩,⟨some 22,.ext (.t 17) 2,none⟩,⟨some 5,.mov (.t 20),none⟩,⟨some 6,.mov (.t 21),none⟩,⟨some 7,.mov (.t 22),none⟩])
 (.seq (.reg [⟨some 24,.load (some 4) (.t 1),none⟩,⟨some 25,.mov (.t 7),none⟩,⟨some 26,.call (.c (.func 81 [] [])) [.t 24,.t 25],none⟩,⟨some 23,.mov (.t 26),none⟩,⟨some 27,.ext (.t 23) 0,none⟩,⟨some 28,.ext (.t 23) 1,none⟩,⟨some 8,.mov (.t 27),none⟩,⟨some 7,.mov (.t 28),none⟩])
 (.seq (.seq (.reg [⟨some 29,.mov (.t 7),none⟩,⟨some 30,.eql (.one .i) true (.t 29) (.c (.int .i64 0)),none⟩])
 (.cond (.t 30) (.seq (.reg [⟨some 31,.mov (.t 7),none⟩,⟨some 2,.mov (.c (.lit [] true none)),none⟩,⟨some 3,.mov (.c (.lit [] true none)),none⟩,⟨some 4,.mov (.t 31),none⟩])
 (.jump .ret))
 .skip))
 (.seq (.reg [⟨some 32,.faddr (.t 1) 2,none⟩,⟨some 33,.load none (.t 32),none⟩,⟨some 34,.len 1 (.t 33),none⟩,⟨some 35,.mkslice [.int .i64 0] 8 (.t 34) (.t 34),none⟩,⟨some 9,.mov (.t 35),none⟩])
 (.seq (.seq (.reg [⟨some 10,.mov (.c (.int .i64 0)),none⟩])
 (.block 0 (.loop Z3)))
 (.seq (.reg [⟨some 14,.mov (.c (.lit [] true none)),none⟩,⟨some 15,.mov (.c (.lit [] true none)),none⟩])
 (.seq (.seq (.reg [⟨some 16,.mov (.c (.int .i64 0)),none⟩])
 (.block 4 (.loop X2)))
 (.seq (.reg [⟨some 102,.mov (.t 14),none⟩,⟨some 103,.mov (.t 15),none⟩,⟨some 2,.mov (.t 102),none⟩,⟨some 3,.mov (.t 103),none⟩,⟨some 4,.mov (.c (.int .i64 0)),none⟩])
 (.jump .ret)))))))))⟩
def a27:AFunc:=⟨22,[.tmp 4],
 .seq (.reg [⟨some 4,.mov (.c (.bool false)),none⟩])
 (.seq (.reg [⟨some 5,.mov (.t 0),none⟩,⟨some 6,.len 1 (.t 5),none⟩,⟨some 7,.mov (.t 1),none⟩,⟨some 8,.len 1 (.t 7),none⟩,⟨some 9,.eql (.one .i) false (.t 6) (.t 8),none⟩,⟨some 10,.mov (.t 9),none⟩,⟨some 11,.mov (.t 0),(some (10,true))⟩,⟨some 12,.mov (.t 1),(some (10,true))⟩,⟨some 13,.call (.c (.func 56 [] [])) [.t 11,.t 12],(some (10,true))⟩,⟨some 14,.not (.t 13),(some (10,true))⟩,⟨some 15,.pick (.t 10) (.t 14) (.c (.bool false)),none⟩,⟨some 16,.mov (.t 15),none⟩,⟨some 17,.mov (.t 1),(some (16,true))⟩,⟨some 18,.mov (.t 0),(some (16,true))⟩,⟨some 19,.call (.c (.func 56 [] [])) [.t 17,.t 18],(some (16,true))⟩,⟨some 20,.not (.t 19),(some (16,true))⟩,⟨some 21,.pick (.t 16) (.t 20) (.c (.bool false)),none⟩,⟨some 4,.mov (.t 21),none⟩])
 (.jump .ret))⟩
def XP:ACode:=.seq (.reg [⟨some 31,.bin .lss (.t 30) (.t 29),none⟩])
 (.seq (.cond (.t 31) .skip
 (.jump (.exit 0)))
 (.seq (.block 1 (.seq (.reg [⟨some 32,.iaddr none 1 (.t 28) (.t 30),none⟩,⟨some 33,.load none (.t 32),none⟩,⟨some 10,.mov (.t 33),none⟩])
 (.seq (.dreg [⟨⟨some 34,.mov (.t 8),none⟩,0,0⟩,⟨⟨some 35,.bin .lss (.t 34) (.c (.int .i64 0)),none⟩,0,0⟩,⟨⟨some 36,.mov (.t 35),none⟩,0,0⟩,⟨⟨some 37,.faddr (.t 1) 2,(some (36,false))⟩,0,0⟩,⟨⟨some 38,.load none (.t 37),(some (36,false))⟩,0,0⟩,⟨⟨some 39,.mov (.t 10),(some (36,false))⟩,0,0⟩,⟨⟨some 40,.iaddr none 5 (.t 38) (.t 39),(some (36,false))⟩,0,0⟩,⟨⟨some 41,.faddr (.t 40) 3,(some (36,false))⟩,0,0⟩,⟨⟨some 42,.load none (.t 41),(some (36,false))⟩,0,0⟩,⟨⟨some 43,.faddr (.t 1) 2,(some (36,false))⟩,0,0⟩,⟨⟨some 44,.load none (.t 43),(some (36,false))⟩,0,0⟩,⟨⟨some 45,.mov (.t 8),(some (36,false))⟩,0,0⟩,⟨⟨some 46,.iaddr none 5 (.t 44) (.t 45),(some (36,false))⟩,0,0⟩,⟨⟨some 47,.faddr (.t 46) 3,(some (36,false))⟩,0,0⟩,⟨⟨some 48,.load none (.t 47),(some (36,false))⟩,0,0⟩,⟨⟨some 49,.bin .lss (.t 42) (.t 48),(some (36,false))⟩,0,0⟩,⟨⟨some 50,.pick (.t 36) (.c (.bool true)) (.t 49),none⟩,0,0⟩])
 (.cond (.t 50) (.reg [⟨some 51,.mov (.t 10),none⟩,⟨some 8,.mov (.t 51),none⟩])
 .skip))))
 (.reg [⟨some 52,.bin .add (.t 30) (.c (.int .i64 1)),none⟩,⟨some 30,.mov (.t 52),none⟩])))
def a28:AFunc:=⟨56,[.tmp 2,.tmp 3],
 .seq (.reg [⟨some 1,.box 4 (.t 0),none⟩,⟨some 2,.mov (.c (.int .i64 0)),none⟩,⟨some 3,.mov (.c (.int .i64 0)),none⟩])
 (.seq (.reg [⟨some 12,.load (some 4) (.t 1),none⟩,⟨some 13,.call (.c (.func 79 [] [])) [(.t 12),(.c (.lit [] true none))],none⟩,⟨some 11,.mov (.t 13),none⟩,⟨some 14,.ext (.t 11) 0,none⟩,⟨some 15,.ext (.t 11) 1,none⟩,⟨some 4,.mov (.t 14),none⟩,⟨some 5,.mov (.t 15),none⟩])
 (.seq (.seq (.reg [⟨some 16,.mov (.t 5),none⟩,⟨some 17,.eql (.one .i) true (.t 16) (.c (.int .i64 0)),none⟩])
 (.cond (.t 17) (.seq (.reg [⟨some 18,.mov (.t 5),none⟩,⟨some 2,.mov (.c (.int .i64 0)),none⟩,⟨some 3,.mov (.t 18),none⟩])
 (.jump .ret))
 .skip))
 (.seq (.reg [⟨some 20,.mov (.t 4),none⟩,⟨some 21,.call (.c (.func 84 [] [])) [.t 20],none⟩,⟨some 19,.mov (.t 21),none⟩,⟨some 22,.ext (.t 19) 0,none⟩,⟨some 23,.ext (.t 19) 1,none⟩,⟨some 6,.mov (.t 22),none⟩,⟨some 7,.mov (.t 23),none⟩])
 (.seq (.reg [⟨some 8,.mov (.c (.int .i64 (-1))),none⟩])
 (.seq (.seq (.reg [⟨some 24,.mov (.t 7),none⟩,⟨some 25,.faddr (.t 1) 2,none⟩,⟨some 26,.load none (.t 25),none⟩,⟨some 27,.len 1 (.t 26),none⟩,⟨some 28,.call (.c (.func 85 [] [])) [.t 24,.t 27],none⟩,⟨some 29,.len 1 (.t 28),none⟩,⟨some 30,.mov (.c (.int .i64 0)),none⟩])
 (.block 0 (.loop XP)))
 (.seq (.seq (.reg [⟨some 53,.mov (.t 8),none⟩,⟨some 54,.bin .lss (.t 53) (.c (.int .i64 0)),none⟩])
 (.cond (.t 54) (.seq (.reg [⟨some 2,.mov (.c (.int .i64 0)),none⟩,⟨some 3,.mov (.c (.int .i64 9)),none⟩])
 (.jump .ret))
 .skip))
 (.seq (.reg [⟨some 55,.mov (.t 8),none⟩,⟨some 2,.mov (.t 55),none⟩,⟨some 3,.mov (.c (.int .i64 0)),none⟩])
 (.jump .ret))))))))⟩
def X3:ACode:=.seq (.seq (.reg [⟨some 24,.mov (.t 8),none⟩,⟨some 25,.mov (.t 5),none⟩,⟨some 26,.len 1 (.t 25),none⟩,⟨some 27,.bin .lss (.t 24) (.t 26),none⟩])
 (.cond (.t 27) .skip
 (.jump (.exit 0))))
 (.seq (.block 1 (.seq (.dreg [⟨⟨some 30,.faddr (.t 1) 2,none⟩,0,0⟩,⟨⟨some 31,.load none (.t 30),none⟩,0,0⟩,⟨⟨some 32,.mov (.t 5),none⟩,0,0⟩,⟨⟨some 33,.mov (.t 8),none⟩,0,0⟩,⟨⟨some 34,.iaddr none 1 (.t 32) (.t 33),none⟩,0,0⟩,⟨⟨some 35,.load none (.t 34),none⟩,0,0⟩,⟨⟨some 36,.iaddr none 5 (.t 31) (.t 35),none⟩,0,0⟩,⟨⟨some 37,.faddr (.t 36) 3,none⟩,0,0⟩,⟨⟨some 38,.load none (.t 37),none⟩,0,0⟩,⟨⟨some 39,.faddr (.t 1) 2,none⟩,0,0⟩,⟨⟨some 40,.load none (.t 39),none⟩,0,0⟩,⟨⟨some 41,.mov (.t 7),none⟩,0,0⟩,⟨⟨some 42,.iaddr none 5 (.t 40) (.t 41),none⟩,0,0⟩,⟨⟨some 43,.faddr (.t 42) 3,none⟩,0,0⟩,⟨⟨some 44,.load none (.t 43),none⟩,0,0⟩,⟨⟨some 45,.bin .lss (.t 38) (.t 44),none⟩,0,0⟩])
 (.cond (.t 45) (.reg [⟨some 46,.mov (.t 5),none⟩,⟨some 47,.mov (.t 8),none⟩,⟨some 48,.iaddr none 1 (.t 46) (.t 47),none⟩,⟨some 49,.load none (.t 48),none⟩,⟨some 7,.mov (.t 49),none⟩])
 .skip)))
 (.reg [⟨some 28,.mov (.t 8),none⟩,⟨some 29,.bin .add (.t 28) (.c (.int .i64 1)),none⟩,⟨some 8,.mov (.t 29),none⟩]))
def a29:AFunc:=⟨51,[.tmp 2,.tmp 3],
 .seq (.reg [⟨some 1,.box 4 (.t 0),none⟩,⟨some 2,.mov (.c (.int .i64 0)),none⟩,⟨some 3,.mov (.c (.int .i64 0)),none⟩])
 (.seq (.reg [⟨some 10,.load (some 4) (.t 1),none⟩,⟨some 11,.call (.c (.func 26 [] [])) [.t 10],none⟩,⟨some 9,.mov (.t 11),none⟩,⟨some 12,.ext (.t 9) 0,none⟩,⟨some 13,.ext (.t 9) 1,none⟩,⟨some 14,.ext (.t 9) 2,none⟩,⟨some 4,.mov (.t 12),none⟩,⟨some 5,.mov (.t 13),none⟩,⟨some 6,.mov (.t 14),none⟩])
 (.seq (.seq (.reg [⟨some 15,.mov (.t 6),none⟩,⟨some 16,.eql (.one .i) true (.t 15) (.c (.int .i64 0)),none⟩])
 (.cond (.t 16) (.seq (.reg [⟨some 17,.mov (.t 6),none⟩,⟨some 2,.mov (.c (.int .i64 0)),none⟩,⟨some 3,.mov (.t 17),none⟩])
 (.jump .ret))
 .skip))
 (.seq (.seq (.reg [⟨some 18,.mov (.t 5),none⟩,⟨some 19,.len 1 (.t 18),none⟩,⟨some 20,.eql (.one .i) false (.t 19) (.c (.int .i64 0)),none⟩])
 (.cond (.t 20) (.seq (.reg [⟨some 2,.mov (.c (.int .i64 0)),none⟩,⟨some 3,.mov (.c (.int .i64 9)),none⟩])
 (.jump .ret))
 .skip))
 (.seq (.reg [⟨some 21,.mov (.t 5),none⟩,⟨some 22,.iaddr none 1 (.t 21) (.c (.int .i64 0)),none⟩,⟨some 23,.load none (.t 22),none⟩,⟨some 7,.mov (.t 23),none⟩])
 (.seq (.seq (.reg [⟨some 8,.mov (.c (.int .i64 1)),none⟩])
 (.block 0 (.loop X3)))
 (.seq (.reg [⟨some 50,.mov (.t 7),none⟩,⟨some 2,.mov (.t 50),none⟩,⟨some 3,.mov (.c (.int .i64 0)),none⟩])
 (.jump .ret)))))))⟩
def YQ:ACode:=.seq (.reg [⟨some 30,.bin .lss (.t 29) (.t 28),none⟩])
 (.seq (.cond (.t 30) .skip
 (.jump (.exit 0)))
 (.seq (.block 1 (.seq (.reg [⟨some 31,.mov (.t 29),none⟩,⟨some 32,.iaddr none 5 (.t 27) (.t 29),none⟩,⟨some 33,.load (some 5) (.t 32),none⟩,⟨some 8,.alloc [.str ⟨#[]⟩,.int .i64 0,.int .i64 0,.int .i64 0,.lit [] true none],none⟩,⟨some 7,.mov (.t 31),none⟩,⟨none,.store 5 (.t 8) (.t 33),none⟩])
 (.dreg [⟨⟨some 34,.load none (.t 6),none⟩,0,1⟩,⟨⟨some 35,.mov (.t 7),none⟩,0,1⟩,⟨⟨some 36,.load (some 4) (.t 1),none⟩,0,0⟩,⟨⟨some 37,.faddr (.t 8) 1,none⟩,0,0⟩,⟨⟨some 38,.load none (.t 37),none⟩,0,0⟩,⟨⟨some 39,.call (.c (.func 77 [] [])) [(.t 36),(.t 38),(.c (.int .i64 (-1)))],none⟩,0,1⟩,⟨⟨some 40,.iaddr none 1 (.t 34) (.t 35),none⟩,1,1⟩,⟨⟨none,.store 1 (.t 40) (.t 39),none⟩,1,2⟩])))
 (.reg [⟨some 41,.bin .add (.t 29) (.c (.int .i64 1)),none⟩,⟨some 29,.mov (.t 41),none⟩])))
def Y6:ACode:=.seq (.reg [⟨some 60,.bin .lss (.t 59) (.t 58),none⟩])
 (.seq (.cond (.t 60) .skip
 (.jump (.exit 4)))
 (.seq (.block 5 (.seq (.reg [⟨some 61,.mov (.t 59),none⟩,⟨some 62,.iaddr none 1 (.t 57) (.t 59),none⟩,⟨some 63,.load none (.t 62),none⟩,⟨some 12,.mov (.t 61),none⟩,⟨some 13,.mov (.t 63),none⟩])
 (.seq (.reg [⟨some 64,.mov (.t 13),none⟩,⟨some 65,.faddr (.t 1) 2,none⟩,⟨some 66,.load none (.t 65),none⟩,⟨some 67,.mov (.t 12),none⟩,⟨some 68,.iaddr none 5 (.t 66) (.t 67),none⟩,⟨some 69,.faddr (.t 68) 4,none⟩,⟨some 70,.load none (.t 69),none⟩,⟨some 71,.call (.c (.func 88 [] [])) [.t 64,.t 70],none⟩,⟨some 72,.not (.t 71),none⟩])
 (.cond (.t 72) (.reg [⟨some 73,.mov (.t 3),none⟩,⟨some 74,.mov (.t 12),none⟩,⟨some 75,.mklit 1 [.t 74],none⟩,⟨some 76,.append 1 8 (.t 73) (.t 75),none⟩,⟨some 3,.mov (.t 76),none⟩])
 .skip))))
 (.reg [⟨some 77,.bin .add (.t 59) (.c (.int .i64 1)),none⟩,⟨some 59,.mov (.t 77),none⟩])))
def R5:ACode:=.seq (.reg [⟨some 51,.bin .lss (.t 50) (.t 49),none⟩])
 (.seq (.cond (.t 51) .skip
 (.jump (.exit 2)))
 (.seq (.block 3 (.seq (.reg [⟨some 52,.mov (.t 50),none⟩,⟨some 11,.mov (.t 52),none⟩])
 (.seq (.seq (.reg [⟨some 53,.load none (.t 10),none⟩,⟨some 54,.mov (.t 11),none⟩,⟨some 55,.call (.t 53) [(.c (.int .i64 0)),(.t 54)],none⟩,⟨some 56,.not (.t 55),none⟩])
 (.cond (.t 56) (.jump (.exit 3))
 .skip))
 (.seq (.seq (.reg [⟨some 57,.load none (.t 9),none⟩,⟨some 58,.len 1 (.t 57),none⟩,⟨some 59,.mov (.c (.int .i64 0)),none⟩])
 (.block 4 (.loop Y6)))
 (.seq (.reg [⟨some 78,.load none (.t 9),none⟩,⟨some 79,.mov (.t 3),none⟩,⟨some 2,.mov (.t 78),none⟩,⟨some 3,.mov (.t 79),none⟩,⟨some 4,.mov (.c (.int .i64 0)),none⟩])
 (.jump .ret))))))
 (.reg [⟨some 80,.bin .add (.t 50) (.c (.int .i64 1)),none⟩,⟨some 50,.mov (.t 80),none⟩])))
def a30:AFunc:=⟨81,[.tmp 2,.tmp 3,.tmp 4],
 .seq (.reg [⟨some 1,.box 4 (.t 0),none⟩,⟨some 2,.mov (.c (.lit [] true none)),none⟩,⟨some 3,.mov (.c (.lit [] true none)),none⟩,⟨some 4,.mov (.c (.int .i64 0)),none⟩])
 (.seq (.reg [⟨some 15,.load (some 4) (.t 1),none⟩,⟨some 16,.call (.c (.func 79 [] [])) [(.t 15),(.c (.lit [] true none))],none⟩,⟨some 14,.mov (.t 16),none⟩,⟨some 17,.ext (.t 14) 0,none⟩,⟨some 18,.ext (.t 14) 1,none⟩,⟨some 5,.alloc [.nilPtr],none⟩,⟨none,.store 1 (.t 5) (.t 17),none⟩,⟨some 4,.mov (.t 18),none⟩])
 (.seq (.seq (.reg [⟨some 19,.mov (.t 4),none⟩,⟨some 20,.eql (.one .i) true (.t 19) (.c (.int .i64 0)),none⟩])
 (.cond (.t 20) (.seq (.reg [⟨some 21,.mov (.t 4),none⟩,⟨some 2,.mov (.c (.lit [] true none)),none⟩,⟨some 3,.mov (.c (.lit [] true none)),none⟩,⟨some 4,.mov (.t 21),none⟩])
 (.jump .ret))
 .skip))
 (.seq (.reg [⟨some 22,.faddr (.t 1) 2,none⟩,⟨some 23,.load none (.t 22),none⟩,⟨some 24,.len 1 (.t 23),none⟩,⟨some 25,.mkslice [.lit [] true none] 24 (.t 24) (.t 24),none⟩,⟨some 6,.alloc [.lit [] true none],none⟩,⟨none,.store 1 (.t 6) (.t 25),none⟩])
 (.seq (.seq (.reg [⟨some 26,.faddr (.t 1) 2,none⟩,⟨some 27,.load none (.t 26),none⟩,⟨some 28,.len 1 (.t 27),none⟩,⟨some 29,.mov (.c (.int .i64 0)),none⟩])
 (.block 0 (.loop YQ)))
 (.seq (.reg [⟨some 42,.faddr (.t 1) 2,none⟩,⟨some 43,.load none (.t 42),none⟩,⟨some 44,.len 1 (.t 43),none⟩,⟨some 45,.mkslice [.lit [] true none] 24 (.t 44) (.t 44),none⟩,⟨some 9,.alloc [.lit [] true none],none⟩,⟨none,.store 1 (.t 9) (.t 45),none⟩])
 (.seq (.reg [⟨some 10,.alloc [.nilFunc],none⟩])
 (.seq (.reg [⟨some 46,.mkfun 86 [] [.t 9,.t 5,.t 6,.t 1,.t 10],none⟩,⟨none,.store 1 (.t 10) (.t 46),none⟩])
 (.seq (.seq (.reg [⟨some 47,.load none (.t 9),none⟩,⟨some 48,.len 1 (.t 47),none⟩,⟨some 49,.bin .add (.t 48) (.c (.int .i64 1)),none⟩,⟨some 50,.mov (.c (.int .i64 0)),none⟩])
 (.block 2 (.loop R5)))
 (.seq (.reg [⟨some 2,.mov (.c (.lit [] true none)),none⟩,⟨some 3,.mov (.c (.lit [] true none)),none⟩,⟨some 4,.mov (.c (.int .i64 9)),none⟩])
 (.jump .ret))))))))))⟩
def XZ:ACode:=.seq (.seq (.reg [⟨some 36,.mov (.t 11),none⟩,⟨some 37,.mov (.t 9),none⟩,⟨some 38,.len 1 (.t 37),none⟩,⟨some 39,.bin .lss (.t 36) (.t 38),none⟩])
 (.cond (.t 39) .skip
 (.jump (.exit 2))))
 (.seq (.block 3 (.seq (.dreg [⟨⟨some 42,.load (some 4) (.t 1),none⟩,0,0⟩,⟨⟨some 43,.mov (.t 9),none⟩,0,0⟩,⟨⟨some 44,.mov (.t 11),none⟩,0,0⟩,⟨⟨some 45,.iaddr none 1 (.t 43) (.t 44),none⟩,0,0⟩,⟨⟨some 46,.load none (.t 45),none⟩,0,0⟩,⟨⟨some 47,.call (.c (.func 55 [] [])) [.t 42,.t 46],none⟩,0,1⟩,⟨⟨some 48,.len 1 (.t 47),none⟩,1,1⟩,⟨⟨some 49,.mov (.t 10),none⟩,0,1⟩,⟨⟨some 50,.eql (.one .i) false (.t 48) (.t 49),none⟩,1,1⟩,⟨⟨some 51,.mov (.t 50),none⟩,1,1⟩,⟨⟨some 52,.load (some 4) (.t 1),(some (51,true))⟩,1,1⟩,⟨⟨some 53,.mov (.t 8),(some (51,true))⟩,1,1⟩,⟨⟨some 54,.mov (.t 9),(some (51,true))⟩,1,1⟩,⟨⟨some 55,.mov (.t 11),(some (51,true))⟩,1,1⟩,⟨⟨some 56,.iaddr none 1 (.t 54) (.t 55),(some (51,true))⟩,1,1⟩,⟨⟨some 57,.load none (.t 56),(some (51,true))⟩,1,1⟩,⟨⟨some 58,.call (.c (.func 53 [] [])) [.t 52,.t 53,.t 57],(some (51,true))⟩,1,2⟩,⟨⟨some 59,.pick (.t 51) (.t 58) (.c (.bool false)),none⟩,2,2⟩])
 (.cond (.t 59) (.seq (.dreg [⟨⟨some 60,.mov (.t 9),none⟩,0,1⟩,⟨⟨some 61,.mov (.t 11),none⟩,0,1⟩,⟨⟨some 62,.iaddr none 1 (.t 60) (.t 61),none⟩,0,1⟩,⟨⟨some 63,.load none (.t 62),none⟩,0,1⟩,⟨⟨some 64,.load (some 4) (.t 1),none⟩,0,0⟩,⟨⟨some 65,.mov (.t 9),none⟩,0,0⟩,⟨⟨some 66,.mov (.t 11),none⟩,0,0⟩,⟨⟨some 67,.iaddr none 1 (.t 65) (.t 66),none⟩,0,0⟩,⟨⟨some 68,.load none (.t 67),none⟩,0,0⟩,⟨⟨some 69,.call (.c (.func 55 [] [])) [.t 64,.t 68],none⟩,0,1⟩,⟨⟨some 2,.mov (.t 63),none⟩,1,1⟩,⟨⟨some 3,.mov (.t 69),none⟩,1,1⟩,⟨⟨some 4,.mov (.c (.int .i64 0)),none⟩,1,1⟩])
 (.jump .ret))
 .skip)))
 (.reg [⟨some 40,.mov (.t 11),none⟩,⟨some 41,.bin .add (.t 40) (.c (.int .i64 1)),none⟩,⟨some 11,.mov (.t 41),none⟩]))
def YD:ACode:=.seq (.seq (.reg [⟨some 29,.mov (.t 10),none⟩,⟨some 30,.faddr (.t 1) 2,none⟩,⟨some 31,.load none (.t 30),none⟩,⟨some 32,.len 1 (.t 31),none⟩,⟨some 33,.bin .leq (.t 29) (.t 32),none⟩])
 (.cond (.t 33) .skip
 (.jump (.exit 0))))
 (.seq (.block 1 (.seq (.reg [⟨some 11,.mov (.c (.int .i64 0)),none⟩])
 (.block 2 (.loop XZ))))
 (.reg [⟨some 34,.mov (.t 10),none⟩,⟨some 35,.bin .add (.t 34) (.c (.int .i64 1)),none⟩,⟨some 10,.mov (.t 35),none⟩]))
def a31:AFunc:=⟨70,[.tmp 2,.tmp 3,.tmp 4],
 .seq (.reg [⟨some 1,.box 4 (.t 0),none⟩,⟨some 2,.mov (.c (.lit [] true none)),none⟩,⟨some 3,.mov (.c (.lit [] true none)),none⟩,⟨some 4,.mov (.c (.int .i64 0)),none⟩])
 (.seq (.reg [⟨some 13,.load (some 4) (.t 1),none⟩,⟨some 14,.call (.c (.func 18 [] [])) [.t 13],none⟩,⟨some 12,.mov (.t 14),none⟩,⟨some 15,.ext (.t 12) 0,none⟩,⟨some 16,.ext (.t 12) 1,none⟩,⟨some 17,.ext (.t 12) 2,none⟩,⟨some 5,.mov (.t 15),none⟩,⟨some 6,.mov (.t 16),none⟩,⟨some 7,.mov (.t 17),none⟩])
 (.seq (.reg [⟨some 19,.load (some 4) (.t 1),none⟩,⟨some 20,.mov (.t 7),none⟩,⟨some 21,.call (.c (.func 81 [] [])) [.t 19,.t 20],none⟩,⟨some 18,.mov (.t 21),none⟩,⟨some 22,.ext (.t 18) 0,none⟩,⟨some 23,.ext (.t 18) 1,none⟩,⟨some 8,.mov (.t 22),none⟩,⟨some 7,.mov (.t 23),none⟩])
 (.seq (.seq (.reg [⟨some 24,.mov (.t 7),none⟩,⟨some 25,.eql (.one .i) true (.t 24) (.c (.int .i64 0)),none⟩])
 (.cond (.t 25) (.seq (.reg [⟨some 26,.mov (.t 7),none⟩,⟨some 2,.mov (.c (.lit [] true none)),none⟩,⟨some 3,.mov (.c (.lit [] true none)),none⟩,⟨some 4,.mov (.t 26),none⟩])
 (.jump .ret))
 .skip))
 (.seq (.reg [⟨some 27,.load (some 4) (.t 1),none⟩,⟨some 28,.call (.c (.func 89 [] [])) [.t 27],none⟩,⟨some 9,.mov (.t 28),none⟩])
 (.seq (.seq (.reg [⟨some 10,.mov (.c (.int .i64 0)),none⟩])
 (.block 0 (.loop YD)))
 (.seq (.reg [⟨some 2,.mov (.c (.lit [] true none)),none⟩,⟨some 3,.mov (.c (.lit [] true none)),none⟩,⟨some 4,.mov (.c (.int .i64 9)),none⟩])
 (.jump .ret)))))))⟩
end Go.Am.Room
