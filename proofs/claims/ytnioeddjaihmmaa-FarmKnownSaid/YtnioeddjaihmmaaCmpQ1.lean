/- A part of the proofs: an abstract machine, or what functions come to on it. -/
import GoSem.Dispatch
import Derived.RangeFuncLeaves
import Derived.OrdersIn
import Derived.Laws.AppendOwn
import Derived.Laws.CopyRow
import Derived.Laws.Rows
import Derived.Below
set_option linter.unusedVariables false
set_option linter.unusedSimpArgs false
set_option linter.defProp false
namespace Go.Am
inductive AV where
 | undef
 | int (k : IntKind) (n : Int)
 | bool (b : Bool)
 | str (s : ByteArray)
 | func (f : FuncId) (first cap : List AV)
 | nilFunc
 | yield (id : Nat)
 | ptr (id off : Nat)
 | nilPtr
 /-- into the i-th element of a list, of the token's block -/
 | lptr (xs : List AV) (i off : Nat) (tk : Option Nat)
 /-- a slice that reads az a list; 'full': its capacity is its length; 'tk': the token of its block, if it is known to have one -/
 | lit (xs : List AV) (full : Bool) (tk : Option Nat)
 | ref (id off len sz : Nat)
 | map (id : Nat)
 | nilMap
 | agg (cells : List AV)
 | tuple (vs : List AV)
 deriving Inhabited
def AV.cells : AV → List AV
 | .agg cs => cs
 | v => [v]
def AV.cell : AV → Bool
 | .undef | .agg _ | .tuple _ => false
 | _ => true
inductive SK where
 | i | b | s
 deriving DecidableEq, Repr, Inhabited
inductive EqTy where
 | one (k : SK)
 | agg (ks : List SK)
 deriving DecidableEq, Repr, Inhabited
abbrev Env := List (Nat × AV)
def Env.get : Env → Nat → AV
 | [], _ => .undef
 | (k, v) :: e, t => if k = t then v else Env.get e t
def Env.put (e : Env) (d : Option Nat) (v : AV) : Env :=
 match d with
 | some d => (d, v) :: e
 | none => e
inductive AOpd where
 | t (n : Nat)
 | c (v : AV)
 deriving Inhabited
def AOpd.ev (e : Env) : AOpd → AV
 | .t n => Env.get e n
 | .c v => v
inductive AOp where
 | mov (x : AOpd)
 | pick (c a b : AOpd)
 | alloc (zero : List AV)
 | box (n : Nat) (x : AOpd)
 | build (zero : List AV) (parts : List (Nat × Nat × AOpd))
 | mklit (sz : Nat) (xs : List AOpd)
 | mkref (sz : Nat) (xs : List AOpd)
 | load (sh : Option Nat) (x : AOpd)
 | store (n : Nat) (a x : AOpd)
 | nilCheck (x : AOpd)
 | bin (op : BinOp) (x y : AOpd)
 | eql (sh : EqTy) (neg : Bool) (x y : AOpd)
 | not (x : AOpd)
 | neg (x : AOpd)
 | conv (k : IntKind) (x : AOpd)
 | mkfun (f : FuncId) (first cap : List AOpd)
 | mkmap
 | mkslice (zero : List AV) (bytes : Nat) (l c : AOpd)
 | slicev (sz : Nat) (x : AOpd) (lo hi mx : Option AOpd)
 | slicea (n sz : Nat) (x : AOpd) (lo hi : Option AOpd)
 | faddr (x : AOpd) (off : Nat)
 | field (x : AOpd) (off : Nat) (sh : Option Nat)
 | iaddr (arr : Option Nat) (sz : Nat) (x i : AOpd)
 | index (len sz : Nat) (sh : Option Nat) (x i : AOpd)
 | sindex (x i : AOpd)
 | lookup (sh : EqTy) (ok : Bool) (zero : AV) (m k : AOpd)
 | mapset (sh : EqTy) (m k v : AOpd)
 | srange (x : AOpd)
 | snext (x : AOpd)
 | mrange (x : AOpd)
 | mnext (x : AOpd)
 | entry (x : AOpd)
 | ext (x : AOpd) (i : Nat)
 /-- of a string (0), a slice (1), a map (2) -/
 | len (k : Nat) (x : AOpd)
 | append (sz bytes : Nat) (x y : AOpd)
 | apref (sz bytes : Nat) (x y : AOpd)
 | copy (sz : Nat) (x y : AOpd)
 | min (xs : List AOpd)
 | max (xs : List AOpd)
 | call (f : AOpd) (args : List AOpd)
 deriving Inhabited
structure AOper where
 dst : Option Nat
 op : AOp
 /-- the temporary that must hold this bool -/
 guard : Option (Nat × Bool)
 deriving Inhabited
structure ADOper where
 o : AOper
 lo : Nat
 hi : Nat
 deriving Inhabited
inductive AJump where
 | ret
 | exit (id : Nat)
 deriving DecidableEq, Repr, Inhabited
inductive ACode where
 | skip
 | reg (ops : List AOper)
 | dreg (ops : List ADOper)
 | seq (a b : ACode)
 | cond (c : AOpd) (a b : ACode)
 | block (id : Nat) (b : ACode)
 | loop (b : ACode)
 | rangeFunc (f : AOpd) (params : List Nat) (assign body : ACode)
 | jump (j : AJump)
 | scope (b : ACode)
 deriving Inhabited
inductive LS where
 | ready | busy | done
 deriving DecidableEq, Repr, Inhabited
inductive ABlk where
 | cells (cs : List AV)
 | map (es : List (AV × AV))
 /-- a token: the size of an element, how many elements the slice has that may grow, and whether its block is no one else's -/
 | tok (sz n : Nat) (excl : Bool)
 | siter (s : ByteArray) (pos : Nat)
 /-- an iterator over a map that had so many entries: the places of those that are to come, and of the last one -/
 | miter (m n : Nat) (left : List Nat) (last : Option Nat)
 | loop (st : LS) (pend : Option AJump) (env : Env) (params : List Nat) (assign body : ACode)
 | dead
 deriving Inhabited
abbrev St := List ABlk
inductive ARes where
 | tmp (t : Nat)
 | cell (t : Nat) (sh : Option Nat)
 deriving Inhabited
structure AFunc where
 ntmps : Nat
 results : List ARes
 body : ACode
 deriving Inhabited
def shaped (sh : Option Nat) (cs : List AV) (off : Nat) : Option AV :=
 match sh with
 | none => cs[off]?
 | some n => if off + n ≤ cs.length then some (.agg ((cs.drop off).take n)) else none
def setCells (cs : List AV) (off : Nat) (vs : List AV) : Option (List AV) :=
 if off + vs.length ≤ cs.length then some (cs.take off ++ vs ++ cs.drop (off + vs.length)) else none
def eqCell : SK → AV → AV → Option Bool
 | .i, .int k a, .int k' b => if k = k' then some (a == b) else none
 | .b, .bool a, .bool b => some (a == b)
 | .s, .str a, .str b => some (a.toList == b.toList)
 | _, _, _ => none
def eqCells : List SK → List AV → List AV → Option Bool
 | [], [], [] => some true
 | k :: ks, a :: x, b :: y =>
  match eqCell k a b, eqCells ks x y with
  | some p, some q => some (p && q)
  | _, _ => none
 | _, _, _ => none
def eqSh : EqTy → AV → AV → Option Bool
 | .one k, x, y => eqCell k x y
 | .agg ks, .agg cs, .agg ds => eqCells ks cs ds
 | _, _, _ => none
def bits (op : BinOp) (k : IntKind) (x y : Int) : Int :=
 let a := BitVec.ofInt k.bits x
 let b := BitVec.ofInt k.bits y
 match op with
 | .and => k.wrap (a &&& b).toNat
 | .or => k.wrap (a ||| b).toNat
 | .xor => k.wrap (a ^^^ b).toNat
 | _ => k.wrap (a &&& ~~~b).toNat
def binInt (op : BinOp) (k : IntKind) (a b : Int) : Option AV :=
 match op with
 | .add => some (.int k (k.wrap (a + b)))
 | .sub => some (.int k (k.wrap (a - b)))
 | .mul => some (.int k (k.wrap (a * b)))
 | .quo => if b = 0 then none else some (.int k (k.wrap (a.tdiv b)))
 | .rem => if b = 0 then none else some (.int k (a.tmod b))
 | .and => some (.int k (bits .and k a b))
 | .or => some (.int k (bits .or k a b))
 | .xor => some (.int k (bits .xor k a b))
 | .andNot => some (.int k (bits .andNot k a b))
 | .lss => some (.bool (decide (a < b)))
 | .leq => some (.bool (decide (a ≤ b)))
 | .gtr => some (.bool (decide (a > b)))
 | .geq => some (.bool (decide (a ≥ b)))
 | _ => none
def binAV (op : BinOp) (x y : AV) : Option AV :=
 match x, y with
 | .int k a, .int k' b =>
  match op with
  | .shl => if b < 0 then none else some (.int k (k.wrap (a * 2 ^ (Nat.min b.toNat k.bits))))
  | .shr => if b < 0 then none else some (.int k (a.fdiv (2 ^ (Nat.min b.toNat k.bits))))
  | op => if k = k' then binInt op k a b else none
 | _, _ => none
def intOf : AV → Option Int
 | .int _ n => some n
 | _ => none
def boundOr (e : Env) (d : Nat) : Option AOpd → Option Int
 | none => some d
 | some x => intOf (x.ev e)
def allCells (n : Nat) (xs : List AV) : Bool := xs.all fun x => x.cells.length == n && x.cells.all (·.cell)
def sized (n : Nat) : AV → Bool
 | .ref _ _ _ sz => sz == n
 | _ => true
def buildCells (e : Env) (cs : List AV) : List (Nat × Nat × AOpd) → Option (List AV)
 | [] => some cs
 | (off, n, x) :: rest =>
  if ((x.ev e).cells.length == n && (x.ev e).cells.all (·.cell)) = true then
   match setCells cs off (x.ev e).cells with
   | some cs => buildCells e cs rest
   | none => none
  else none
def cellsAt (σ : St) (id : Nat) : Option (List AV) :=
 match σ[id]? with
 | some (.cells cs) => some cs
 | _ => none
def chop (sz : Nat) : Nat → List AV → List AV
 | 0, _ => []
 | n + 1, cs => (if sz = 1 ∧ (cs.headD .undef).cell = true then cs.headD .undef else .agg (cs.take sz)) :: chop sz n (cs.drop sz)
def view (σ : St) : AV → Option (List AV)
 | .lit xs _ _ => some xs
 | .ref id off len sz =>
  match cellsAt σ id with
  | some cs => if off + len * sz ≤ cs.length then some (chop sz len (cs.drop off)) else none
  | none => none
 | _ => none
def findKey (sh : EqTy) (k : AV) : List (AV × AV) → Option (Option AV)
 | [] => some none
 | (k', v) :: es =>
  match eqSh sh k k' with
  | some true => some (some v)
  | some false => findKey sh k es
  | none => none
def setKey (sh : EqTy) (k v : AV) : List (AV × AV) → Option (List (AV × AV))
 | [] => some [(k, v)]
 | (k', v') :: es =>
  match eqSh sh k k' with
  | some true => some ((k, v) :: es)
  | some false => (setKey sh k v es).map ((k', v') :: ·)
  | none => none
def lookAV (sh : EqTy) (σ : St) (m k : AV) : Option (Option AV) :=
 match m with
 | .nilMap => if (eqSh sh k k).isSome = true then some none else none
 | .map id =>
  match σ[id]? with
  | some (.map es) => if (eqSh sh k k).isSome = true then findKey sh k es else none
  | _ => none
 | _ => none
def loadAV (sh : Option Nat) (σ : St) : AV → Option AV
 | .ptr id off =>
  match cellsAt σ id with
  | some cs => shaped sh cs off
  | none => none
 | .lptr xs i off _ =>
  match xs[i]? with
  | some x => shaped sh x.cells off
  | none => none
 | _ => none
def storeAV (n : Nat) (σ : St) (a v : AV) : Option St :=
 match a with
 | .ptr id off =>
  if (v.cells.length == n && v.cells.all (·.cell)) = true then
   match cellsAt σ id with
   | some cs =>
    match setCells cs off v.cells with
    | some cs' => some (σ.set id (.cells cs'))
    | none => none
   | none => none
  else none
 | _ => none
def cutFits (sz : Nat) (xs : List AV) (l h : Int) : Bool :=
 decide (l = h) || (match xs[l.toNat]? with | some x => x.cells.length == sz | none => false)
def sliceAV (sz : Nat) (x : AV) (l h : Int) (full : Bool) : Option AV :=
 match x with
 | .lit xs fl tk =>
  if 0 ≤ l ∧ l ≤ h ∧ h ≤ xs.length ∧ cutFits sz xs l h = true then
   some (.lit ((xs.drop l.toNat).take (h.toNat - l.toNat)) (full || (fl && decide (h = xs.length))) tk)
  else none
 | .ref id off len sz' =>
  if 0 ≤ l ∧ l ≤ h ∧ h ≤ len ∧ sz' = sz then some (.ref id (off + l.toNat * sz) (h.toNat - l.toNat) sz) else none
 | _ => none
def lenAV (k : Nat) (σ : St) (x : AV) : Option Nat :=
 match k, x with
 | 0, .str s => some s.size
 | 1, .lit xs _ _ => some xs.length
 | 1, .ref _ _ len _ => some len
 | 2, .nilMap => some 0
 | 2, .map id => match σ[id]? with | some (.map es) => some es.length | _ => none
 | _, _ => none
def room : Nat := 2 ^ 47
def appendAV (sz bytes : Nat) (σ : St) (x y : AV) : Option (AV × St) :=
 match x, view σ y with
 | .lit xs full tk, some ys =>
  if ys.length = 0 then some (.lit xs full tk, σ) else
  if (sized sz y && allCells sz xs && allCells sz ys && decide ((xs.length + ys.length) * bytes ≤ room) && decide (xs.length + ys.length ≤ room)) = true then
   if full = true then some (.lit (xs ++ ys) false (some σ.length), σ ++ [.tok sz (xs.length + ys.length) true])
   else
    match tk with
    | some t =>
     match σ[t]? with
     | some (.tok sz' n _) => if sz' = sz ∧ n = xs.length then some (.lit (xs ++ ys) false (some t), σ.set t (.tok sz (xs.length + ys.length) true)) else none
     | _ => none
    | none => none
  else none
 | _, _ => none
def aprefAV (sz bytes : Nat) (σ : St) (x y : AV) : Option (AV × St) :=
 match x, view σ y with
 | .lit xs full tk, some ys =>
  if ys.length = 0 then some (.lit xs full tk, σ) else
  if (full && sized sz y && allCells sz (xs ++ ys) && decide ((xs.length + ys.length) * bytes ≤ room) && decide (xs.length + ys.length ≤ room)) = true then
   some (.ref σ.length 0 (xs.length + ys.length) sz, σ ++ [.cells ((xs ++ ys).flatMap AV.cells)])
  else none
 | _, _ => none
def copyAV (sz : Nat) (σ : St) (x y : AV) : Option (AV × St) :=
 match x, view σ y with
 | .ref id off len sz', some ys =>
  let zs := ys.take len
  if (decide (sz' = sz) && sized sz y && allCells sz ys) = true then
   match cellsAt σ id with
   | some cs =>
    match setCells cs off (zs.flatMap AV.cells) with
    | some cs' => some (.int .i64 (Nat.min ys.length len), σ.set id (.cells cs'))
    | none => none
   | none => none
  else none
 | _, _ => none
def minFrom (k : IntKind) (a : Int) : List AV → Option AV
 | [] => some (.int k a)
 | .int k' b :: rest => if k' = k then minFrom k (if b < a then b else a) rest else none
 | _ => none
def minAV : List AV → Option AV
 | .int k a :: rest => minFrom k a rest
 | _ => none
def maxFrom (k : IntKind) (a : Int) : List AV → Option AV
 | [] => some (.int k a)
 | .int k' b :: rest => if k' = k then maxFrom k (if b > a then b else a) rest else none
 | _ => none
def maxAV : List AV → Option AV
 | .int k a :: rest => maxFrom k a rest
 | _ => none
def aop (op : AOp) (e : Env) (σ : St) : Option (AV × St) :=
 match op with
 | .mov x => some (x.ev e, σ)
 | .pick c a b => match c.ev e with | .bool true => some (a.ev e, σ) | .bool false => some (b.ev e, σ) | _ => none
 | .alloc zero => some (.ptr σ.length 0, σ ++ [.cells zero])
 | .box n x => if ((x.ev e).cells.length == n && (x.ev e).cells.all (·.cell)) = true then some (.ptr σ.length 0, σ ++ [.cells (x.ev e).cells]) else none
 | .build zero parts => match buildCells e zero parts with | some cs => some (.agg cs, σ) | none => none
 | .mklit sz xs => if allCells sz (xs.map (·.ev e)) = true then some (.lit (xs.map (·.ev e)) true none, σ) else none
 | .mkref sz xs => if allCells sz (xs.map (·.ev e)) = true then some (.ref σ.length 0 xs.length sz, σ ++ [.cells ((xs.map (·.ev e)).flatMap AV.cells)]) else none
 | .load sh x => match loadAV sh σ (x.ev e) with | some v => some (v, σ) | none => none
 | .store n a x => match storeAV n σ (a.ev e) (x.ev e) with | some σ' => some (.tuple [], σ') | none => none
 | .nilCheck x => match x.ev e with | .ptr i o => some (.ptr i o, σ) | .lptr xs i o t => some (.lptr xs i o t, σ) | .func f a b => some (.func f a b, σ) | .yield i => some (.yield i, σ) | _ => none
 | .bin op x y => match binAV op (x.ev e) (y.ev e) with | some v => some (v, σ) | none => none
 | .eql sh neg x y => match eqSh sh (x.ev e) (y.ev e) with | some b => some (.bool (if neg then !b else b), σ) | none => none
 | .not x => match x.ev e with | .bool b => some (.bool !b, σ) | _ => none
 | .neg x => match x.ev e with | .int k n => some (.int k (k.wrap (0 - n)), σ) | _ => none
 | .conv k x => match x.ev e with | .int _ n => some (.int k (k.wrap n), σ) | _ => none
 | .mkfun f first cap => some (.func f (first.map (·.ev e)) (cap.map (·.ev e)), σ)
 | .mkmap => some (.map σ.length, σ ++ [.map []])
 | .mkslice zero bytes l c =>
  match l.ev e, c.ev e with
  | .int _ n, .int _ m => if 0 ≤ n ∧ n = m ∧ n * bytes ≤ room ∧ n ≤ room then some (.ref σ.length 0 n.toNat zero.length, σ ++ [.cells (List.replicate n.toNat zero).flatten]) else none
  | _, _ => none
 | .slicev sz x lo hi mx =>
  match lenAV 1 σ (x.ev e) with
  | none => none
  | some n =>
   match boundOr e 0 lo, boundOr e n hi, mx.map (fun m => intOf (m.ev e)) with
   | some l, some h, none => (match sliceAV sz (x.ev e) l h false with | some v => some (v, σ) | none => none)
   | some l, some h, some (some m) => if m = h ∧ hi.isSome = true then (match sliceAV sz (x.ev e) l h true with | some v => some (v, σ) | none => none) else none
   | _, _, _ => none
 | .slicea n sz x lo hi =>
  match x.ev e, boundOr e 0 lo, boundOr e n hi with
  | .ptr id off, some l, some h => if 0 ≤ l ∧ l ≤ h ∧ h ≤ n then some (.ref id (off + l.toNat * sz) (h.toNat - l.toNat) sz, σ) else none
  | _, _, _ => none
 | .faddr x off => match x.ev e with | .ptr id o => some (.ptr id (o + off), σ) | .lptr xs i o t => some (.lptr xs i (o + off) t, σ) | _ => none
 | .field x off sh => match x.ev e with | .agg cs => (match shaped sh cs off with | some v => some (v, σ) | none => none) | _ => none
 | .iaddr arr sz x i =>
  match intOf (i.ev e), arr, x.ev e with
  | some j, some n, .ptr id off => if 0 ≤ j ∧ j < n then some (.ptr id (off + j.toNat * sz), σ) else none
  | some j, some n, .lptr xs q off t => if 0 ≤ j ∧ j < n then some (.lptr xs q (off + j.toNat * sz) t, σ) else none
  | some j, none, .lit xs _ t =>
   match xs[j.toNat]? with
   | some y => if 0 ≤ j ∧ y.cells.length = sz then some (.lptr xs j.toNat 0 t, σ) else none
   | none => none
  | some j, none, .ref id off len sz' => if 0 ≤ j ∧ j < len ∧ sz' = sz then some (.ptr id (off + j.toNat * sz), σ) else none
  | _, _, _ => none
 | .index n sz sh x i =>
  match intOf (i.ev e), x.ev e with
  | some j, .agg cs => if 0 ≤ j ∧ j < n then (match shaped sh cs (j.toNat * sz) with | some v => some (v, σ) | none => none) else none
  | _, _ => none
 | .sindex x i =>
  match intOf (i.ev e), x.ev e with
  | some j, .str s => if 0 ≤ j then (match s[j.toNat]? with | some b => some (.int .u8 b.toNat, σ) | none => none) else none
  | _, _ => none
 | .lookup sh ok zero m k =>
  match lookAV sh σ (m.ev e) (k.ev e) with
  | some (some v) => some (if ok then .tuple [v, .bool true] else v, σ)
  | some none => some (if ok then .tuple [zero, .bool false] else zero, σ)
  | none => none
 | .mapset sh m k v =>
  match m.ev e with
  | .map id =>
   if (eqSh sh (k.ev e) (k.ev e)).isSome = false then none else
   match σ[id]? with
   | some (.map es) => (match setKey sh (k.ev e) (v.ev e) es with | some es' => some (.tuple [], σ.set id (.map es')) | none => none)
   | _ => none
  | _ => none
 | .srange x => match x.ev e with | .str s => some (.ptr σ.length 0, σ ++ [.siter s 0]) | _ => none
 | .snext x =>
  match x.ev e with
  | .ptr id 0 =>
   match σ[id]? with
   | some (.siter s pos) =>
    if pos < s.size then
     some (.tuple [.bool true, .int .i64 pos, .int .i32 (Utf8.decode s pos).1], σ.set id (.siter s (pos + (Utf8.decode s pos).2)))
    else some (.tuple [.bool false], σ)
   | _ => none
  | _ => none
 | .mrange x =>
  match x.ev e with
  | .map id => (match σ[id]? with | some (.map es) => some (.ptr σ.length 0, σ ++ [.miter id es.length (List.range es.length) none]) | _ => none)
  | _ => none
 | .mnext _ => none
 | .entry x =>
  match x.ev e with
  | .ptr id 0 =>
   match σ[id]? with
   | some (.miter m n _ (some i)) =>
    match σ[m]? with
    | some (.map es) =>
     if es.length = n then
      match es[i]? with
      | some (k, v) => some (.tuple [k, v], σ)
      | none => none
     else none
    | _ => none
   | _ => none
  | _ => none
 | .ext x i => match x.ev e with | .tuple vs => (match vs[i]? with | some v => some (v, σ) | none => none) | _ => none
 | .len k x => match lenAV k σ (x.ev e) with | some n => some (.int .i64 n, σ) | none => none
 | .append sz bytes x y => appendAV sz bytes σ (x.ev e) (y.ev e)
 | .apref sz bytes x y => aprefAV sz bytes σ (x.ev e) (y.ev e)
 | .copy sz x y => copyAV sz σ (x.ev e) (y.ev e)
 | .min xs => match minAV (xs.map (·.ev e)) with | some v => some (v, σ) | none => none
 | .max xs => match maxAV (xs.map (·.ev e)) with | some v => some (v, σ) | none => none
 | .call _ _ => none
mutual
def okV (m : Nat) : AV → Prop
 | .func _ first cap => okVs m first ∧ okVs m cap
 | .yield id | .ptr id _ | .ref id _ _ _ | .map id => id < m
 | .lptr xs _ _ tk | .lit xs _ tk => (∀ t, tk = some t → t < m) ∧ okVs m xs
 | .agg cs => okVs m cs
 | .tuple vs => okVs m vs
 | _ => True
def okVs (m : Nat) : List AV → Prop
 | [] => True
 | v :: vs => okV m v ∧ okVs m vs
end
def okBlk (m : Nat) : ABlk → Prop
 | .cells cs => okVs m cs
 | .map es => ∀ p ∈ es, okV m p.1 ∧ okV m p.2
 | .tok _ _ _ | .siter _ _ | .dead => True
 | .miter id _ _ _ => id < m
 | .loop _ _ _ _ _ _ => False
mutual
def snap (σ : St) (m : Nat) : Nat → AV → Option AV
 | d, .func f first cap => match snaps σ m d first, snaps σ m d cap with | some a, some b => some (.func f a b) | _, _ => none
 | _, .yield id => if id < m then some (.yield id) else none
 | _, .ptr id off => if id < m then some (.ptr id off) else none
 | _, .map id => if id < m then some (.map id) else none
 | 0, .ref id off len sz => if id < m then some (.ref id off len sz) else none
 | d + 1, .ref id off len sz =>
  if id < m then some (.ref id off len sz) else
  match view σ (.ref id off len sz) with
  | some xs => if (decide (0 < sz) && allCells sz xs) = true then (match snaps σ m d xs with | some ys => some (.lit ys false none) | none => none) else none
  | none => none
 | d, .lit xs full tk =>
  match snaps σ m d xs with
  | some ys => some (.lit ys full (tk.filter (· < m)))
  | none => none
 | d, .agg cs => match snaps σ m d cs with | some ys => some (.agg ys) | none => none
 | d, .tuple vs => match snaps σ m d vs with | some ys => some (.tuple ys) | none => none
 | d, .lptr xs i off tk => match snaps σ m d xs with | some ys => some (.lptr ys i off (tk.filter (· < m))) | none => none
 | _, v => some v
termination_by d v => (d, SizeOf.sizeOf v)
def snaps (σ : St) (m : Nat) : Nat → List AV → Option (List AV)
 | _, [] => some []
 | d, v :: vs => match snap σ m d v, snaps σ m d vs with | some a, some b => some (a :: b) | _, _ => none
termination_by d vs => (d, SizeOf.sizeOf vs)
end
structure Out where
 j : Option AJump
 env : Env
 σ : St
 v : AV
structure ARead where
 lo : Nat
 hi : Nat
 op : AOp
 env : Env
 v : AV
inductive Task where
 | code (c : ACode) (env : Env) (σ : St)
 | ops (os : List AOper) (env : Env) (σ : St)
 | dops (os : List ADOper) (env : Env) (σ : St) (next : Nat) (hist : List St) (reads : List ARead)
 | call (f : FuncId) (args : List AV) (σ : St)
 | callv (f : AV) (args : List AV) (σ : St)
 | chain (az : List ACode) (env : Env) (σ : St)
def AOper.wanted (o : AOper) (env : Env) : Option Bool :=
 match o.guard with
 | none => some true
 | some (t, want) =>
  match Env.get env t with
  | .bool b => some (b == want)
  | .tuple [] => some false
  | _ => none
def allocsOf (os : List ADOper) : List ABlk :=
 os.filterMap fun o => match o.o.op with | .alloc z => some (.cells z) | _ => none
def ARead.ok (r : ARead) (hist : List St) : Prop :=
 ∀ j s, r.lo ≤ j → j ≤ r.hi → hist[j]? = some s → aop r.op r.env s = some (r.v, s)
def AOp.reads : AOp → Bool
 | .load .. | .lookup .. | .len .. | .slicev .. | .entry _ => true
 | _ => false
def AOp.allocs : AOp → Bool
 | .alloc _ => true
 | _ => false
def AOp.calls : AOp → Bool
 | .call .. | .mnext _ => true
 | _ => false
def AOp.acts : AOp → Bool
 | .store .. | .append .. | .apref .. | .mkref .. | .copy .. | .box .. | .mkmap | .mkslice .. | .mapset .. | .srange _ | .snext _ | .mrange _ | .mnext _ | .call .. => true
 | _ => false
def argsEnv : Nat → List AV → Env
 | _, [] => []
 | k, v :: vs => (k, v) :: argsEnv (k + 1) vs
def resAV (env : Env) (σ : St) : List ARes → Option (List AV)
 | [] => some []
 | .tmp t :: rs => (resAV env σ rs).map (Env.get env t :: ·)
 | .cell t sh :: rs =>
  match loadAV sh σ (Env.get env t), resAV env σ rs with
  | some v, some vs => some (v :: vs)
  | _, _ => none
def resOf (rs : List ARes) (env : Env) (σ : St) : Option AV :=
 match resAV env σ rs with
 | some [v] => some v
 | some vs => some (.tuple vs)
 | none => none
def blkKept (σ σ' : St) (m i : Nat) : Prop :=
 σ'[i]? = σ[i]? ∨ (∃ b, σ'[i]? = some b ∧ okBlk m b) ∨
  ∃ st pe st' pe' env ps a b, σ[i]? = some (.loop st pe env ps a b) ∧ σ'[i]? = some (.loop st' pe' env ps a b)
mutual
def clr : AV → AV
 | .func f a b => .func f (clrs a) (clrs b)
 | .lptr xs i off tk => .lptr (clrs xs) i off tk
 | .lit xs full tk => .lit (clrs xs) (full && tk.isSome) tk
 | .agg cs => .agg (clrs cs)
 | .tuple vs => .tuple (clrs vs)
 | .undef => .undef
 | .int k n => .int k n
 | .bool b => .bool b
 | .str s => .str s
 | .nilFunc => .nilFunc
 | .yield i => .yield i
 | .ptr i o => .ptr i o
 | .nilPtr => .nilPtr
 | .ref i o l s => .ref i o l s
 | .map i => .map i
 | .nilMap => .nilMap
def clrs : List AV → List AV
 | [] => []
 | v :: vs => clr v :: clrs vs
end
def Leave (σ σ' : St) (v : AV) (Q : Out → Prop) : Prop :=
 Q ⟨none, [], σ', v⟩ ∨
 ∃ d v' v'', snap σ' σ.length d v = some v' ∧ (v'' = v' ∨ v'' = clr v') ∧ (∀ i, i < σ.length → blkKept σ σ' σ.length i) ∧ σ.length ≤ σ'.length ∧ Q ⟨none, [], σ'.take σ.length, v''⟩
def Trims (σ : St) (env' : Env) (σ' : St) (env'' : Env) (m : Nat) : Prop :=
 σ.length ≤ m ∧ m ≤ σ'.length ∧ (∀ p ∈ env'', p.2 = Env.get env' p.1 ∧ okV m p.2) ∧
 ∀ i, i < m → (i < σ.length ∧ blkKept σ σ' m i) ∨ ∃ b, σ'[i]? = some b ∧ okBlk m b
def bindPs (env : Env) : List Nat → List AV → Env
 | p :: ps, v :: vs => bindPs (Env.put env (some p) v) ps vs
 | _, _ => env
mutual
def Scal : AV → Prop
 | .int _ _ | .bool _ | .str _ => True
 | .lit [] _ none => True
 | .agg cs => Scals cs
 | .tuple vs => Scals vs
 | _ => False
def Scals : List AV → Prop
 | [] => True
 | v :: vs => Scal v ∧ Scals vs
end
def Thin (σ : St) (m : Nat) (v v' : AV) : Prop := (v' = v ∧ okV m v) ∨ ∃ d v1, snap σ m d v = some v1 ∧ (v' = v1 ∨ v' = clr v1)
def Thins (σ : St) (m : Nat) : List AV → List AV → Prop
 | [], [] => True
 | a :: az, b :: bs => Thin σ m a b ∧ Thins σ m az bs
 | _, _ => False
def ThinE (σ : St) (m : Nat) (env : Env) : Env → Prop
 | [] => True
 | (t, v) :: e => Thin σ m (Env.get env t) v ∧ ThinE σ m env e
def ThinB (σ : St) (env' : Env) (σ' : St) (m i : Nat) (b : ABlk) : Prop :=
 (i < σ.length ∧ blkKept σ σ' m i ∧ σ'[i]? = some b) ∨ (σ'[i]? = some b ∧ okBlk m b) ∨
  ∃ cs cs', σ'[i]? = some (.cells cs) ∧ b = .cells cs' ∧ Thins σ' m cs cs' ∧ (σ.length ≤ i ∨ ∃ t off, Env.get env' t = .ptr i off)
def Trims2 (σ : St) (env' : Env) (σ' : St) (env'' : Env) (σ'' : St) : Prop :=
 σ.length ≤ σ''.length ∧ σ''.length ≤ σ'.length ∧ ThinE σ' σ''.length env' env'' ∧ ∀ i, i < σ''.length → ∃ b, σ''[i]? = some b ∧ ThinB σ env' σ' σ''.length i b
mutual
def noTok (t : Nat) : AV → Prop
 | .func _ first cap => noToks t first ∧ noToks t cap
 | .lptr xs _ _ tk | .lit xs _ tk => tk ≠ some t ∧ noToks t xs
 | .agg cs => noToks t cs
 | .tuple vs => noToks t vs
 | _ => True
def noToks (t : Nat) : List AV → Prop
 | [] => True
 | v :: vs => noTok t v ∧ noToks t vs
end
def noTokB (t : Nat) : ABlk → Prop
 | .cells cs => noToks t cs
 | .map es => ∀ p ∈ es, noTok t p.1 ∧ noTok t p.2
 | .loop _ _ _ _ _ _ => False
 | _ => True
def seqs : List ACode → ACode → ACode
 | [], c => c
 | a :: az, c => .seq a (seqs az c)
def Thaws (n0 : Nat) (env : Env) (σ : St) (env' : Env) (σ' : St) : Prop :=
 ∃ t p xs sz, n0 ≤ t ∧ allCells sz xs = true ∧ σ[t]? = some (.tok sz xs.length true) ∧ env = (p, .lit xs false (some t)) :: env.tail ∧ noToks t xs ∧ (∀ q ∈ env.tail, noTok t q.2) ∧ (∀ i b, i ≠ t → σ[i]? = some b → noTokB t b) ∧
  env' = (p, .ref t 0 xs.length sz) :: env.tail ∧ σ' = σ.set t (.cells (xs.flatMap AV.cells))
inductive Run (T : FuncId → Option AFunc) : Task → (Out → Prop) → Prop where
 | mono {t Q R} (h : Run T t R) (hq : ∀ o, R o → Q o) : Run T t Q
 | skip {env σ Q} (h : Q ⟨none, env, σ, .undef⟩) : Run T (.code .skip env σ) Q
 | jump {j env σ Q} (h : Q ⟨some j, env, σ, .undef⟩) : Run T (.code (.jump j) env σ) Q
 | seq {a b env σ Q R} (h : Run T (.code a env σ) R) (h1 : ∀ o, R o → o.j = none → Run T (.code b o.env o.σ) Q) (h2 : ∀ o, R o → o.j ≠ none → Q o) :
   Run T (.code (.seq a b) env σ) Q
 | cond {c x y env σ Q} (b : Bool) (hc : c.ev env = .bool b) (h : Run T (.code (if b then x else y) env σ) Q) : Run T (.code (.cond c x y) env σ) Q
 | block {id b env σ Q R} (h : Run T (.code b env σ) R) (h1 : ∀ o, R o → Q (if o.j = some (.exit id) then { o with j := none } else o)) :
   Run T (.code (.block id b) env σ) Q
 | loop {b env σ Q R} (h : Run T (.code b env σ) R) (h1 : ∀ o, R o → o.j = none → Run T (.code (.loop b) o.env o.σ) Q) (h2 : ∀ o, R o → o.j ≠ none → Q o) :
   Run T (.code (.loop b) env σ) Q
 | scope {b env σ Q} (h : Run T (.code b env σ) Q) : Run T (.code (.scope b) env σ) Q
 | reg {os env σ Q} (h : Run T (.ops os env σ) Q) : Run T (.code (.reg os) env σ) Q
 | dreg {os env σ Q} (h : Run T (.dops os env (σ ++ allocsOf os) σ.length [σ ++ allocsOf os] []) Q) : Run T (.code (.dreg os) env σ) Q
 | rangeFunc {f g first cap ps a b env σ Q R} (hf : f.ev env = .func g first cap)
   (h : Run T (.call g (first ++ [.yield σ.length] ++ cap) (σ ++ [.loop .ready none env ps a b])) R)
   (h1 : ∀ o, R o → ∃ st pend env' ps' a' b', o.σ[σ.length]? = some (.loop st pend env' ps' a' b') ∧ st ≠ .busy ∧ Q ⟨pend, env, o.σ.set σ.length .dead, .undef⟩) :
   Run T (.code (.rangeFunc f ps a b) env σ) Q
 /-- What the code has made and nobody needs is forgotten. -/
 | trim {c env σ Q R} (h : Run T (.code c env σ) R) (h1 : ∀ o, R o → ∃ env' m, Trims σ o.env o.σ env' m ∧ Q ⟨o.j, env', o.σ.take m, o.v⟩) : Run T (.code c env σ) Q
 | trim2 {c env σ Q R} (h : Run T (.code c env σ) R) (h1 : ∀ o, R o → Q o ∨ ∃ env'' σ'', Trims2 σ o.env o.σ env'' σ'' ∧ Q ⟨o.j, env'', σ'', o.v⟩) : Run T (.code c env σ) Q
 /-- A call that needs nothing of the state. -/
 | frame {f args args0 σ Q R} (hf : okVs 0 args) (h0 : args0 = args ∨ args0 = clrs args) (h : Run T (.call f args0 []) R) (h1 : ∀ o, R o → o.σ = [] ∧ Q ⟨none, [], σ, o.v⟩) : Run T (.call f args σ) Q
 | frameS {f args args0 as1 d σ Q R} (hf : snaps σ 0 d args = some as1) (h0 : args0 = as1 ∨ args0 = clrs as1) (h : Run T (.call f args0 []) R) (h1 : ∀ o, R o → o.σ = [] ∧ Scal o.v ∧ Q ⟨none, [], σ, o.v⟩) : Run T (.call f args σ) Q
 | chainNil {env σ Q} (h : Q ⟨none, env, σ, .undef⟩) : Run T (.chain [] env σ) Q
 | chainCons {a az env σ Q R} (h : Run T (.code a env σ) R) (h1 : ∀ o, R o → o.j = none → Run T (.chain az o.env o.σ) Q) (h2 : ∀ o, R o → o.j ≠ none → Q o) : Run T (.chain (a :: az) env σ) Q
 | chain {a0 az c env σ Q R} {S : Env → St → Prop} (h : Run T (.chain (a0 :: az) env σ) R) (h1 : ∀ o, R o → o.j ≠ none → Q o)
   (h2 : ∀ o, R o → o.j = none → ∃ env1 σ1 env2 σ2, Trims2 σ o.env o.σ env1 σ1 ∧ ((env2 = env1 ∧ σ2 = σ1) ∨ Thaws σ.length env1 σ1 env2 σ2) ∧ S env2 σ2)
   (h3 : ∀ env2 σ2, S env2 σ2 → Run T (.code c env2 σ2) Q) : Run T (.code (seqs (a0 :: az) c) env σ) Q
 /-- A full slice is given a token. -/
 | ghost {c env σ Q} (t sz : Nat) (xs : List AV) (ht : Env.get env t = .lit xs true none)
   (h : Run T (.code c ((t, .lit xs false (some σ.length)) :: env) (σ ++ [.tok sz xs.length false])) Q) : Run T (.code c env σ) Q
 /-- An environment stands for what it has at each temporary. -/
 | reenv {c env env' σ Q} (he : ∀ t, Env.get env t = Env.get env' t) (h : Run T (.code c env' σ) Q) : Run T (.code c env σ) Q
 /-- Less may be known of the temporaries. -/
 | weak {c env env' σ Q} (he : ∀ t, Env.get env' t = .undef ∨ Env.get env' t = Env.get env t ∨ Env.get env' t = clr (Env.get env t)) (h : Run T (.code c env' σ) Q) : Run T (.code c env σ) Q
 | reops {os env env' σ Q} (he : ∀ t, Env.get env t = Env.get env' t) (h : Run T (.ops os env' σ) Q) : Run T (.ops os env σ) Q
 | nil {env σ Q} (h : Q ⟨none, env, σ, .undef⟩) : Run T (.ops [] env σ) Q
 | off {o os env σ Q} (hw : o.wanted env = some false) (h : Run T (.ops os (Env.put env o.dst (.tuple [])) σ) Q) : Run T (.ops (o :: os) env σ) Q
 | step {o os env σ v σ' Q} (hw : o.wanted env = some true) (ha : aop o.op env σ = some (v, σ')) (h : Run T (.ops os (Env.put env o.dst v) σ') Q) :
   Run T (.ops (o :: os) env σ) Q
 | stepc {o os env σ f args Q R} (hw : o.wanted env = some true) (ho : o.op = .call f args) (hc : Run T (.callv (f.ev env) (args.map (·.ev env)) σ) R)
   (h : ∀ r, R r → Run T (.ops os (Env.put env o.dst r.v) r.σ) Q) : Run T (.ops (o :: os) env σ) Q
 | stepm {o os env σ x id m n es left last Q} (hw : o.wanted env = some true) (ho : o.op = .mnext x) (hx : x.ev env = .ptr id 0) (hl : σ[id]? = some (.miter m n left last))
   (he : σ[m]? = some (.map es)) (hn : es.length = n)
   (h0 : left = [] → Run T (.ops os (Env.put env o.dst (.tuple [.bool false])) σ) Q)
   (h1 : ∀ i k v, i ∈ left → es[i]? = some (k, v) → Run T (.ops os (Env.put env o.dst (.tuple [.bool true, k, v])) (σ.set id (.miter m n (left.filter (· ≠ i)) (some i)))) Q) :
   Run T (.ops (o :: os) env σ) Q
 | dnil {env σ next hist reads Q} (hr : ∀ r ∈ reads, ARead.ok r hist) (h : Q ⟨none, env, σ, .undef⟩) : Run T (.dops [] env σ next hist reads) Q
 | doff {o os env σ next hist reads Q} (hw : o.o.wanted env = some false)
   (h : Run T (.dops os (Env.put env o.o.dst (.tuple [])) σ (if o.o.op.allocs then next + 1 else next) (if o.o.op.acts then hist ++ [σ] else hist) reads) Q) :
   Run T (.dops (o :: os) env σ next hist reads) Q
 | dalloc {o os env σ next hist reads z Q} (hw : o.o.wanted env = some true) (ho : o.o.op = .alloc z)
   (h : Run T (.dops os (Env.put env o.o.dst (.ptr next 0)) σ (next + 1) hist reads) Q) : Run T (.dops (o :: os) env σ next hist reads) Q
 | dpure {o os env σ next hist reads v Q} (hw : o.o.wanted env = some true) (hk : (o.o.op.acts || o.o.op.allocs || o.o.op.reads) = false) (ha : aop o.o.op env σ = some (v, σ))
   (h : Run T (.dops os (Env.put env o.o.dst v) σ next hist reads) Q) : Run T (.dops (o :: os) env σ next hist reads) Q
 | dread {o os env σ next hist reads v Q} (hw : o.o.wanted env = some true) (hk : o.o.op.reads = true) (ha : aop o.o.op env σ = some (v, σ))
   (h : Run T (.dops os (Env.put env o.o.dst v) σ next hist (⟨o.lo, o.hi, o.o.op, env, v⟩ :: reads)) Q) : Run T (.dops (o :: os) env σ next hist reads) Q
 | dact {o os env σ next hist reads v σ' Q} (hw : o.o.wanted env = some true) (hk : o.o.op.acts = true) (ha : aop o.o.op env σ = some (v, σ'))
   (h : Run T (.dops os (Env.put env o.o.dst v) σ' next (hist ++ [σ']) reads) Q) : Run T (.dops (o :: os) env σ next hist reads) Q
 | dcall {o os env σ next hist reads f args v σ' Q} (hw : o.o.wanted env = some true) (ho : o.o.op = .call f args)
   (hc : Run T (.callv (f.ev env) (args.map (·.ev env)) σ) fun r => r.v = v ∧ r.σ = σ')
   (h : Run T (.dops os (Env.put env o.o.dst v) σ' next (hist ++ [σ']) reads) Q) : Run T (.dops (o :: os) env σ next hist reads) Q
 | callf {f first cap args σ Q} (h : Run T (.call f (first ++ args ++ cap) σ) Q) : Run T (.callv (.func f first cap) args σ) Q
 | round {id args σ env ps a b Q R S} (hl : σ[id]? = some (.loop .ready none env ps a b)) (hn : ps.length = args.length)
   (h : Run T (.code a (bindPs env ps args) σ) R)
   (h0 : ∀ o, R o → o.j = none ∧ o.σ[id]? = some (.loop .ready none env ps a b))
   (h1 : ∀ o, R o → Run T (.code b o.env (o.σ.set id (.loop .busy none env ps a b))) S)
   (h2 : ∀ o, S o → o.σ[id]? = some (.loop .busy none env ps a b) ∧
    Q ⟨none, [], o.σ.set id (.loop (if o.j = none then .ready else .done) o.j env ps a b), .bool (decide (o.j = none))⟩) :
   Run T (.callv (.yield id) args σ) Q
 | call {f args σ af Q R} (hf : T f = some af) (hn : args.length ≤ af.ntmps) (h : Run T (.code af.body (argsEnv 0 args) σ) R)
   (h1 : ∀ o, R o → (o.j = none ∨ o.j = some .ret) ∧ ∃ v, resOf af.results o.env o.σ = some v ∧ Leave σ o.σ v Q) : Run T (.call f args σ) Q
def top : Nat := 2 ^ 60
def Env.has : Env → Nat → Bool
 | [], _ => false
 | (k, _) :: e, t => if k = t then true else Env.has e t
def Env.tidyTo (acc : Env) : Env → Env
 | [] => acc
 | (k, v) :: e => if Env.has acc k then Env.tidyTo acc e else Env.tidyTo (acc ++ [(k, v)]) e
def Env.tidy (e : Env) : Env := Env.tidyTo [] e
def touch (q : AOp) (e : Env) : Nat :=
 match q with
 | .store _ a _ => match a.ev e with | .ptr id _ => id | _ => top
 | .mapset _ m _ _ => match m.ev e with | .map id => id | _ => top
 | .copy _ x _ => match x.ev e with | .ref id _ _ _ => id | _ => top
 | .snext x => match x.ev e with | .ptr id _ => id | _ => top
 | .append _ _ x _ => match x.ev e with | .lit _ false (some t) => t | _ => top
 | _ => top
mutual
def okVB (m : Nat) : Nat → AV → Bool
 | 0, _ => false
 | d + 1, v =>
  match v with
  | .func _ a b => okVBs m d a && okVBs m d b
  | .yield id | .ptr id _ | .ref id _ _ _ | .map id => decide (id < m)
  | .lptr xs _ _ tk | .lit xs _ tk => (match tk with | some t => decide (t < m) | none => true) && okVBs m d xs
  | .agg cs => okVBs m d cs
  | .tuple vs => okVBs m d vs
  | _ => true
def okVBs (m : Nat) : Nat → List AV → Bool
 | 0, _ => false
 | _ + 1, [] => true
 | d + 1, v :: vs => okVB m d v && okVBs m d vs
end
def okBlkB (m : Nat) : ABlk → Bool
 | .cells cs => okVBs m 10000 cs
 | .map es => es.all fun p => okVB m 10000 p.1 && okVB m 10000 p.2
 | .miter id _ _ _ => decide (id < m)
 | _ => true
def keptB (m : Nat) : List ABlk → Nat → Nat → Bool
 | [], _, _ => true
 | b :: bs, i, lo => if i < m then (decide (i < lo) || okBlkB m b) && keptB m bs (i + 1) lo else true
mutual
def snapF (σ : St) (m : Nat) : Nat → Nat → AV → Option AV
 | 0, _, _ => none
 | k + 1, d, v =>
  match v with
  | .func f first cap => match snapsF σ m k d first, snapsF σ m k d cap with | some a, some b => some (.func f a b) | _, _ => none
  | .yield id => if id < m then some (.yield id) else none
  | .ptr id off => if id < m then some (.ptr id off) else none
  | .map id => if id < m then some (.map id) else none
  | .ref id off len sz =>
   if id < m then some (.ref id off len sz) else
   match d with
   | 0 => none
   | d + 1 =>
    match view σ (.ref id off len sz) with
    | some xs => if (decide (0 < sz) && allCells sz xs) = true then (match snapsF σ m k d xs with | some ys => some (.lit ys false none) | none => none) else none
    | none => none
  | .lit xs full tk => match snapsF σ m k d xs with | some ys => some (.lit ys full (tk.filter (· < m))) | none => none
  | .agg cs => match snapsF σ m k d cs with | some ys => some (.agg ys) | none => none
  | .tuple vs => match snapsF σ m k d vs with | some ys => some (.tuple ys) | none => none
  | .lptr xs i off tk => match snapsF σ m k d xs with | some ys => some (.lptr ys i off (tk.filter (· < m))) | none => none
  | .undef => some .undef
  | .int k n => some (.int k n)
  | .bool b => some (.bool b)
  | .str s => some (.str s)
  | .nilFunc => some .nilFunc
  | .nilPtr => some .nilPtr
  | .nilMap => some .nilMap
def snapsF (σ : St) (m : Nat) : Nat → Nat → List AV → Option (List AV)
 | 0, _, _ => none
 | _ + 1, _, [] => some []
 | k + 1, d, v :: vs => match snapF σ m k d v, snapsF σ m k d vs with | some a, some b => some (a :: b) | _, _ => none
end
mutual
def eqVF : Nat → AV → AV → Bool
 | 0, _, _ => false
 | k + 1, a, b =>
  match a, b with
  | .undef, .undef | .nilFunc, .nilFunc | .nilPtr, .nilPtr | .nilMap, .nilMap => true
  | .int k n, .int l m => decide (k = l) && decide (n = m)
  | .bool x, .bool y => x == y
  | .str x, .str y => decide (x = y)
  | .func f a b, .func g c d => decide (f = g) && eqVsF k a c && eqVsF k b d
  | .yield i, .yield j | .map i, .map j => decide (i = j)
  | .ptr i o, .ptr j p => decide (i = j) && decide (o = p)
  | .lptr xs i o t, .lptr ys j p u => eqVsF k xs ys && decide (i = j) && decide (o = p) && decide (t = u)
  | .lit xs f t, .lit ys g u => eqVsF k xs ys && (f == g) && decide (t = u)
  | .ref a b c d, .ref e f g h => decide (a = e) && decide (b = f) && decide (c = g) && decide (d = h)
  | .agg xs, .agg ys => eqVsF k xs ys
  | .tuple xs, .tuple ys => eqVsF k xs ys
  | _, _ => false
def eqVsF : Nat → List AV → List AV → Bool
 | 0, _, _ => false
 | _ + 1, [], [] => true
 | k + 1, a :: x, b :: y => eqVF k a b && eqVsF k x y
 | _ + 1, _, _ => false
end
def readOk (r : ARead) : List St → Nat → Bool
 | [], _ => true
 | s :: ss, j =>
  (if decide (r.lo ≤ j) && decide (j ≤ r.hi) then (match aop r.op r.env s with | some (v, _) => eqVF 100000 v r.v | none => false) else true) && readOk r ss (j + 1)
def fMov (x : AOpd) (e : Env) (σ : St) : Option (AV × St) := some (x.ev e, σ)
def fPick (c a b : AOpd) (e : Env) (σ : St) : Option (AV × St) := match c.ev e with | .bool true => some (a.ev e, σ) | .bool false => some (b.ev e, σ) | _ => none
def fAlloc (zero : List AV) (σ : St) : Option (AV × St) := some (.ptr σ.length 0, σ ++ [.cells zero])
def fBox (n : Nat) (v : AV) (σ : St) : Option (AV × St) := if (v.cells.length == n && v.cells.all (·.cell)) = true then some (.ptr σ.length 0, σ ++ [.cells v.cells]) else none
def fBuild (zero : List AV) (parts : List (Nat × Nat × AOpd)) (e : Env) (σ : St) : Option (AV × St) := match buildCells e zero parts with | some cs => some (.agg cs, σ) | none => none
def fMklit (sz : Nat) (vs : List AV) (σ : St) : Option (AV × St) := if allCells sz vs = true then some (.lit vs true none, σ) else none
def fLoad (sh : Option Nat) (σ : St) (v : AV) : Option (AV × St) := match loadAV sh σ v with | some v => some (v, σ) | none => none
def fStore (n : Nat) (σ : St) (a v : AV) : Option (AV × St) := match storeAV n σ a v with | some σ' => some (.tuple [], σ') | none => none
def fAdd (σ : St) (x y : AV) : Option (AV × St) := match x, y with | .int k a, .int k' b => if k = k' then some (.int k (k.wrap (a + b)), σ) else none | _, _ => none
def fSub (σ : St) (x y : AV) : Option (AV × St) := match x, y with | .int k a, .int k' b => if k = k' then some (.int k (k.wrap (a - b)), σ) else none | _, _ => none
def fMul (σ : St) (x y : AV) : Option (AV × St) := match x, y with | .int k a, .int k' b => if k = k' then some (.int k (k.wrap (a * b)), σ) else none | _, _ => none
def fLss (σ : St) (x y : AV) : Option (AV × St) := match x, y with | .int k a, .int k' b => if k = k' then some (.bool (decide (a < b)), σ) else none | _, _ => none
def fLeq (σ : St) (x y : AV) : Option (AV × St) := match x, y with | .int k a, .int k' b => if k = k' then some (.bool (decide (a ≤ b)), σ) else none | _, _ => none
def fGtr (σ : St) (x y : AV) : Option (AV × St) := match x, y with | .int k a, .int k' b => if k = k' then some (.bool (decide (a > b)), σ) else none | _, _ => none
def fGeq (σ : St) (x y : AV) : Option (AV × St) := match x, y with | .int k a, .int k' b => if k = k' then some (.bool (decide (a ≥ b)), σ) else none | _, _ => none
def fBinR (op : BinOp) (σ : St) (x y : AV) : Option (AV × St) := match binAV op x y with | some v => some (v, σ) | none => none
def fBin (op : BinOp) (σ : St) (x y : AV) : Option (AV × St) :=
 match op with
 | .add => fAdd σ x y
 | .sub => fSub σ x y
 | .mul => fMul σ x y
 | .lss => fLss σ x y
 | .leq => fLeq σ x y
 | .gtr => fGtr σ x y
 | .geq => fGeq σ x y
 | op => fBinR op σ x y
def fEql (sh : EqTy) (neg : Bool) (σ : St) (x y : AV) : Option (AV × St) := match eqSh sh x y with | some b => some (.bool (if neg then !b else b), σ) | none => none
def fNot (σ : St) (x : AV) : Option (AV × St) := match x with | .bool b => some (.bool !b, σ) | _ => none
def fFaddr (off : Nat) (σ : St) (x : AV) : Option (AV × St) := match x with | .ptr id o => some (.ptr id (o + off), σ) | .lptr xs i o t => some (.lptr xs i (o + off) t, σ) | _ => none
def fField (off : Nat) (sh : Option Nat) (σ : St) (x : AV) : Option (AV × St) := match x with | .agg cs => (match shaped sh cs off with | some v => some (v, σ) | none => none) | _ => none
def fExt (i : Nat) (σ : St) (x : AV) : Option (AV × St) := match x with | .tuple vs => (match vs[i]? with | some v => some (v, σ) | none => none) | _ => none
def fLen (k : Nat) (σ : St) (x : AV) : Option (AV × St) := match lenAV k σ x with | some n => some (.int .i64 n, σ) | none => none
def fNil (σ : St) (x : AV) : Option (AV × St) := match x with | .ptr i o => some (.ptr i o, σ) | .lptr xs i o t => some (.lptr xs i o t, σ) | .func f a b => some (.func f a b, σ) | .yield i => some (.yield i, σ) | _ => none
def aopF (op : AOp) (e : Env) (σ : St) : Option (AV × St) :=
 match op with
 | .mov x => fMov x e σ
 | .pick c a b => fPick c a b e σ
 | .alloc z => fAlloc z σ
 | .box n x => fBox n (x.ev e) σ
 | .build z ps => fBuild z ps e σ
 | .mklit n xs => fMklit n (xs.map (·.ev e)) σ
 | .load sh x => fLoad sh σ (x.ev e)
 | .store n a x => fStore n σ (a.ev e) (x.ev e)
 | .nilCheck x => fNil σ (x.ev e)
 | .bin op x y => fBin op σ (x.ev e) (y.ev e)
 | .eql sh n x y => fEql sh n σ (x.ev e) (y.ev e)
 | .not x => fNot σ (x.ev e)
 | .faddr x o => fFaddr o σ (x.ev e)
 | .field x o sh => fField o sh σ (x.ev e)
 | .ext x i => fExt i σ (x.ev e)
 | .len k x => fLen k σ (x.ev e)
 | .append sz b x y => appendAV sz b σ (x.ev e) (y.ev e)
 | op => aop op e σ
section
variable (callv : AV → List AV → St → Option (AV × St × Nat))
def execOps : List AOper → Env → St → Nat → Option (Env × St × Nat)
 | [], e, σ, lo => some (e, σ, lo)
 | o :: os, e, σ, lo =>
  match o.wanted e with
  | some true =>
   match o.op with
   | .call f args =>
    match callv (f.ev e) (args.map (·.ev e)) σ with
    | some (v, σ', l) => execOps os (Env.put e o.dst v) σ' (Nat.min lo l)
    | none => none
   | op =>
    match aopF op e σ with
    | some (v, σ') => execOps os (Env.put e o.dst v) σ' (Nat.min lo (touch op e))
    | none => none
  | some false => execOps os (Env.put e o.dst (.tuple [])) σ lo
  | none => none
def execD : List ADOper → Env → St → Nat → List St → List ARead → Nat → Option (Env × St × Nat)
 | [], e, σ, _, hist, reads, lo => if reads.all (fun r => readOk r hist 0) = true then some (e, σ, lo) else none
 | d :: ds, e, σ, next, hist, reads, lo =>
  match d.o.wanted e with
  | some true =>
   match d.o.op with
   | .call f args =>
    match callv (f.ev e) (args.map (·.ev e)) σ with
    | some (v, σ', l) => execD ds (Env.put e d.o.dst v) σ' next (hist ++ [σ']) reads (Nat.min lo l)
    | none => none
   | .alloc _ => execD ds (Env.put e d.o.dst (.ptr next 0)) σ (next + 1) hist reads lo
   | op =>
    match aopF op e σ with
    | some (v, σ') =>
     if op.acts = true then execD ds (Env.put e d.o.dst v) σ' next (hist ++ [σ']) reads (Nat.min lo (touch op e))
     else if op.reads = true then execD ds (Env.put e d.o.dst v) σ next hist (⟨d.lo, d.hi, op, e, v⟩ :: reads) lo
     else execD ds (Env.put e d.o.dst v) σ next hist reads lo
    | none => none
  | some false => execD ds (Env.put e d.o.dst (.tuple [])) σ (if d.o.op.allocs then next + 1 else next) (if d.o.op.acts then hist ++ [σ] else hist) reads lo
  | none => none
end
def isRet : Option AJump → Bool
 | none | some .ret => true
 | _ => false
section
variable (T : FuncId → Option AFunc) (M : FuncId → List AV → Option AV) (E : ACode → Env → St → Option (Option AJump × Env × St × Nat))
def callE (f : FuncId) (args : List AV) (σ : St) : Option (AV × St × Nat) :=
 match M f args with
 | some v => some (v, σ, top)
 | none =>
 match T f with
 | some af =>
  if args.length ≤ af.ntmps then
   match E af.body (argsEnv 0 args) σ with
   | some (j, e, σ1, lo) =>
    if isRet j = true then
     match resOf af.results e σ1 with
     | some v =>
      match snapF σ1 σ.length 100000 20 v with
      | some v' => if keptB σ.length σ1 0 lo = true then some (v', σ1.take σ.length, lo) else some (v, σ1, lo)
      | none => some (v, σ1, lo)
     | none => none
    else none
   | none => none
  else none
 | none => none
def callV (f : AV) (args : List AV) (σ : St) : Option (AV × St × Nat) :=
 match f with
 | .func f first cap => callE T M E f (first ++ args ++ cap) σ
 | .yield id =>
  match σ[id]? with
  | some (.loop .ready none env ps a b) =>
   if ps.length = args.length then
    match E a (bindPs env ps args) σ with
    | some (none, e1, σ1, l1) =>
     match σ1[id]? with
     | some (.loop .ready none _ _ _ _) =>
      match E b e1 (σ1.set id (.loop .busy none env ps a b)) with
      | some (j, _, σ2, l2) =>
       match σ2[id]? with
       | some (.loop .busy none _ _ _ _) =>
        match j with
        | none => some (.bool true, σ2.set id (.loop .ready none env ps a b), Nat.min id (Nat.min l1 l2))
        | some j => some (.bool false, σ2.set id (.loop .done (some j) env ps a b), Nat.min id (Nat.min l1 l2))
       | _ => none
      | none => none
     | _ => none
    | _ => none
   else none
  | _ => none
 | _ => none
end
def exitJ (id : Nat) : Option AJump → Option AJump
 | some (.exit i) => if i = id then none else some (.exit i)
 | j => j
abbrev Res := Option (Option AJump × Env × St × Nat)
def eReg (r : Option (Env × St × Nat)) : Res := match r with | some (e', σ', lo) => some (none, e', σ', lo) | none => none
def eLow (lo : Nat) (r : Res) : Res := match r with | some (j, e2, σ2, l2) => some (j, e2, σ2, Nat.min lo l2) | none => none
def eSeq (E : ACode → Env → St → Res) (b : ACode) (r : Res) : Res :=
 match r with
 | some (none, e1, σ1, lo) => eLow lo (E b e1 σ1)
 | r => r
def eLoop (E : ACode → Env → St → Res) (b : ACode) (r : Res) : Res :=
 match r with
 | some (none, e1, σ1, lo) => eLow lo (E (.loop b) (Env.tidy e1) σ1)
 | r => r
def eCond (x : AV) (r q : Res) : Res := match x with | .bool true => r | .bool false => q | _ => none
def eBlock (id : Nat) (r : Res) : Res := match r with | some (j, e1, σ1, lo) => some (exitJ id j, e1, σ1, lo) | none => none
def eRangeEnd (e : Env) (n : Nat) (r : Option (AV × St × Nat)) : Res :=
 match r with
 | some (_, σ1, lo) =>
  match σ1[n]? with
  | some (.loop .ready pend _ _ _ _) => some (pend, e, σ1.set n .dead, lo)
  | some (.loop .done pend _ _ _ _) => some (pend, e, σ1.set n .dead, lo)
  | _ => none
 | none => none
def eRange (T : FuncId → Option AFunc) (M : FuncId → List AV → Option AV) (E : ACode → Env → St → Res) (f : AV) (ps : List Nat) (a b : ACode) (e : Env) (σ : St) : Res :=
 match f with
 | .func g first cap => eRangeEnd e σ.length (callE T M E g (first ++ [.yield σ.length] ++ cap) (σ ++ [.loop .ready none e ps a b]))
 | _ => none
def execStep (T : FuncId → Option AFunc) (M : FuncId → List AV → Option AV) (E : ACode → Env → St → Res) (c : ACode) (e : Env) (σ : St) : Res :=
 match c with
 | .skip => some (none, e, σ, top)
 | .jump j => some (some j, e, σ, top)
 | .reg os => eReg (execOps (callV T M E) os e σ top)
 | .dreg ds => eReg (execD (callV T M E) ds e (σ ++ allocsOf ds) σ.length [σ ++ allocsOf ds] [] top)
 | .seq a b => eSeq E b (E a e σ)
 | .cond c a b => eCond (c.ev e) (E a e σ) (E b e σ)
 | .block id b => eBlock id (E b e σ)
 | .loop b => eLoop E b (E b e σ)
 | .scope b => E b e σ
 | .rangeFunc f ps a b => eRange T M E (f.ev e) ps a b e σ
def exec (T : FuncId → Option AFunc) (M : FuncId → List AV → Option AV) : Nat → ACode → Env → St → Res
 | 0 => fun _ _ _ => none
 | k + 1 => execStep T M (exec T M k)
end Go.Am
namespace Go.Am.Room
def a2 : AFunc := ⟨1, [],
 .reg [⟨some 0,.call (.c (.func 1 [] [])) [],none⟩]⟩
def a3 : AFunc := ⟨87, [.tmp 6],
 .seq (.reg [⟨some 3,.box 7 (.t 0),none⟩,⟨some 6,.mov (.c (.bool false)),none⟩])
 (.seq (.reg [⟨some 18,.load (some 7) (.t 3),none⟩,⟨some 19,.call (.c (.func 15 [] [])) [.t 18],none⟩,⟨some 17,.mov (.t 19),none⟩,⟨some 20,.ext (.t 17) 0,none⟩,⟨some 21,.ext (.t 17) 1,none⟩,⟨some 22,.ext (.t 17) 2,none⟩,⟨some 7,.mov (.t 20),none⟩,⟨some 8,.mov (.t 21),none⟩,⟨some 9,.mov (.t 22),none⟩])
 (.seq (.reg [⟨some 24,.load (some 7) (.t 3),none⟩,⟨some 25,.call (.c (.func 16 [] [])) [.t 24],none⟩,⟨some 23,.mov (.t 25),none⟩,⟨some 26,.ext (.t 23) 0,none⟩,⟨some 27,.ext (.t 23) 1,none⟩,⟨some 28,.ext (.t 23) 2,none⟩,⟨some 10,.mov (.t 26),none⟩,⟨some 11,.mov (.t 27),none⟩,⟨some 12,.mov (.t 28),none⟩])
 (.seq (.seq (.reg [⟨some 29,.mov (.t 7),none⟩,⟨some 30,.mov (.t 10),none⟩,⟨some 31,.eql (.one .i) true (.t 29) (.t 30),none⟩,⟨some 32,.mov (.t 31),none⟩,⟨some 33,.mov (.t 8),(some (32, false))⟩,⟨some 34,.mov (.t 11),(some (32, false))⟩,⟨some 35,.eql (.one .i) true (.t 33) (.t 34),(some (32, false))⟩,⟨some 36,.pick (.t 32) (.c (.bool true)) (.t 35),none⟩,⟨some 37,.mov (.t 36),none⟩,⟨some 38,.mov (.t 9),(some (37, false))⟩,⟨some 39,.mov (.t 12),(some (37, false))⟩,⟨some 40,.eql (.one .i) true (.t 38) (.t 39),(some (37, false))⟩,⟨some 41,.pick (.t 37) (.c (.bool true)) (.t 40),none⟩])
 (.cond (.t 41) (.seq (.reg [⟨some 6,.mov (.c (.bool false)),none⟩])
 (.jump .ret))
 .skip))
 (.seq (.reg [⟨some 43,.load (some 7) (.t 3),none⟩,⟨some 44,.mov (.t 1),none⟩,⟨some 45,.mov (.t 2),none⟩,⟨some 46,.call (.c (.func 17 [] [])) [.t 43,.t 44,.t 45],none⟩,⟨some 42,.mov (.t 46),none⟩,⟨some 47,.ext (.t 42) 0,none⟩,⟨some 48,.ext (.t 42) 1,none⟩,⟨some 13,.alloc [.int .i64 0, .int .i64 0],none⟩,⟨none,.store 2 (.t 13) (.t 47),none⟩,⟨some 9,.mov (.t 48),none⟩])
 (.seq (.reg [⟨some 50,.load (some 7) (.t 3),none⟩,⟨some 51,.mov (.t 1),none⟩,⟨some 52,.mov (.t 2),none⟩,⟨some 53,.call (.c (.func 18 [] [])) [.t 50,.t 51,.t 52],none⟩,⟨some 49,.mov (.t 53),none⟩,⟨some 54,.ext (.t 49) 0,none⟩,⟨some 55,.ext (.t 49) 1,none⟩,⟨some 14,.alloc [.int .i64 0, .int .i64 0],none⟩,⟨none,.store 2 (.t 14) (.t 54),none⟩,⟨some 12,.mov (.t 55),none⟩])
 (.seq (.seq (.reg [⟨some 56,.load (some 2) (.t 13),none⟩,⟨some 57,.load (some 2) (.t 14),none⟩,⟨some 58,.eql (.agg [.i, .i]) true (.t 56) (.t 57),none⟩,⟨some 59,.mov (.t 58),none⟩,⟨some 60,.mov (.t 9),(some (59, false))⟩,⟨some 61,.mov (.t 12),(some (59, false))⟩,⟨some 62,.eql (.one .i) true (.t 60) (.t 61),(some (59, false))⟩,⟨some 63,.pick (.t 59) (.c (.bool true)) (.t 62),none⟩])
 (.cond (.t 63) (.seq (.reg [⟨some 6,.mov (.c (.bool false)),none⟩])
 (.jump .ret))
 .skip))
 (.seq (.reg [⟨some 65,.load (some 7) (.t 3),none⟩,⟨some 66,.mov (.t 1),none⟩,⟨some 67,.call (.c (.func 19 [] [])) [.t 65,.t 66],none⟩,⟨some 64,.mov (.t 67),none⟩,⟨some 68,.ext (.t 64) 0,none⟩,⟨some 69,.ext (.t 64) 1,none⟩,⟨some 15,.mov (.t 68),none⟩,⟨some 9,.mov (.t 69),none⟩])
 (.seq (.reg [⟨some 71,.load (some 7) (.t 3),none⟩,⟨some 72,.mov (.t 1),none⟩,⟨some 73,.call (.c (.func 20 [] [])) [.t 71,.t 72],none⟩,⟨some 70,.mov (.t 73),none⟩,⟨some 74,.ext (.t 70) 0,none⟩,⟨some 75,.ext (.t 70) 1,none⟩,⟨some 16,.mov (.t 74),none⟩,⟨some 12,.mov (.t 75),none⟩])
 (.seq (.reg [⟨some 76,.mov (.t 15),none⟩,⟨some 77,.mov (.t 16),none⟩,⟨some 78,.call (.c (.func 21 [] [])) [.t 76,.t 77],none⟩,⟨some 79,.mov (.t 78),none⟩,⟨some 80,.mov (.t 9),(some (79, true))⟩,⟨some 81,.mov (.t 12),(some (79, true))⟩,⟨some 82,.eql (.one .i) false (.t 80) (.t 81),(some (79, true))⟩,⟨some 83,.pick (.t 79) (.t 82) (.c (.bool false)),none⟩,⟨some 84,.mov (.t 83),none⟩,⟨some 85,.call (.c (.func 22 [] [])) [],(some (84, true))⟩,⟨some 86,.pick (.t 84) (.t 85) (.c (.bool false)),none⟩,⟨some 6,.mov (.t 86),none⟩])
 (.jump .ret))))))))))⟩
def a4 : AFunc := ⟨111, [.tmp 6],
 .seq (.reg [⟨some 3,.box 7 (.t 0),none⟩,⟨some 6,.mov (.c (.bool false)),none⟩])
 (.seq (.reg [⟨some 18,.load (some 7) (.t 3),none⟩,⟨some 19,.mov (.t 1),none⟩,⟨some 20,.mov (.t 2),none⟩,⟨some 21,.call (.c (.func 23 [] [])) [.t 18,.t 19,.t 20],none⟩,⟨some 17,.mov (.t 21),none⟩,⟨some 22,.ext (.t 17) 0,none⟩,⟨some 23,.ext (.t 17) 1,none⟩,⟨some 7,.mov (.t 22),none⟩,⟨some 8,.mov (.t 23),none⟩])
 (.seq (.reg [⟨some 25,.load (some 7) (.t 3),none⟩,⟨some 26,.mov (.t 1),none⟩,⟨some 27,.mov (.t 2),none⟩,⟨some 28,.call (.c (.func 24 [] [])) [.t 25,.t 26,.t 27],none⟩,⟨some 24,.mov (.t 28),none⟩,⟨some 29,.ext (.t 24) 0,none⟩,⟨some 30,.ext (.t 24) 1,none⟩,⟨some 9,.mov (.t 29),none⟩,⟨some 10,.mov (.t 30),none⟩])
 (.seq (.seq (.reg [⟨some 31,.mov (.t 7),none⟩,⟨some 32,.mov (.t 9),none⟩,⟨some 33,.eql (.one .i) true (.t 31) (.t 32),none⟩,⟨some 34,.mov (.t 33),none⟩,⟨some 35,.mov (.t 8),(some (34, false))⟩,⟨some 36,.mov (.t 10),(some (34, false))⟩,⟨some 37,.eql (.one .i) true (.t 35) (.t 36),(some (34, false))⟩,⟨some 38,.pick (.t 34) (.c (.bool true)) (.t 37),none⟩])
 (.cond (.t 38) (.seq (.reg [⟨some 6,.mov (.c (.bool false)),none⟩])
 (.jump .ret))
 .skip))
 (.seq (.reg [⟨some 40,.load (some 7) (.t 3),none⟩,⟨some 41,.mov (.t 1),none⟩,⟨some 42,.call (.c (.func 25 [] [])) [.t 40,.t 41],none⟩,⟨some 39,.mov (.t 42),none⟩,⟨some 43,.ext (.t 39) 0,none⟩,⟨some 44,.ext (.t 39) 1,none⟩,⟨some 45,.ext (.t 39) 2,none⟩,⟨some 11,.mov (.t 43),none⟩,⟨some 12,.mov (.t 44),none⟩,⟨some 8,.mov (.t 45),none⟩])
 (.seq (.reg [⟨some 47,.load (some 7) (.t 3),none⟩,⟨some 48,.mov (.t 1),none⟩,⟨some 49,.call (.c (.func 26 [] [])) [.t 47,.t 48],none⟩,⟨some 46,.mov (.t 49),none⟩,⟨some 50,.ext (.t 46) 0,none⟩,⟨some 51,.ext (.t 46) 1,none⟩,⟨some 52,.ext (.t 46) 2,none⟩,⟨some 13,.mov (.t 50),none⟩,⟨some 14,.mov (.t 51),none⟩,⟨some 10,.mov (.t 52),none⟩])
 (.seq (.seq (.reg [⟨some 53,.mov (.t 11),none⟩,⟨some 54,.mov (.t 13),none⟩,⟨some 55,.call (.c (.func 21 [] [])) [.t 53,.t 54],none⟩,⟨some 56,.not (.t 55),none⟩,⟨some 57,.mov (.t 56),none⟩,⟨some 58,.mov (.t 12),(some (57, false))⟩,⟨some 59,.mov (.t 14),(some (57, false))⟩,⟨some 60,.call (.c (.func 21 [] [])) [.t 58,.t 59],(some (57, false))⟩,⟨some 61,.not (.t 60),(some (57, false))⟩,⟨some 62,.pick (.t 57) (.c (.bool true)) (.t 61),none⟩,⟨some 63,.mov (.t 62),none⟩,⟨some 64,.mov (.t 8),(some (63, false))⟩,⟨some 65,.mov (.t 10),(some (63, false))⟩,⟨some 66,.eql (.one .i) true (.t 64) (.t 65),(some (63, false))⟩,⟨some 67,.pick (.t 63) (.c (.bool true)) (.t 66),none⟩])
 (.cond (.t 67) (.seq (.reg [⟨some 6,.mov (.c (.bool false)),none⟩])
 (.jump .ret))
 .skip))
 (.seq (.reg [⟨some 69,.load (some 7) (.t 3),none⟩,⟨some 70,.mov (.t 1),none⟩,⟨some 71,.call (.c (.func 27 [] [])) [.t 69,.t 70],none⟩,⟨some 68,.mov (.t 71),none⟩,⟨some 72,.ext (.t 68) 0,none⟩,⟨some 73,.ext (.t 68) 1,none⟩,⟨some 7,.mov (.t 72),none⟩,⟨some 8,.mov (.t 73),none⟩])
 (.seq (.reg [⟨some 75,.load (some 7) (.t 3),none⟩,⟨some 76,.mov (.t 1),none⟩,⟨some 77,.call (.c (.func 28 [] [])) [.t 75,.t 76],none⟩,⟨some 74,.mov (.t 77),none⟩,⟨some 78,.ext (.t 74) 0,none⟩,⟨some 79,.ext (.t 74) 1,none⟩,⟨some 9,.mov (.t 78),none⟩,⟨some 10,.mov (.t 79),none⟩])
 (.seq (.seq (.reg [⟨some 80,.mov (.t 7),none⟩,⟨some 81,.mov (.t 9),none⟩,⟨some 82,.eql (.one .i) true (.t 80) (.t 81),none⟩,⟨some 83,.mov (.t 82),none⟩,⟨some 84,.mov (.t 8),(some (83, false))⟩,⟨some 85,.mov (.t 10),(some (83, false))⟩,⟨some 86,.eql (.one .i) true (.t 84) (.t 85),(some (83, false))⟩,⟨some 87,.pick (.t 83) (.c (.bool true)) (.t 86),none⟩])
 (.cond (.t 87) (.seq (.reg [⟨some 6,.mov (.c (.bool false)),none⟩])
 (.jump .ret))
 .skip))
 (.seq (.reg [⟨some 89,.load (some 7) (.t 3),none⟩,⟨some 90,.mov (.t 2),none⟩,⟨some 91,.call (.c (.func 29 [] [])) [.t 89,.t 90],none⟩,⟨some 88,.mov (.t 91),none⟩,⟨some 92,.ext (.t 88) 0,none⟩,⟨some 93,.ext (.t 88) 1,none⟩,⟨some 15,.alloc [.int .i64 0, .int .i64 0],none⟩,⟨none,.store 2 (.t 15) (.t 92),none⟩,⟨some 8,.mov (.t 93),none⟩])
 (.seq (.reg [⟨some 95,.load (some 7) (.t 3),none⟩,⟨some 96,.mov (.t 2),none⟩,⟨some 97,.call (.c (.func 30 [] [])) [.t 95,.t 96],none⟩,⟨some 94,.mov (.t 97),none⟩,⟨some 98,.ext (.t 94) 0,none⟩,⟨some 99,.ext (.t 94) 1,none⟩,⟨some 16,.alloc [.int .i64 0, .int .i64 0],none⟩,⟨none,.store 2 (.t 16) (.t 98),none⟩,⟨some 10,.mov (.t 99),none⟩])
 (.seq (.reg [⟨some 100,.load (some 2) (.t 15),none⟩,⟨some 101,.load (some 2) (.t 16),none⟩,⟨some 102,.eql (.agg [.i, .i]) false (.t 100) (.t 101),none⟩,⟨some 103,.mov (.t 102),none⟩,⟨some 104,.mov (.t 8),(some (103, true))⟩,⟨some 105,.mov (.t 10),(some (103, true))⟩,⟨some 106,.eql (.one .i) false (.t 104) (.t 105),(some (103, true))⟩,⟨some 107,.pick (.t 103) (.t 106) (.c (.bool false)),none⟩,⟨some 108,.mov (.t 107),none⟩,⟨some 109,.call (.c (.func 22 [] [])) [],(some (108, true))⟩,⟨some 110,.pick (.t 108) (.t 109) (.c (.bool false)),none⟩,⟨some 6,.mov (.t 110),none⟩])
 (.jump .ret)))))))))))))⟩
def a5 : AFunc := ⟨67, [.tmp 6],
 .seq (.reg [⟨some 3,.box 7 (.t 0),none⟩,⟨some 6,.mov (.c (.bool false)),none⟩])
 (.seq (.reg [⟨some 16,.load (some 7) (.t 3),none⟩,⟨some 17,.mov (.t 1),none⟩,⟨some 18,.mov (.t 2),none⟩,⟨some 19,.call (.c (.func 31 [] [])) [.t 16,.t 17,.t 18],none⟩,⟨some 15,.mov (.t 19),none⟩,⟨some 20,.ext (.t 15) 0,none⟩,⟨some 21,.ext (.t 15) 1,none⟩,⟨some 22,.ext (.t 15) 2,none⟩,⟨some 7,.mov (.t 20),none⟩,⟨some 8,.mov (.t 21),none⟩,⟨some 9,.mov (.t 22),none⟩])
 (.seq (.reg [⟨some 24,.load (some 7) (.t 3),none⟩,⟨some 25,.mov (.t 1),none⟩,⟨some 26,.mov (.t 2),none⟩,⟨some 27,.call (.c (.func 32 [] [])) [.t 24,.t 25,.t 26],none⟩,⟨some 23,.mov (.t 27),none⟩,⟨some 28,.ext (.t 23) 0,none⟩,⟨some 29,.ext (.t 23) 1,none⟩,⟨some 30,.ext (.t 23) 2,none⟩,⟨some 10,.mov (.t 28),none⟩,⟨some 11,.mov (.t 29),none⟩,⟨some 12,.mov (.t 30),none⟩])
 (.seq (.seq (.reg [⟨some 31,.mov (.t 7),none⟩,⟨some 32,.mov (.t 10),none⟩,⟨some 33,.call (.c (.func 21 [] [])) [.t 31,.t 32],none⟩,⟨some 34,.not (.t 33),none⟩,⟨some 35,.mov (.t 34),none⟩,⟨some 36,.mov (.t 8),(some (35, false))⟩,⟨some 37,.mov (.t 11),(some (35, false))⟩,⟨some 38,.call (.c (.func 21 [] [])) [.t 36,.t 37],(some (35, false))⟩,⟨some 39,.not (.t 38),(some (35, false))⟩,⟨some 40,.pick (.t 35) (.c (.bool true)) (.t 39),none⟩,⟨some 41,.mov (.t 40),none⟩,⟨some 42,.mov (.t 9),(some (41, false))⟩,⟨some 43,.mov (.t 12),(some (41, false))⟩,⟨some 44,.eql (.one .i) true (.t 42) (.t 43),(some (41, false))⟩,⟨some 45,.pick (.t 41) (.c (.bool true)) (.t 44),none⟩])
 (.cond (.t 45) (.seq (.reg [⟨some 6,.mov (.c (.bool false)),none⟩])
 (.jump .ret))
 .skip))
 (.seq (.reg [⟨some 47,.load (some 7) (.t 3),none⟩,⟨some 48,.call (.c (.func 33 [] [])) [.t 47],none⟩,⟨some 46,.mov (.t 48),none⟩,⟨some 49,.ext (.t 46) 0,none⟩,⟨some 50,.ext (.t 46) 1,none⟩,⟨some 13,.mov (.t 49),none⟩,⟨some 9,.mov (.t 50),none⟩])
 (.seq (.reg [⟨some 52,.load (some 7) (.t 3),none⟩,⟨some 53,.call (.c (.func 34 [] [])) [.t 52],none⟩,⟨some 51,.mov (.t 53),none⟩,⟨some 54,.ext (.t 51) 0,none⟩,⟨some 55,.ext (.t 51) 1,none⟩,⟨some 14,.mov (.t 54),none⟩,⟨some 12,.mov (.t 55),none⟩])
 (.seq (.reg [⟨some 56,.mov (.t 13),none⟩,⟨some 57,.mov (.t 14),none⟩,⟨some 58,.call (.c (.func 21 [] [])) [.t 56,.t 57],none⟩,⟨some 59,.mov (.t 58),none⟩,⟨some 60,.mov (.t 9),(some (59, true))⟩,⟨some 61,.mov (.t 12),(some (59, true))⟩,⟨some 62,.eql (.one .i) false (.t 60) (.t 61),(some (59, true))⟩,⟨some 63,.pick (.t 59) (.t 62) (.c (.bool false)),none⟩,⟨some 64,.mov (.t 63),none⟩,⟨some 65,.call (.c (.func 22 [] [])) [],(some (64, true))⟩,⟨some 66,.pick (.t 64) (.t 65) (.c (.bool false)),none⟩,⟨some 6,.mov (.t 66),none⟩])
 (.jump .ret)))))))⟩
def a6 : AFunc := ⟨164, [.tmp 0],
 .seq (.reg [⟨some 0,.mov (.c (.bool false)),none⟩])
 (.seq (.reg [⟨some 23,.call (.c (.func 35 [] [])) [(.c (.lit [] true none))],none⟩,⟨some 24,.call (.c (.func 36 [] [])) [(.c (.int .i64 1)), (.c (.int .i64 3)), (.c (.int .i64 2))],none⟩,⟨some 25,.mklit 3 [.t 24],none⟩,⟨some 26,.call (.c (.func 35 [] [])) [.t 25],none⟩,⟨some 1,.alloc [.lit [] true none, .int .i64 0, .int .i64 0, .int .i64 0, .int .i64 0, .lit [] true none, .lit [] true none],none⟩,⟨some 2,.alloc [.lit [] true none, .int .i64 0, .int .i64 0, .int .i64 0, .int .i64 0, .lit [] true none, .lit [] true none],none⟩,⟨none,.store 7 (.t 1) (.t 23),none⟩,⟨none,.store 7 (.t 2) (.t 26),none⟩])
 (.seq (.reg [⟨some 28,.load (some 7) (.t 1),none⟩,⟨some 29,.call (.c (.func 17 [] [])) [(.t 28), (.c (.int .i64 0)), (.c (.int .i64 4))],none⟩,⟨some 27,.mov (.t 29),none⟩,⟨some 30,.ext (.t 27) 0,none⟩,⟨some 31,.ext (.t 27) 1,none⟩,⟨some 3,.alloc [.int .i64 0, .int .i64 0],none⟩,⟨none,.store 2 (.t 3) (.t 30),none⟩,⟨some 4,.mov (.t 31),none⟩])
 (.seq (.reg [⟨some 33,.load (some 7) (.t 1),none⟩,⟨some 34,.call (.c (.func 17 [] [])) [(.t 33), (.c (.int .i64 2)), (.c (.int .i64 4))],none⟩,⟨some 32,.mov (.t 34),none⟩,⟨some 35,.ext (.t 32) 0,none⟩,⟨some 36,.ext (.t 32) 1,none⟩,⟨some 5,.alloc [.int .i64 0, .int .i64 0],none⟩,⟨none,.store 2 (.t 5) (.t 35),none⟩,⟨some 6,.mov (.t 36),none⟩])
 (.seq (.reg [⟨some 38,.load (some 7) (.t 1),none⟩,⟨some 39,.call (.c (.func 23 [] [])) [(.t 38), (.c (.int .i64 0)), (.c (.int .i64 5))],none⟩,⟨some 37,.mov (.t 39),none⟩,⟨some 40,.ext (.t 37) 0,none⟩,⟨some 41,.ext (.t 37) 1,none⟩,⟨some 7,.mov (.t 40),none⟩,⟨some 8,.mov (.t 41),none⟩])
 (.seq (.reg [⟨some 43,.load (some 7) (.t 1),none⟩,⟨some 44,.call (.c (.func 25 [] [])) [(.t 43), (.c (.int .i64 1))],none⟩,⟨some 42,.mov (.t 44),none⟩,⟨some 45,.ext (.t 42) 0,none⟩,⟨some 46,.ext (.t 42) 1,none⟩,⟨some 47,.ext (.t 42) 2,none⟩,⟨some 9,.mov (.t 45),none⟩,⟨some 10,.mov (.t 46),none⟩,⟨some 11,.mov (.t 47),none⟩])
 (.seq (.reg [⟨some 49,.load (some 7) (.t 1),none⟩,⟨some 50,.call (.c (.func 27 [] [])) [(.t 49), (.c (.int .i64 1))],none⟩,⟨some 48,.mov (.t 50),none⟩,⟨some 51,.ext (.t 48) 0,none⟩,⟨some 52,.ext (.t 48) 1,none⟩,⟨some 12,.mov (.t 51),none⟩,⟨some 13,.mov (.t 52),none⟩])
 (.seq (.reg [⟨some 54,.load (some 7) (.t 1),none⟩,⟨some 55,.call (.c (.func 31 [] [])) [(.t 54), (.c (.int .i64 4)), (.c (.int .i64 30))],none⟩,⟨some 53,.mov (.t 55),none⟩,⟨some 56,.ext (.t 53) 0,none⟩,⟨some 57,.ext (.t 53) 1,none⟩,⟨some 58,.ext (.t 53) 2,none⟩,⟨some 14,.mov (.t 56),none⟩,⟨some 15,.mov (.t 57),none⟩,⟨some 16,.mov (.t 58),none⟩])
 (.seq (.reg [⟨some 60,.load (some 7) (.t 2),none⟩,⟨some 61,.call (.c (.func 29 [] [])) [(.t 60), (.c (.int .i64 3))],none⟩,⟨some 59,.mov (.t 61),none⟩,⟨some 62,.ext (.t 59) 0,none⟩,⟨some 63,.ext (.t 59) 1,none⟩,⟨some 17,.alloc [.int .i64 0, .int .i64 0],none⟩,⟨none,.store 2 (.t 17) (.t 62),none⟩,⟨some 18,.mov (.t 63),none⟩])
 (.seq (.reg [⟨some 65,.load (some 7) (.t 1),none⟩,⟨some 66,.call (.c (.func 19 [] [])) [(.t 65), (.c (.int .i64 1))],none⟩,⟨some 64,.mov (.t 66),none⟩,⟨some 67,.ext (.t 64) 0,none⟩,⟨some 68,.ext (.t 64) 1,none⟩,⟨some 19,.mov (.t 67),none⟩,⟨some 20,.mov (.t 68),none⟩])
 (.seq (.reg [⟨some 70,.load (some 7) (.t 2),none⟩,⟨some 71,.call (.c (.func 33 [] [])) [.t 70],none⟩,⟨some 69,.mov (.t 71),none⟩,⟨some 72,.ext (.t 69) 0,none⟩,⟨some 73,.ext (.t 69) 1,none⟩,⟨some 21,.mov (.t 72),none⟩,⟨some 22,.mov (.t 73),none⟩])
 (.seq (.dreg [⟨⟨some 74,.mov (.t 4),none⟩, 0, 0⟩,⟨⟨some 75,.eql (.one .i) false (.t 74) (.c (.int .i64 0)),none⟩, 0, 0⟩,⟨⟨some 76,.mov (.t 75),none⟩, 0, 0⟩,⟨⟨some 77,.mov (.t 6),(some (76, true))⟩, 0, 0⟩,⟨⟨some 78,.eql (.one .i) false (.t 77) (.c (.int .i64 0)),(some (76, true))⟩, 0, 0⟩,⟨⟨some 79,.pick (.t 76) (.t 78) (.c (.bool false)),none⟩, 0, 0⟩,⟨⟨some 80,.mov (.t 79),none⟩, 0, 0⟩,⟨⟨some 81,.mov (.t 8),(some (80, true))⟩, 0, 0⟩,⟨⟨some 82,.eql (.one .i) false (.t 81) (.c (.int .i64 0)),(some (80, true))⟩, 0, 0⟩,⟨⟨some 83,.pick (.t 80) (.t 82) (.c (.bool false)),none⟩, 0, 0⟩,⟨⟨some 84,.mov (.t 83),none⟩, 0, 0⟩,⟨⟨some 85,.mov (.t 11),(some (84, true))⟩, 0, 0⟩,⟨⟨some 86,.eql (.one .i) false (.t 85) (.c (.int .i64 0)),(some (84, true))⟩, 0, 0⟩,⟨⟨some 87,.pick (.t 84) (.t 86) (.c (.bool false)),none⟩, 0, 0⟩,⟨⟨some 88,.mov (.t 87),none⟩, 0, 0⟩,⟨⟨some 89,.mov (.t 13),(some (88, true))⟩, 0, 0⟩,⟨⟨some 90,.eql (.one .i) false (.t 89) (.c (.int .i64 0)),(some (88, true))⟩, 0, 0⟩,⟨⟨some 91,.pick (.t 88) (.t 90) (.c (.bool false)),none⟩, 0, 0⟩,⟨⟨some 92,.mov (.t 91),none⟩, 0, 0⟩,⟨⟨some 93,.mov (.t 16),(some (92, true))⟩, 0, 0⟩,⟨⟨some 94,.eql (.one .i) false (.t 93) (.c (.int .i64 0)),(some (92, true))⟩, 0, 0⟩,⟨⟨some 95,.pick (.t 92) (.t 94) (.c (.bool false)),none⟩, 0, 0⟩,⟨⟨some 96,.mov (.t 95),none⟩, 0, 0⟩,⟨⟨some 97,.mov (.t 18),(some (96, true))⟩, 0, 0⟩,⟨⟨some 98,.eql (.one .i) false (.t 97) (.c (.int .i64 0)),(some (96, true))⟩, 0, 0⟩,⟨⟨some 99,.pick (.t 96) (.t 98) (.c (.bool false)),none⟩, 0, 0⟩,⟨⟨some 100,.mov (.t 99),none⟩, 0, 0⟩,⟨⟨some 101,.mov (.t 20),(some (100, true))⟩, 0, 0⟩,⟨⟨some 102,.eql (.one .i) false (.t 101) (.c (.int .i64 0)),(some (100, true))⟩, 0, 0⟩,⟨⟨some 103,.pick (.t 100) (.t 102) (.c (.bool false)),none⟩, 0, 0⟩,⟨⟨some 104,.mov (.t 103),none⟩, 0, 0⟩,⟨⟨some 105,.mov (.t 22),(some (104, true))⟩, 0, 0⟩,⟨⟨some 106,.eql (.one .i) false (.t 105) (.c (.int .i64 0)),(some (104, true))⟩, 0, 0⟩,⟨⟨some 107,.pick (.t 104) (.t 106) (.c (.bool false)),none⟩, 0, 0⟩,⟨⟨some 108,.mov (.t 107),none⟩, 0, 0⟩,⟨⟨some 109,.load (some 2) (.t 3),(some (108, true))⟩, 0, 1⟩,⟨⟨some 110,.call (.c (.func 37 [] [])) [(.c (.int .i64 6)), (.c (.int .i64 8))],(some (108, true))⟩, 0, 1⟩,⟨⟨some 111,.eql (.agg [.i, .i]) false (.t 109) (.t 110),(some (108, true))⟩, 1, 1⟩,⟨⟨some 112,.pick (.t 108) (.t 111) (.c (.bool false)),none⟩, 1, 1⟩,⟨⟨some 113,.mov (.t 112),none⟩, 1, 1⟩,⟨⟨some 114,.load (some 2) (.t 5),(some (113, true))⟩, 1, 2⟩,⟨⟨some 115,.call (.c (.func 37 [] [])) [(.c (.int .i64 4)), (.c (.int .i64 8))],(some (113, true))⟩, 1, 2⟩,⟨⟨some 116,.eql (.agg [.i, .i]) false (.t 114) (.t 115),(some (113, true))⟩, 2, 2⟩,⟨⟨some 117,.pick (.t 113) (.t 116) (.c (.bool false)),none⟩, 2, 2⟩,⟨⟨some 118,.mov (.t 117),none⟩, 2, 2⟩,⟨⟨some 119,.mov (.t 7),(some (118, true))⟩, 2, 2⟩,⟨⟨some 120,.eql (.one .i) false (.t 119) (.c (.int .i64 0)),(some (118, true))⟩, 2, 2⟩,⟨⟨some 121,.pick (.t 118) (.t 120) (.c (.bool false)),none⟩, 2, 2⟩,⟨⟨some 122,.mov (.t 121),none⟩, 2, 2⟩,⟨⟨some 123,.mov (.t 9),(some (122, true))⟩, 2, 2⟩,⟨⟨some 124,.len 1 (.t 123),(some (122, true))⟩, 2, 2⟩,⟨⟨some 125,.eql (.one .i) false (.t 124) (.c (.int .i64 0)),(some (122, true))⟩, 2, 2⟩,⟨⟨some 126,.pick (.t 122) (.t 125) (.c (.bool false)),none⟩, 2, 2⟩,⟨⟨some 127,.mov (.t 126),none⟩, 2, 2⟩,⟨⟨some 128,.mov (.t 10),(some (127, true))⟩, 2, 2⟩,⟨⟨some 129,.mklit 1 [(.c (.int .i64 4)), (.c (.int .i64 5))],(some (127, true))⟩, 2, 2⟩,⟨⟨some 130,.call (.c (.func 21 [] [])) [.t 128,.t 129],(some (127, true))⟩, 2, 3⟩,⟨⟨some 131,.pick (.t 127) (.t 130) (.c (.bool false)),none⟩, 3, 3⟩,⟨⟨some 132,.mov (.t 131),none⟩, 3, 3⟩,⟨⟨some 133,.mov (.t 12),(some (132, true))⟩, 3, 3⟩,⟨⟨some 134,.eql (.one .i) false (.t 133) (.c (.int .i64 5)),(some (132, true))⟩, 3, 3⟩,⟨⟨some 135,.pick (.t 132) (.t 134) (.c (.bool false)),none⟩, 3, 3⟩,⟨⟨some 136,.mov (.t 135),none⟩, 3, 3⟩,⟨⟨some 137,.mov (.t 14),(some (136, true))⟩, 3, 3⟩,⟨⟨some 138,.mklit 1 [(.c (.int .i64 0))],(some (136, true))⟩, 3, 3⟩,⟨⟨some 139,.call (.c (.func 21 [] [])) [.t 137,.t 138],(some (136, true))⟩, 3, 4⟩,⟨⟨some 140,.pick (.t 136) (.t 139) (.c (.bool false)),none⟩, 4, 4⟩,⟨⟨some 141,.mov (.t 140),none⟩, 4, 4⟩,⟨⟨some 142,.mov (.t 15),(some (141, true))⟩, 4, 4⟩,⟨⟨some 143,.len 1 (.t 142),(some (141, true))⟩, 4, 4⟩,⟨⟨some 144,.eql (.one .i) false (.t 143) (.c (.int .i64 0)),(some (141, true))⟩, 4, 4⟩,⟨⟨some 145,.pick (.t 141) (.t 144) (.c (.bool false)),none⟩, 4, 4⟩,⟨⟨some 146,.mov (.t 145),none⟩, 4, 4⟩,⟨⟨some 147,.load (some 2) (.t 17),(some (146, true))⟩, 4, 5⟩,⟨⟨some 148,.call (.c (.func 37 [] [])) [(.c (.int .i64 1)), (.c (.int .i64 2))],(some (146, true))⟩, 4, 5⟩,⟨⟨some 149,.eql (.agg [.i, .i]) false (.t 147) (.t 148),(some (146, true))⟩, 5, 5⟩,⟨⟨some 150,.pick (.t 146) (.t 149) (.c (.bool false)),none⟩, 5, 5⟩,⟨⟨some 151,.mov (.t 150),none⟩, 5, 5⟩,⟨⟨some 152,.mov (.t 19),(some (151, true))⟩, 5, 5⟩,⟨⟨some 153,.mklit 1 [(.c (.int .i64 1)), (.c (.int .i64 2))],(some (151, true))⟩, 5, 5⟩,⟨⟨some 154,.call (.c (.func 21 [] [])) [.t 152,.t 153],(some (151, true))⟩, 5, 6⟩,⟨⟨some 155,.pick (.t 151) (.t 154) (.c (.bool false)),none⟩, 6, 6⟩,⟨⟨some 156,.mov (.t 155),none⟩, 6, 6⟩,⟨⟨some 157,.mov (.t 21),(some (156, true))⟩, 6, 6⟩,⟨⟨some 158,.len 1 (.t 157),(some (156, true))⟩, 6, 6⟩,⟨⟨some 159,.eql (.one .i) false (.t 158) (.c (.int .i64 0)),(some (156, true))⟩, 6, 6⟩,⟨⟨some 160,.pick (.t 156) (.t 159) (.c (.bool false)),none⟩, 6, 6⟩,⟨⟨some 161,.mov (.t 160),none⟩, 6, 6⟩,⟨⟨some 162,.call (.c (.func 22 [] [])) [],(some (161, true))⟩, 6, 7⟩,⟨⟨some 163,.pick (.t 161) (.t 162) (.c (.bool false)),none⟩, 7, 7⟩,⟨⟨some 0,.mov (.t 163),none⟩, 7, 7⟩])
 (.jump .ret))))))))))))⟩
def L7_2 : ACode := .seq (.seq (.reg [⟨some 91,.mov (.t 16),none⟩,⟨some 92,.mov (.t 9),none⟩,⟨some 93,.len 1 (.t 92),none⟩,⟨some 94,.bin .lss (.t 91) (.t 93),none⟩])
 (.cond (.t 94) .skip
 (.jump (.exit 2))))
 (.seq (.block 3 (.seq (.reg [⟨some 97,.mov (.t 8),none⟩,⟨some 98,.mov (.t 9),none⟩,⟨some 99,.mov (.t 16),none⟩,⟨some 100,.iaddr none 1 (.t 98) (.t 99),none⟩,⟨some 101,.load none (.t 100),none⟩,⟨some 102,.mov (.t 13),none⟩,⟨some 103,.call (.c (.func 43 [] [])) [.t 97,.t 101,.t 102],none⟩,⟨some 17,.mov (.t 103),none⟩])
 (.seq (.reg [⟨some 105,.load (some 7) (.t 7),none⟩,⟨some 106,.mov (.t 16),none⟩,⟨some 107,.mov (.t 13),none⟩,⟨some 108,.call (.c (.func 17 [] [])) [.t 105,.t 106,.t 107],none⟩,⟨some 104,.mov (.t 108),none⟩,⟨some 109,.ext (.t 104) 0,none⟩,⟨some 110,.ext (.t 104) 1,none⟩,⟨some 18,.alloc [.int .i64 0, .int .i64 0],none⟩,⟨none,.store 2 (.t 18) (.t 109),none⟩,⟨some 19,.mov (.t 110),none⟩])
 (.seq (.reg [⟨some 112,.load (some 7) (.t 7),none⟩,⟨some 113,.mov (.t 16),none⟩,⟨some 114,.mov (.t 13),none⟩,⟨some 115,.call (.c (.func 23 [] [])) [.t 112,.t 113,.t 114],none⟩,⟨some 111,.mov (.t 115),none⟩,⟨some 116,.ext (.t 111) 0,none⟩,⟨some 117,.ext (.t 111) 1,none⟩,⟨some 20,.mov (.t 116),none⟩,⟨some 21,.mov (.t 117),none⟩])
 (.seq (.reg [⟨some 119,.load (some 7) (.t 7),none⟩,⟨some 120,.mov (.t 16),none⟩,⟨some 121,.call (.c (.func 19 [] [])) [.t 119,.t 120],none⟩,⟨some 118,.mov (.t 121),none⟩,⟨some 122,.ext (.t 118) 0,none⟩,⟨some 123,.ext (.t 118) 1,none⟩,⟨some 22,.mov (.t 122),none⟩,⟨some 23,.mov (.t 123),none⟩])
 (.seq (.reg [⟨some 124,.mov (.t 17),none⟩,⟨some 125,.faddr (.t 7) 1,none⟩,⟨some 126,.load none (.t 125),none⟩,⟨some 127,.bin .geq (.t 124) (.t 126),none⟩,⟨some 128,.mov (.t 127),none⟩,⟨some 129,.mov (.t 17),(some (128, true))⟩,⟨some 130,.mov (.t 12),(some (128, true))⟩,⟨some 131,.bin .add (.t 129) (.t 130),(some (128, true))⟩,⟨some 132,.faddr (.t 7) 2,(some (128, true))⟩,⟨some 133,.load none (.t 132),(some (128, true))⟩,⟨some 134,.bin .leq (.t 131) (.t 133),(some (128, true))⟩,⟨some 135,.pick (.t 128) (.t 134) (.c (.bool false)),none⟩,⟨some 24,.mov (.t 135),none⟩])
 (.seq (.reg [⟨some 136,.mov (.t 19),none⟩,⟨some 137,.eql (.one .i) true (.t 136) (.c (.int .i64 0)),none⟩,⟨some 138,.mov (.t 137),none⟩,⟨some 139,.mov (.t 21),(some (138, false))⟩,⟨some 140,.eql (.one .i) true (.t 139) (.c (.int .i64 0)),(some (138, false))⟩,⟨some 141,.pick (.t 138) (.c (.bool true)) (.t 140),none⟩,⟨some 142,.mov (.t 141),none⟩,⟨some 143,.mov (.t 23),(some (142, false))⟩,⟨some 144,.eql (.one .i) true (.t 143) (.c (.int .i64 0)),(some (142, false))⟩,⟨some 145,.pick (.t 142) (.c (.bool true)) (.t 144),none⟩,⟨some 146,.mov (.t 145),none⟩,⟨some 147,.mov (.t 17),(some (146, false))⟩,⟨some 148,.load (some 2) (.t 18),(some (146, false))⟩,⟨some 149,.call (.c (.func 42 [] [])) [.t 147,.t 148],(some (146, false))⟩,⟨some 150,.not (.t 149),(some (146, false))⟩,⟨some 151,.pick (.t 146) (.c (.bool true)) (.t 150),none⟩,⟨some 152,.mov (.t 151),none⟩,⟨some 153,.mov (.t 22),(some (152, false))⟩,⟨some 154,.mov (.t 9),(some (152, false))⟩,⟨some 155,.mov (.t 16),(some (152, false))⟩,⟨some 156,.iaddr none 1 (.t 154) (.t 155),(some (152, false))⟩,⟨some 157,.load none (.t 156),(some (152, false))⟩,⟨some 158,.call (.c (.func 44 [] [])) [.t 153,.t 157],(some (152, false))⟩,⟨some 159,.not (.t 158),(some (152, false))⟩,⟨some 160,.pick (.t 152) (.c (.bool true)) (.t 159),none⟩,⟨some 161,.mov (.t 160),none⟩,⟨some 162,.mov (.t 24),(some (161, false))⟩,⟨some 163,.mov (.t 162),(some (161, false))⟩,⟨some 164,.mov (.t 20),(some (163, true))⟩,⟨some 165,.eql (.one .i) false (.t 164) (.c (.int .i64 2)),(some (163, true))⟩,⟨some 166,.pick (.t 163) (.t 165) (.c (.bool false)),(some (161, false))⟩,⟨some 167,.pick (.t 161) (.c (.bool true)) (.t 166),none⟩,⟨some 168,.mov (.t 167),none⟩,⟨some 169,.mov (.t 24),(some (168, false))⟩,⟨some 170,.not (.t 169),(some (168, false))⟩,⟨some 171,.mov (.t 170),(some (168, false))⟩,⟨some 172,.mov (.t 20),(some (171, true))⟩,⟨some 173,.eql (.one .i) false (.t 172) (.c (.int .i64 1)),(some (171, true))⟩,⟨some 174,.pick (.t 171) (.t 173) (.c (.bool false)),(some (168, false))⟩,⟨some 175,.pick (.t 168) (.c (.bool true)) (.t 174),none⟩])
 (.cond (.t 175) (.seq (.reg [⟨some 4,.mov (.c (.bool false)),none⟩])
 (.jump .ret))
 .skip))))))))
 (.reg [⟨some 95,.mov (.t 16),none⟩,⟨some 96,.bin .add (.t 95) (.c (.int .i64 1)),none⟩,⟨some 16,.mov (.t 96),none⟩]))
def L7_0 : ACode := .seq (.seq (.reg [⟨some 62,.mov (.t 13),none⟩,⟨some 63,.mov (.t 8),none⟩,⟨some 64,.len 1 (.t 63),none⟩,⟨some 65,.bin .leq (.t 62) (.t 64),none⟩])
 (.cond (.t 65) .skip
 (.jump (.exit 0))))
 (.seq (.block 1 (.seq (.reg [⟨some 69,.load (some 7) (.t 7),none⟩,⟨some 70,.mov (.t 13),none⟩,⟨some 71,.call (.c (.func 29 [] [])) [.t 69,.t 70],none⟩,⟨some 68,.mov (.t 71),none⟩,⟨some 72,.ext (.t 68) 0,none⟩,⟨some 73,.ext (.t 68) 1,none⟩,⟨some 14,.alloc [.int .i64 0, .int .i64 0],none⟩,⟨none,.store 2 (.t 14) (.t 72),none⟩,⟨some 15,.mov (.t 73),none⟩])
 (.seq (.seq (.dreg [⟨⟨some 74,.mov (.t 13),none⟩, 0, 0⟩,⟨⟨some 75,.mov (.t 8),none⟩, 0, 0⟩,⟨⟨some 76,.len 1 (.t 75),none⟩, 0, 0⟩,⟨⟨some 77,.bin .lss (.t 74) (.t 76),none⟩, 0, 0⟩,⟨⟨some 78,.mov (.t 77),none⟩, 0, 0⟩,⟨⟨some 79,.mov (.t 15),(some (78, true))⟩, 0, 0⟩,⟨⟨some 80,.eql (.one .i) true (.t 79) (.c (.int .i64 0)),(some (78, true))⟩, 0, 0⟩,⟨⟨some 81,.mov (.t 80),(some (78, true))⟩, 0, 0⟩,⟨⟨some 82,.mov (.t 8),(some (81, false))⟩, 0, 0⟩,⟨⟨some 83,.mov (.t 13),(some (81, false))⟩, 0, 0⟩,⟨⟨some 84,.iaddr none 1 (.t 82) (.t 83),(some (81, false))⟩, 0, 0⟩,⟨⟨some 85,.load none (.t 84),(some (81, false))⟩, 0, 0⟩,⟨⟨some 86,.load (some 2) (.t 14),(some (81, false))⟩, 0, 0⟩,⟨⟨some 87,.call (.c (.func 42 [] [])) [.t 85,.t 86],(some (81, false))⟩, 0, 1⟩,⟨⟨some 88,.not (.t 87),(some (81, false))⟩, 1, 1⟩,⟨⟨some 89,.pick (.t 81) (.c (.bool true)) (.t 88),(some (78, true))⟩, 1, 1⟩,⟨⟨some 90,.pick (.t 78) (.t 89) (.c (.bool false)),none⟩, 1, 1⟩])
 (.cond (.t 90) (.seq (.reg [⟨some 4,.mov (.c (.bool false)),none⟩])
 (.jump .ret))
 .skip))
 (.seq (.reg [⟨some 16,.mov (.c (.int .i64 0)),none⟩])
 (.block 2 (.loop L7_2))))))
 (.reg [⟨some 66,.mov (.t 13),none⟩,⟨some 67,.bin .add (.t 66) (.c (.int .i64 1)),none⟩,⟨some 13,.mov (.t 67),none⟩]))
def a7 : AFunc := ⟨177, [.tmp 4],
 .seq (.reg [⟨some 2,.box 7 (.t 0),none⟩,⟨some 4,.mov (.c (.bool false)),none⟩])
 (.seq (.seq (.reg [⟨some 25,.load (some 7) (.t 2),none⟩,⟨some 26,.call (.c (.func 38 [] [])) [.t 25],none⟩,⟨some 27,.not (.t 26),none⟩])
 (.cond (.t 27) (.seq (.reg [⟨some 29,.load (some 7) (.t 2),none⟩,⟨some 30,.call (.c (.func 33 [] [])) [.t 29],none⟩,⟨some 28,.mov (.t 30),none⟩,⟨some 31,.ext (.t 28) 0,none⟩,⟨some 32,.ext (.t 28) 1,none⟩,⟨some 5,.mov (.t 31),none⟩,⟨some 6,.mov (.t 32),none⟩])
 (.seq (.reg [⟨some 33,.mov (.t 6),none⟩,⟨some 34,.eql (.one .i) true (.t 33) (.c (.int .i64 0)),none⟩,⟨some 35,.mov (.t 34),none⟩,⟨some 36,.call (.c (.func 22 [] [])) [],(some (35, true))⟩,⟨some 37,.pick (.t 35) (.t 36) (.c (.bool false)),none⟩,⟨some 4,.mov (.t 37),none⟩])
 (.jump .ret)))
 .skip))
 (.seq (.reg [⟨some 39,.load (some 7) (.t 2),none⟩,⟨some 40,.mov (.t 1),none⟩,⟨some 41,.call (.c (.func 39 [] [])) [.t 39,.t 40],none⟩,⟨some 38,.mov (.t 41),none⟩,⟨some 42,.ext (.t 38) 0,none⟩,⟨some 43,.ext (.t 38) 1,none⟩,⟨some 44,.ext (.t 38) 2,none⟩,⟨some 7,.alloc [.lit [] true none, .int .i64 0, .int .i64 0, .int .i64 0, .int .i64 0, .lit [] true none, .lit [] true none],none⟩,⟨none,.store 7 (.t 7) (.t 42),none⟩,⟨some 8,.mov (.t 43),none⟩,⟨some 9,.mov (.t 44),none⟩])
 (.seq (.reg [⟨some 46,.load (some 7) (.t 7),none⟩,⟨some 47,.call (.c (.func 33 [] [])) [.t 46],none⟩,⟨some 45,.mov (.t 47),none⟩,⟨some 48,.ext (.t 45) 0,none⟩,⟨some 49,.ext (.t 45) 1,none⟩,⟨some 10,.mov (.t 48),none⟩,⟨some 11,.mov (.t 49),none⟩])
 (.seq (.seq (.reg [⟨some 50,.mov (.t 11),none⟩,⟨some 51,.eql (.one .i) true (.t 50) (.c (.int .i64 0)),none⟩,⟨some 52,.mov (.t 51),none⟩,⟨some 53,.mov (.t 10),(some (52, false))⟩,⟨some 54,.len 1 (.t 53),(some (52, false))⟩,⟨some 55,.bin .gtr (.t 54) (.c (.int .i64 0)),(some (52, false))⟩,⟨some 56,.pick (.t 52) (.c (.bool true)) (.t 55),none⟩])
 (.cond (.t 56) (.seq (.reg [⟨some 4,.mov (.c (.bool false)),none⟩])
 (.jump .ret))
 .skip))
 (.seq (.dreg [⟨⟨some 57,.faddr (.t 7) 3,none⟩, 0, 1⟩,⟨⟨some 58,.load (some 2) (.t 57),none⟩, 0, 1⟩,⟨⟨some 59,.mov (.t 1),none⟩, 0, 0⟩,⟨⟨some 60,.call (.c (.func 41 [] [])) [(.t 59), (.c (.int .i64 11))],none⟩, 0, 1⟩,⟨⟨some 61,.call (.c (.func 40 [] [])) [.t 58,.t 60],none⟩, 1, 2⟩,⟨⟨some 12,.mov (.t 61),none⟩, 2, 2⟩])
 (.seq (.seq (.reg [⟨some 13,.mov (.c (.int .i64 0)),none⟩])
 (.block 0 (.loop L7_0)))
 (.seq (.reg [⟨some 176,.call (.c (.func 22 [] [])) [],none⟩,⟨some 4,.mov (.t 176),none⟩])
 (.jump .ret))))))))⟩
def a15 : AFunc := ⟨67, [.tmp 2, .tmp 3, .tmp 4],
 .seq (.reg [⟨some 1,.box 7 (.t 0),none⟩,⟨some 2,.mov (.c (.int .i64 0)),none⟩,⟨some 3,.mov (.c (.int .i64 0)),none⟩,⟨some 4,.mov (.c (.int .i64 0)),none⟩])
 (.seq (.seq (.reg [⟨some 5,.faddr (.t 1) 0,none⟩,⟨some 6,.load none (.t 5),none⟩,⟨some 7,.len 1 (.t 6),none⟩,⟨some 8,.mklit 1 [.t 7],none⟩,⟨some 9,.call (.c (.func 55 [] [])) [(.c (.int .i64 1)), (.c (.int .i64 7)), (.t 8)],none⟩])
 (.cond (.t 9) (.seq (.reg [⟨some 2,.mov (.c (.int .i64 1)),none⟩,⟨some 3,.mov (.c (.int .i64 0)),none⟩,⟨some 4,.mov (.c (.int .i64 3)),none⟩])
 (.jump .ret))
 .skip))
 (.seq (.seq (.reg [⟨some 11,.faddr (.t 1) 0,none⟩,⟨some 12,.load none (.t 11),none⟩,⟨some 13,.call (.c (.func 56 [] [])) [(.t 12), (.c (.func 57 [] []))],none⟩,⟨some 10,.mov (.t 13),none⟩,⟨some 14,.ext (.t 10) 0,none⟩,⟨some 15,.ext (.t 10) 1,none⟩,⟨some 3,.mov (.t 14),none⟩,⟨some 4,.mov (.t 15),none⟩])
 (.seq (.reg [⟨some 16,.mov (.t 4),none⟩,⟨some 17,.eql (.one .i) true (.t 16) (.c (.int .i64 0)),none⟩])
 (.cond (.t 17) (.seq (.reg [⟨some 18,.mov (.t 3),none⟩,⟨some 19,.mov (.t 4),none⟩,⟨some 2,.mov (.c (.int .i64 1)),none⟩,⟨some 3,.mov (.t 18),none⟩,⟨some 4,.mov (.t 19),none⟩])
 (.jump .ret))
 .skip)))
 (.seq (.seq (.reg [⟨some 20,.faddr (.t 1) 3,none⟩,⟨some 21,.load (some 2) (.t 20),none⟩,⟨some 22,.call (.c (.func 58 [] [])) [(.t 21), (.c (.int .i64 0)), (.c (.int .i64 9))],none⟩,⟨some 4,.mov (.t 22),none⟩])
 (.block 0 (.seq (.reg [⟨some 24,.faddr (.t 1) 1,none⟩,⟨some 25,.load none (.t 24),none⟩,⟨some 26,.faddr (.t 1) 2,none⟩,⟨some 27,.load none (.t 26),none⟩,⟨some 28,.mklit 1 [.t 25,.t 27],none⟩,⟨some 29,.call (.c (.func 55 [] [])) [(.c (.int .i64 0)), (.c (.int .i64 30)), (.t 28)],none⟩,⟨some 23,.mov (.t 29),none⟩])
 (.cond (.t 23) (.seq (.reg [⟨some 2,.mov (.c (.int .i64 2)),none⟩,⟨some 3,.mov (.c (.int .i64 0)),none⟩,⟨some 4,.mov (.c (.int .i64 7)),none⟩])
 (.jump .ret))
 (.seq (.reg [⟨some 31,.mov (.t 4),none⟩,⟨some 32,.eql (.one .i) true (.t 31) (.c (.int .i64 0)),none⟩,⟨some 30,.mov (.t 32),none⟩])
 (.cond (.t 30) (.seq (.reg [⟨some 33,.mov (.t 4),none⟩,⟨some 2,.mov (.c (.int .i64 2)),none⟩,⟨some 3,.mov (.c (.int .i64 0)),none⟩,⟨some 4,.mov (.t 33),none⟩])
 (.jump .ret))
 (.seq (.reg [⟨some 35,.faddr (.t 1) 5,none⟩,⟨some 36,.load none (.t 35),none⟩,⟨some 37,.len 1 (.t 36),none⟩,⟨some 38,.bin .gtr (.t 37) (.c (.int .i64 4)),none⟩,⟨some 34,.mov (.t 38),none⟩])
 (.cond (.t 34) (.seq (.reg [⟨some 2,.mov (.c (.int .i64 3)),none⟩,⟨some 3,.mov (.c (.int .i64 0)),none⟩,⟨some 4,.mov (.c (.int .i64 3)),none⟩])
 (.jump .ret))
 .skip))))))))
 (.seq (.reg [⟨some 40,.faddr (.t 1) 5,none⟩,⟨some 41,.load none (.t 40),none⟩,⟨some 42,.mkfun 60 [] [.t 1],none⟩,⟨some 43,.call (.c (.func 59 [] [])) [.t 41,.t 42],none⟩,⟨some 39,.mov (.t 43),none⟩,⟨some 44,.ext (.t 39) 0,none⟩,⟨some 45,.ext (.t 39) 1,none⟩,⟨some 3,.mov (.t 44),none⟩,⟨some 4,.mov (.t 45),none⟩])
 (.seq (.block 1 (.seq (.reg [⟨some 47,.mov (.t 4),none⟩,⟨some 48,.eql (.one .i) true (.t 47) (.c (.int .i64 0)),none⟩,⟨some 46,.mov (.t 48),none⟩])
 (.cond (.t 46) (.seq (.reg [⟨some 49,.mov (.t 3),none⟩,⟨some 50,.mov (.t 4),none⟩,⟨some 2,.mov (.c (.int .i64 3)),none⟩,⟨some 3,.mov (.t 49),none⟩,⟨some 4,.mov (.t 50),none⟩])
 (.jump .ret))
 (.seq (.reg [⟨some 52,.faddr (.t 1) 6,none⟩,⟨some 53,.load none (.t 52),none⟩,⟨some 54,.len 1 (.t 53),none⟩,⟨some 55,.bin .gtr (.t 54) (.c (.int .i64 4)),none⟩,⟨some 51,.mov (.t 55),none⟩])
 (.cond (.t 51) (.seq (.reg [⟨some 2,.mov (.c (.int .i64 4)),none⟩,⟨some 3,.mov (.c (.int .i64 0)),none⟩,⟨some 4,.mov (.c (.int .i64 3)),none⟩])
 (.jump .ret))
 .skip)))))
 (.seq (.reg [⟨some 57,.faddr (.t 1) 6,none⟩,⟨some 58,.load none (.t 57),none⟩,⟨some 59,.mkfun 65 [] [.t 1],none⟩,⟨some 60,.call (.c (.func 64 [] [])) [.t 58,.t 59],none⟩,⟨some 56,.mov (.t 60),none⟩,⟨some 61,.ext (.t 56) 0,none⟩,⟨some 62,.ext (.t 56) 1,none⟩,⟨some 3,.mov (.t 61),none⟩,⟨some 4,.mov (.t 62),none⟩])
 (.seq (.seq (.reg [⟨some 63,.mov (.t 4),none⟩,⟨some 64,.eql (.one .i) true (.t 63) (.c (.int .i64 0)),none⟩])
 (.cond (.t 64) (.seq (.reg [⟨some 65,.mov (.t 3),none⟩,⟨some 66,.mov (.t 4),none⟩,⟨some 2,.mov (.c (.int .i64 4)),none⟩,⟨some 3,.mov (.t 65),none⟩,⟨some 4,.mov (.t 66),none⟩])
 (.jump .ret))
 .skip))
 (.seq (.reg [⟨some 2,.mov (.c (.int .i64 0)),none⟩,⟨some 3,.mov (.c (.int .i64 0)),none⟩,⟨some 4,.mov (.c (.int .i64 0)),none⟩])
 (.jump .ret)))))))))⟩
def L16_0 : ACode := .seq (.seq (.reg [⟨some 20,.mov (.t 5),none⟩,⟨some 21,.faddr (.t 1) 0,none⟩,⟨some 22,.load none (.t 21),none⟩,⟨some 23,.len 1 (.t 22),none⟩,⟨some 24,.bin .lss (.t 20) (.t 23),none⟩])
 (.cond (.t 24) .skip
 (.jump (.exit 0))))
 (.seq (.block 1 (.seq (.reg [⟨some 27,.faddr (.t 1) 0,none⟩,⟨some 28,.load none (.t 27),none⟩,⟨some 29,.mov (.t 5),none⟩,⟨some 30,.iaddr none 2 (.t 28) (.t 29),none⟩,⟨some 31,.load (some 2) (.t 30),none⟩,⟨some 32,.call (.c (.func 67 [] [])) [(.t 31), (.c (.int .i64 0)), (.c (.int .i64 2))],none⟩,⟨some 6,.mov (.t 32),none⟩])
 (.seq (.reg [⟨some 33,.mov (.t 6),none⟩,⟨some 34,.eql (.one .i) true (.t 33) (.c (.int .i64 0)),none⟩])
 (.cond (.t 34) (.seq (.reg [⟨some 35,.mov (.t 5),none⟩,⟨some 36,.mov (.t 6),none⟩,⟨some 2,.mov (.c (.int .i64 1)),none⟩,⟨some 3,.mov (.t 35),none⟩,⟨some 4,.mov (.t 36),none⟩])
 (.jump .ret))
 .skip))))
 (.reg [⟨some 25,.mov (.t 5),none⟩,⟨some 26,.bin .add (.t 25) (.c (.int .i64 1)),none⟩,⟨some 5,.mov (.t 26),none⟩]))
def L16_2 : ACode := .seq (.seq (.reg [⟨some 61,.mov (.t 9),none⟩,⟨some 62,.faddr (.t 1) 5,none⟩,⟨some 63,.load none (.t 62),none⟩,⟨some 64,.len 1 (.t 63),none⟩,⟨some 65,.bin .lss (.t 61) (.t 64),none⟩])
 (.cond (.t 65) .skip
 (.jump (.exit 2))))
 (.seq (.block 3 (.seq (.reg [⟨some 68,.faddr (.t 1) 5,none⟩,⟨some 69,.load none (.t 68),none⟩,⟨some 70,.mov (.t 9),none⟩,⟨some 71,.iaddr none 4 (.t 69) (.t 70),none⟩,⟨some 72,.load (some 4) (.t 71),none⟩,⟨some 10,.alloc [.str ⟨#[]⟩, .int .i64 0, .int .i64 0, .int .i64 0],none⟩,⟨none,.store 4 (.t 10) (.t 72),none⟩])
 (.seq (.reg [⟨some 73,.faddr (.t 10) 0,none⟩,⟨some 74,.load none (.t 73),none⟩,⟨some 75,.mov (.t 8),none⟩,⟨some 76,.call (.c (.func 68 [] [])) [.t 74,.t 75],none⟩,⟨some 11,.mov (.t 76),none⟩])
 (.seq (.reg [⟨some 77,.mov (.t 8),none⟩,⟨some 78,.faddr (.t 10) 0,none⟩,⟨some 79,.load none (.t 78),none⟩,⟨some 80,.mklit 1 [.t 79],none⟩,⟨some 81,.append 1 16 (.t 77) (.t 80),none⟩,⟨some 8,.mov (.t 81),none⟩])
 (.seq (.dreg [⟨⟨some 82,.faddr (.t 10) 1,none⟩, 0, 1⟩,⟨⟨some 83,.load (some 2) (.t 82),none⟩, 0, 1⟩,⟨⟨some 84,.load (some 7) (.t 1),none⟩, 0, 0⟩,⟨⟨some 85,.call (.c (.func 69 [] [])) [.t 84],none⟩, 0, 1⟩,⟨⟨some 86,.bin .sub (.t 85) (.c (.int .i64 1)),none⟩, 1, 1⟩,⟨⟨some 87,.call (.c (.func 67 [] [])) [(.t 83), (.c (.int .i64 0)), (.t 86)],none⟩, 1, 2⟩,⟨⟨some 12,.mov (.t 87),none⟩, 2, 2⟩])
 (.seq (.seq (.reg [⟨some 88,.mov (.t 11),none⟩,⟨some 89,.eql (.one .i) false (.t 88) (.c (.int .i64 0)),none⟩,⟨some 90,.mov (.t 89),none⟩,⟨some 91,.mov (.t 12),(some (90, true))⟩,⟨some 92,.eql (.one .i) false (.t 91) (.c (.int .i64 7)),(some (90, true))⟩,⟨some 93,.mov (.t 92),(some (90, true))⟩,⟨some 94,.faddr (.t 10) 3,(some (93, false))⟩,⟨some 95,.load none (.t 94),(some (93, false))⟩,⟨some 96,.call (.c (.func 66 [] [])) [(.t 95), (.c (.int .i64 1)), (.c (.int .i64 99))],(some (93, false))⟩,⟨some 97,.not (.t 96),(some (93, false))⟩,⟨some 98,.pick (.t 93) (.c (.bool true)) (.t 97),(some (90, true))⟩,⟨some 99,.pick (.t 90) (.t 98) (.c (.bool false)),none⟩])
 (.cond (.t 99) (.reg [⟨some 11,.mov (.c (.int .i64 7)),none⟩])
 .skip))
 (.seq (.seq (.reg [⟨some 100,.mov (.t 11),none⟩,⟨some 101,.eql (.one .i) false (.t 100) (.c (.int .i64 0)),none⟩])
 (.cond (.t 101) (.reg [⟨some 102,.mov (.t 12),none⟩,⟨some 11,.mov (.t 102),none⟩])
 .skip))
 (.seq (.reg [⟨some 103,.mov (.t 11),none⟩,⟨some 104,.eql (.one .i) true (.t 103) (.c (.int .i64 0)),none⟩])
 (.cond (.t 104) (.seq (.reg [⟨some 105,.mov (.t 9),none⟩,⟨some 106,.mov (.t 11),none⟩,⟨some 2,.mov (.c (.int .i64 3)),none⟩,⟨some 3,.mov (.t 105),none⟩,⟨some 4,.mov (.t 106),none⟩])
 (.jump .ret))
 .skip)))))))))
 (.reg [⟨some 66,.mov (.t 9),none⟩,⟨some 67,.bin .add (.t 66) (.c (.int .i64 1)),none⟩,⟨some 9,.mov (.t 67),none⟩]))
def L16_4 : ACode := .seq (.seq (.reg [⟨some 111,.mov (.t 13),none⟩,⟨some 112,.faddr (.t 1) 6,none⟩,⟨some 113,.load none (.t 112),none⟩,⟨some 114,.len 1 (.t 113),none⟩,⟨some 115,.bin .lss (.t 111) (.t 114),none⟩])
 (.cond (.t 115) .skip
 (.jump (.exit 4))))
 (.seq (.block 5 (.seq (.reg [⟨some 118,.faddr (.t 1) 6,none⟩,⟨some 119,.load none (.t 118),none⟩,⟨some 120,.mov (.t 13),none⟩,⟨some 121,.iaddr none 3 (.t 119) (.t 120),none⟩,⟨some 122,.load (some 3) (.t 121),none⟩,⟨some 14,.alloc [.int .i64 0, .int .i64 0, .int .i64 0],none⟩,⟨none,.store 3 (.t 14) (.t 122),none⟩])
 (.seq (.seq (.reg [⟨some 123,.faddr (.t 14) 0,none⟩,⟨some 124,.load none (.t 123),none⟩,⟨some 125,.faddr (.t 1) 5,none⟩,⟨some 126,.load none (.t 125),none⟩,⟨some 127,.len 1 (.t 126),none⟩,⟨some 128,.bin .sub (.t 127) (.c (.int .i64 1)),none⟩,⟨some 129,.call (.c (.func 66 [] [])) [(.t 124), (.c (.int .i64 0)), (.t 128)],none⟩,⟨some 130,.not (.t 129),none⟩])
 (.cond (.t 130) (.seq (.reg [⟨some 131,.mov (.t 13),none⟩,⟨some 2,.mov (.c (.int .i64 4)),none⟩,⟨some 3,.mov (.t 131),none⟩,⟨some 4,.mov (.c (.int .i64 4)),none⟩])
 (.jump .ret))
 .skip))
 (.seq (.dreg [⟨⟨some 132,.faddr (.t 14) 1,none⟩, 0, 1⟩,⟨⟨some 133,.load none (.t 132),none⟩, 0, 1⟩,⟨⟨some 134,.load (some 7) (.t 1),none⟩, 0, 0⟩,⟨⟨some 135,.call (.c (.func 69 [] [])) [.t 134],none⟩, 0, 1⟩,⟨⟨some 136,.call (.c (.func 66 [] [])) [(.t 133), (.c (.int .i64 0)), (.t 135)],none⟩, 1, 2⟩,⟨⟨some 137,.not (.t 136),none⟩, 2, 2⟩,⟨⟨some 138,.mov (.t 137),none⟩, 2, 2⟩,⟨⟨some 139,.faddr (.t 14) 2,(some (138, false))⟩, 2, 2⟩,⟨⟨some 140,.load none (.t 139),(some (138, false))⟩, 2, 2⟩,⟨⟨some 141,.call (.c (.func 66 [] [])) [(.t 140), (.c (.int .i64 0)), (.c (.int .i64 30))],(some (138, false))⟩, 2, 3⟩,⟨⟨some 142,.not (.t 141),(some (138, false))⟩, 3, 3⟩,⟨⟨some 143,.pick (.t 138) (.c (.bool true)) (.t 142),none⟩, 3, 3⟩])
 (.cond (.t 143) (.seq (.reg [⟨some 144,.mov (.t 13),none⟩,⟨some 2,.mov (.c (.int .i64 4)),none⟩,⟨some 3,.mov (.t 144),none⟩,⟨some 4,.mov (.c (.int .i64 7)),none⟩])
 (.jump .ret))
 .skip)))))
 (.reg [⟨some 116,.mov (.t 13),none⟩,⟨some 117,.bin .add (.t 116) (.c (.int .i64 1)),none⟩,⟨some 13,.mov (.t 117),none⟩]))
def a16 : AFunc := ⟨145, [.tmp 2, .tmp 3, .tmp 4],
 .seq (.reg [⟨some 1,.box 7 (.t 0),none⟩,⟨some 2,.mov (.c (.int .i64 0)),none⟩,⟨some 3,.mov (.c (.int .i64 0)),none⟩,⟨some 4,.mov (.c (.int .i64 0)),none⟩])
 (.seq (.seq (.reg [⟨some 15,.faddr (.t 1) 0,none⟩,⟨some 16,.load none (.t 15),none⟩,⟨some 17,.len 1 (.t 16),none⟩,⟨some 18,.call (.c (.func 66 [] [])) [(.t 17), (.c (.int .i64 1)), (.c (.int .i64 7))],none⟩,⟨some 19,.not (.t 18),none⟩])
 (.cond (.t 19) (.seq (.reg [⟨some 2,.mov (.c (.int .i64 1)),none⟩,⟨some 3,.mov (.c (.int .i64 0)),none⟩,⟨some 4,.mov (.c (.int .i64 3)),none⟩])
 (.jump .ret))
 .skip))
 (.seq (.seq (.reg [⟨some 5,.mov (.c (.int .i64 0)),none⟩])
 (.block 0 (.loop L16_0)))
 (.seq (.reg [⟨some 37,.faddr (.t 1) 3,none⟩,⟨some 38,.load (some 2) (.t 37),none⟩,⟨some 39,.call (.c (.func 67 [] [])) [(.t 38), (.c (.int .i64 0)), (.c (.int .i64 9))],none⟩,⟨some 7,.mov (.t 39),none⟩])
 (.seq (.seq (.reg [⟨some 40,.faddr (.t 1) 1,none⟩,⟨some 41,.load none (.t 40),none⟩,⟨some 42,.call (.c (.func 66 [] [])) [(.t 41), (.c (.int .i64 0)), (.c (.int .i64 30))],none⟩,⟨some 43,.not (.t 42),none⟩,⟨some 44,.mov (.t 43),none⟩,⟨some 45,.faddr (.t 1) 2,(some (44, false))⟩,⟨some 46,.load none (.t 45),(some (44, false))⟩,⟨some 47,.call (.c (.func 66 [] [])) [(.t 46), (.c (.int .i64 0)), (.c (.int .i64 30))],(some (44, false))⟩,⟨some 48,.not (.t 47),(some (44, false))⟩,⟨some 49,.pick (.t 44) (.c (.bool true)) (.t 48),none⟩,⟨some 50,.mov (.t 49),none⟩,⟨some 51,.mov (.t 7),(some (50, false))⟩,⟨some 52,.eql (.one .i) false (.t 51) (.c (.int .i64 7)),(some (50, false))⟩,⟨some 53,.pick (.t 50) (.c (.bool true)) (.t 52),none⟩])
 (.cond (.t 53) (.seq (.reg [⟨some 2,.mov (.c (.int .i64 2)),none⟩,⟨some 3,.mov (.c (.int .i64 0)),none⟩,⟨some 4,.mov (.c (.int .i64 7)),none⟩])
 (.jump .ret))
 .skip))
 (.seq (.seq (.reg [⟨some 54,.mov (.t 7),none⟩,⟨some 55,.eql (.one .i) true (.t 54) (.c (.int .i64 0)),none⟩])
 (.cond (.t 55) (.seq (.reg [⟨some 56,.mov (.t 7),none⟩,⟨some 2,.mov (.c (.int .i64 2)),none⟩,⟨some 3,.mov (.c (.int .i64 0)),none⟩,⟨some 4,.mov (.t 56),none⟩])
 (.jump .ret))
 .skip))
 (.seq (.seq (.reg [⟨some 57,.faddr (.t 1) 5,none⟩,⟨some 58,.load none (.t 57),none⟩,⟨some 59,.len 1 (.t 58),none⟩,⟨some 60,.bin .gtr (.t 59) (.c (.int .i64 4)),none⟩])
 (.cond (.t 60) (.seq (.reg [⟨some 2,.mov (.c (.int .i64 3)),none⟩,⟨some 3,.mov (.c (.int .i64 0)),none⟩,⟨some 4,.mov (.c (.int .i64 3)),none⟩])
 (.jump .ret))
 .skip))
 (.seq (.reg [⟨some 8,.mov (.c (.lit [] true none)),none⟩])
 (.seq (.seq (.reg [⟨some 9,.mov (.c (.int .i64 0)),none⟩])
 (.block 2 (.loop L16_2)))
 (.seq (.seq (.reg [⟨some 107,.faddr (.t 1) 6,none⟩,⟨some 108,.load none (.t 107),none⟩,⟨some 109,.len 1 (.t 108),none⟩,⟨some 110,.bin .gtr (.t 109) (.c (.int .i64 4)),none⟩])
 (.cond (.t 110) (.seq (.reg [⟨some 2,.mov (.c (.int .i64 4)),none⟩,⟨some 3,.mov (.c (.int .i64 0)),none⟩,⟨some 4,.mov (.c (.int .i64 3)),none⟩])
 (.jump .ret))
 .skip))
 (.seq (.seq (.reg [⟨some 13,.mov (.c (.int .i64 0)),none⟩])
 (.block 4 (.loop L16_4)))
 (.seq (.reg [⟨some 2,.mov (.c (.int .i64 0)),none⟩,⟨some 3,.mov (.c (.int .i64 0)),none⟩,⟨some 4,.mov (.c (.int .i64 0)),none⟩])
 (.jump .ret))))))))))))⟩
def a17 : AFunc := ⟨31, [.cell 6 (some 2), .tmp 7],
 .seq (.reg [⟨some 3,.box 7 (.t 0),none⟩,⟨some 6,.alloc [.int .i64 0, .int .i64 0],none⟩,⟨some 7,.mov (.c (.int .i64 0)),none⟩])
 (.seq (.dreg [⟨⟨some 11,.load (some 7) (.t 3),none⟩, 0, 1⟩,⟨⟨some 12,.mov (.t 1),none⟩, 0, 1⟩,⟨⟨some 13,.max [(.t 12), (.c (.int .i64 (-1099511627775)))],none⟩, 0, 1⟩,⟨⟨some 14,.mov (.t 2),none⟩, 0, 0⟩,⟨⟨some 15,.faddr (.t 3) 0,none⟩, 0, 0⟩,⟨⟨some 16,.load none (.t 15),none⟩, 0, 0⟩,⟨⟨some 17,.len 1 (.t 16),none⟩, 0, 0⟩,⟨⟨some 18,.mklit 1 [.t 14,.t 17],none⟩, 0, 0⟩,⟨⟨some 19,.call (.c (.func 71 [] [])) [.t 18],none⟩, 0, 1⟩,⟨⟨some 20,.call (.c (.func 70 [] [])) [.t 11,.t 13,.t 19],none⟩, 1, 2⟩,⟨⟨some 10,.mov (.t 20),none⟩, 2, 2⟩,⟨⟨some 21,.ext (.t 10) 0,none⟩, 2, 2⟩,⟨⟨some 22,.ext (.t 10) 1,none⟩, 2, 2⟩,⟨⟨some 8,.mov (.t 21),none⟩, 2, 2⟩,⟨⟨some 9,.mov (.t 22),none⟩, 2, 2⟩])
 (.seq (.seq (.reg [⟨some 23,.mov (.t 9),none⟩,⟨some 24,.eql (.one .i) true (.t 23) (.c (.int .i64 0)),none⟩])
 (.cond (.t 24) (.seq (.reg [⟨some 25,.build [.int .i64 0, .int .i64 0] [],none⟩,⟨some 26,.mov (.t 9),none⟩,⟨none,.store 2 (.t 6) (.t 25),none⟩,⟨some 7,.mov (.t 26),none⟩])
 (.jump .ret))
 .skip))
 (.seq (.reg [⟨some 27,.mov (.t 8),none⟩,⟨some 28,.mov (.t 1),none⟩,⟨some 29,.mov (.t 2),none⟩,⟨some 30,.call (.c (.func 72 [] [])) [.t 27,.t 28,.t 29],none⟩,⟨none,.store 2 (.t 6) (.t 30),none⟩,⟨some 7,.mov (.c (.int .i64 0)),none⟩])
 (.jump .ret))))⟩
def a18 : AFunc := ⟨30, [.cell 6 (some 2), .tmp 7],
 .seq (.reg [⟨some 3,.box 7 (.t 0),none⟩,⟨some 6,.alloc [.int .i64 0, .int .i64 0],none⟩,⟨some 7,.mov (.c (.int .i64 0)),none⟩])
 (.seq (.dreg [⟨⟨some 11,.load (some 7) (.t 3),none⟩, 0, 3⟩,⟨⟨some 12,.mov (.t 2),none⟩, 0, 2⟩,⟨⟨some 13,.load (some 7) (.t 3),none⟩, 0, 0⟩,⟨⟨some 14,.call (.c (.func 69 [] [])) [.t 13],none⟩, 0, 1⟩,⟨⟨some 15,.load (some 7) (.t 3),none⟩, 0, 1⟩,⟨⟨some 16,.mov (.t 1),none⟩, 0, 1⟩,⟨⟨some 17,.call (.c (.func 75 [] [])) [.t 15,.t 16],none⟩, 1, 2⟩,⟨⟨some 18,.call (.c (.func 74 [] [])) [.t 12,.t 14,.t 17],none⟩, 2, 3⟩,⟨⟨some 19,.call (.c (.func 73 [] [])) [.t 11,.t 18],none⟩, 3, 4⟩,⟨⟨some 10,.mov (.t 19),none⟩, 4, 4⟩,⟨⟨some 20,.ext (.t 10) 0,none⟩, 4, 4⟩,⟨⟨some 21,.ext (.t 10) 1,none⟩, 4, 4⟩,⟨⟨some 8,.mov (.t 20),none⟩, 4, 4⟩,⟨⟨some 9,.mov (.t 21),none⟩, 4, 4⟩])
 (.seq (.seq (.reg [⟨some 22,.mov (.t 9),none⟩,⟨some 23,.eql (.one .i) true (.t 22) (.c (.int .i64 0)),none⟩])
 (.cond (.t 23) (.seq (.reg [⟨some 24,.build [.int .i64 0, .int .i64 0] [],none⟩,⟨some 25,.mov (.t 9),none⟩,⟨none,.store 2 (.t 6) (.t 24),none⟩,⟨some 7,.mov (.t 25),none⟩])
 (.jump .ret))
 .skip))
 (.seq (.reg [⟨some 26,.mov (.t 8),none⟩,⟨some 27,.mov (.t 1),none⟩,⟨some 28,.mov (.t 2),none⟩,⟨some 29,.call (.c (.func 76 [] [])) [.t 26,.t 27,.t 28],none⟩,⟨none,.store 2 (.t 6) (.t 29),none⟩,⟨some 7,.mov (.c (.int .i64 0)),none⟩])
 (.jump .ret))))⟩
def L19_0 : ACode := .seq (.reg [⟨some 26,.mnext (.t 25),none⟩,⟨some 27,.ext (.t 26) 0,none⟩])
 (.seq (.cond (.t 27) .skip
 (.jump (.exit 0)))
 (.block 1 (.seq (.reg [⟨some 28,.entry (.t 25),none⟩,⟨some 29,.ext (.t 28) 1,none⟩,⟨some 10,.alloc [.int .i64 0, .int .i64 0, .int .i64 0, .int .i64 0],none⟩,⟨none,.store 4 (.t 10) (.t 29),none⟩])
 (.reg [⟨some 30,.mov (.t 8),none⟩,⟨some 31,.mov (.t 1),none⟩,⟨some 32,.iaddr (some 4) 1 (.t 10) (.t 31),none⟩,⟨some 33,.load none (.t 32),none⟩,⟨some 34,.bin .or (.t 30) (.t 33),none⟩,⟨some 8,.mov (.t 34),none⟩]))))
def a19 : AFunc := ⟨40, [.tmp 4, .tmp 5],
 .seq (.reg [⟨some 2,.box 7 (.t 0),none⟩,⟨some 4,.mov (.c (.lit [] true none)),none⟩,⟨some 5,.mov (.c (.int .i64 0)),none⟩])
 (.seq (.reg [⟨some 12,.load (some 7) (.t 2),none⟩,⟨some 13,.mov (.t 1),none⟩,⟨some 14,.max [(.t 13), (.c (.int .i64 (-1099511627775)))],none⟩,⟨some 15,.call (.c (.func 70 [] [])) [(.t 12), (.t 14), (.c (.func 77 [] []))],none⟩,⟨some 11,.mov (.t 15),none⟩,⟨some 16,.ext (.t 11) 0,none⟩,⟨some 17,.ext (.t 11) 1,none⟩,⟨some 6,.mov (.t 16),none⟩,⟨some 7,.mov (.t 17),none⟩])
 (.seq (.seq (.reg [⟨some 18,.mov (.t 7),none⟩,⟨some 19,.eql (.one .i) true (.t 18) (.c (.int .i64 0)),none⟩])
 (.cond (.t 19) (.seq (.reg [⟨some 20,.mov (.t 7),none⟩,⟨some 4,.mov (.c (.lit [] true none)),none⟩,⟨some 5,.mov (.t 20),none⟩])
 (.jump .ret))
 .skip))
 (.seq (.reg [⟨some 8,.mov (.c (.int .i64 0)),none⟩])
 (.seq (.seq (.reg [⟨some 21,.mov (.t 6),none⟩,⟨some 22,.nilCheck (.t 21),none⟩,⟨some 23,.faddr (.t 22) 8,none⟩,⟨some 24,.load none (.t 23),none⟩,⟨some 25,.mrange (.t 24),none⟩])
 (.block 0 (.loop L19_0)))
 (.seq (.reg [⟨some 35,.mov (.t 8),none⟩,⟨some 36,.faddr (.t 2) 0,none⟩,⟨some 37,.load none (.t 36),none⟩,⟨some 38,.len 1 (.t 37),none⟩,⟨some 39,.call (.c (.func 78 [] [])) [.t 35,.t 38],none⟩,⟨some 4,.mov (.t 39),none⟩,⟨some 5,.mov (.c (.int .i64 0)),none⟩])
 (.jump .ret))))))⟩
def L20_2 : ACode := .seq (.seq (.reg [⟨some 29,.mov (.t 11),none⟩,⟨some 30,.mov (.t 6),none⟩,⟨some 31,.len 1 (.t 30),none⟩,⟨some 32,.bin .lss (.t 29) (.t 31),none⟩])
 (.cond (.t 32) .skip
 (.jump (.exit 2))))
 (.seq (.block 3 (.reg [⟨some 35,.mov (.t 10),none⟩,⟨some 36,.mov (.t 35),none⟩,⟨some 37,.mov (.t 6),(some (36, false))⟩,⟨some 38,.mov (.t 11),(some (36, false))⟩,⟨some 39,.iaddr none 2 (.t 37) (.t 38),(some (36, false))⟩,⟨some 40,.faddr (.t 39) 1,(some (36, false))⟩,⟨some 41,.load none (.t 40),(some (36, false))⟩,⟨some 42,.mov (.t 1),(some (36, false))⟩,⟨some 43,.iaddr none 1 (.t 41) (.t 42),(some (36, false))⟩,⟨some 44,.load none (.t 43),(some (36, false))⟩,⟨some 45,.mov (.t 9),(some (36, false))⟩,⟨some 46,.call (.c (.func 44 [] [])) [.t 44,.t 45],(some (36, false))⟩,⟨some 47,.pick (.t 36) (.c (.bool true)) (.t 46),none⟩,⟨some 10,.mov (.t 47),none⟩]))
 (.reg [⟨some 33,.mov (.t 11),none⟩,⟨some 34,.bin .add (.t 33) (.c (.int .i64 1)),none⟩,⟨some 11,.mov (.t 34),none⟩]))
def L20_0 : ACode := .seq (.seq (.reg [⟨some 23,.mov (.t 9),none⟩,⟨some 24,.load (some 7) (.t 2),none⟩,⟨some 25,.call (.c (.func 69 [] [])) [.t 24],none⟩,⟨some 26,.bin .lss (.t 23) (.t 25),none⟩])
 (.cond (.t 26) .skip
 (.jump (.exit 0))))
 (.seq (.block 1 (.seq (.reg [⟨some 10,.mov (.c (.bool false)),none⟩])
 (.seq (.seq (.reg [⟨some 11,.mov (.c (.int .i64 0)),none⟩])
 (.block 2 (.loop L20_2)))
 (.seq (.reg [⟨some 48,.mov (.t 10),none⟩])
 (.cond (.t 48) (.reg [⟨some 49,.mov (.t 8),none⟩,⟨some 50,.mov (.t 9),none⟩,⟨some 51,.mklit 1 [.t 50],none⟩,⟨some 52,.append 1 8 (.t 49) (.t 51),none⟩,⟨some 8,.mov (.t 52),none⟩])
 .skip)))))
 (.reg [⟨some 27,.mov (.t 9),none⟩,⟨some 28,.bin .add (.t 27) (.c (.int .i64 1)),none⟩,⟨some 9,.mov (.t 28),none⟩]))
def a20 : AFunc := ⟨54, [.tmp 4, .tmp 5],
 .seq (.reg [⟨some 2,.box 7 (.t 0),none⟩,⟨some 4,.mov (.c (.lit [] true none)),none⟩,⟨some 5,.mov (.c (.int .i64 0)),none⟩])
 (.seq (.dreg [⟨⟨some 13,.load (some 7) (.t 2),none⟩, 0, 1⟩,⟨⟨some 14,.load (some 7) (.t 2),none⟩, 0, 0⟩,⟨⟨some 15,.mov (.t 1),none⟩, 0, 0⟩,⟨⟨some 16,.call (.c (.func 75 [] [])) [.t 14,.t 15],none⟩, 0, 1⟩,⟨⟨some 17,.call (.c (.func 73 [] [])) [.t 13,.t 16],none⟩, 1, 2⟩,⟨⟨some 12,.mov (.t 17),none⟩, 2, 2⟩,⟨⟨some 18,.ext (.t 12) 0,none⟩, 2, 2⟩,⟨⟨some 19,.ext (.t 12) 1,none⟩, 2, 2⟩,⟨⟨some 6,.mov (.t 18),none⟩, 2, 2⟩,⟨⟨some 7,.mov (.t 19),none⟩, 2, 2⟩])
 (.seq (.seq (.reg [⟨some 20,.mov (.t 7),none⟩,⟨some 21,.eql (.one .i) true (.t 20) (.c (.int .i64 0)),none⟩])
 (.cond (.t 21) (.seq (.reg [⟨some 22,.mov (.t 7),none⟩,⟨some 4,.mov (.c (.lit [] true none)),none⟩,⟨some 5,.mov (.t 22),none⟩])
 (.jump .ret))
 .skip))
 (.seq (.reg [⟨some 8,.mov (.c (.lit [] true none)),none⟩])
 (.seq (.seq (.reg [⟨some 9,.mov (.c (.int .i64 0)),none⟩])
 (.block 0 (.loop L20_0)))
 (.seq (.reg [⟨some 53,.mov (.t 8),none⟩,⟨some 4,.mov (.t 53),none⟩,⟨some 5,.mov (.c (.int .i64 0)),none⟩])
 (.jump .ret))))))⟩
def a21 : AFunc := ⟨22, [.tmp 4],
 .seq (.reg [⟨some 4,.mov (.c (.bool false)),none⟩])
 (.seq (.reg [⟨some 5,.mov (.t 0),none⟩,⟨some 6,.len 1 (.t 5),none⟩,⟨some 7,.mov (.t 1),none⟩,⟨some 8,.len 1 (.t 7),none⟩,⟨some 9,.eql (.one .i) false (.t 6) (.t 8),none⟩,⟨some 10,.mov (.t 9),none⟩,⟨some 11,.mov (.t 0),(some (10, true))⟩,⟨some 12,.mov (.t 1),(some (10, true))⟩,⟨some 13,.call (.c (.func 79 [] [])) [.t 11,.t 12],(some (10, true))⟩,⟨some 14,.not (.t 13),(some (10, true))⟩,⟨some 15,.pick (.t 10) (.t 14) (.c (.bool false)),none⟩,⟨some 16,.mov (.t 15),none⟩,⟨some 17,.mov (.t 1),(some (16, true))⟩,⟨some 18,.mov (.t 0),(some (16, true))⟩,⟨some 19,.call (.c (.func 79 [] [])) [.t 17,.t 18],(some (16, true))⟩,⟨some 20,.not (.t 19),(some (16, true))⟩,⟨some 21,.pick (.t 16) (.t 20) (.c (.bool false)),none⟩,⟨some 4,.mov (.t 21),none⟩])
 (.jump .ret))⟩
def a22 : AFunc := ⟨205, [.tmp 0],
 .seq (.reg [⟨some 0,.mov (.c (.bool false)),none⟩])
 (.seq (.reg [⟨some 31,.call (.c (.func 35 [] [])) [(.c (.lit [] true none))],none⟩,⟨some 32,.call (.c (.func 36 [] [])) [(.c (.int .i64 1)), (.c (.int .i64 3)), (.c (.int .i64 2))],none⟩,⟨some 33,.mklit 3 [.t 32],none⟩,⟨some 34,.call (.c (.func 35 [] [])) [.t 33],none⟩,⟨some 1,.alloc [.lit [] true none, .int .i64 0, .int .i64 0, .int .i64 0, .int .i64 0, .lit [] true none, .lit [] true none],none⟩,⟨some 2,.alloc [.lit [] true none, .int .i64 0, .int .i64 0, .int .i64 0, .int .i64 0, .lit [] true none, .lit [] true none],none⟩,⟨none,.store 7 (.t 1) (.t 31),none⟩,⟨none,.store 7 (.t 2) (.t 34),none⟩])
 (.seq (.reg [⟨some 35,.call (.c (.func 36 [] [])) [(.c (.int .i64 1)), (.c (.int .i64 3)), (.c (.int .i64 2))],none⟩,⟨some 36,.call (.c (.func 36 [] [])) [(.c (.int .i64 0)), (.c (.int .i64 1)), (.c (.int .i64 3))],none⟩,⟨some 37,.mklit 3 [.t 35,.t 36],none⟩,⟨some 38,.call (.c (.func 35 [] [])) [.t 37],none⟩,⟨some 3,.alloc [.lit [] true none, .int .i64 0, .int .i64 0, .int .i64 0, .int .i64 0, .lit [] true none, .lit [] true none],none⟩,⟨none,.store 7 (.t 3) (.t 38),none⟩])
 (.seq (.reg [⟨some 40,.load (some 7) (.t 1),none⟩,⟨some 41,.call (.c (.func 17 [] [])) [(.t 40), (.c (.int .i64 1)), (.c (.int .i64 4))],none⟩,⟨some 39,.mov (.t 41),none⟩,⟨some 42,.ext (.t 39) 0,none⟩,⟨some 43,.ext (.t 39) 1,none⟩,⟨some 4,.alloc [.int .i64 0, .int .i64 0],none⟩,⟨none,.store 2 (.t 4) (.t 42),none⟩,⟨some 5,.mov (.t 43),none⟩])
 (.seq (.reg [⟨some 45,.load (some 7) (.t 2),none⟩,⟨some 46,.call (.c (.func 17 [] [])) [(.t 45), (.c (.int .i64 1)), (.c (.int .i64 4))],none⟩,⟨some 44,.mov (.t 46),none⟩,⟨some 47,.ext (.t 44) 0,none⟩,⟨some 48,.ext (.t 44) 1,none⟩,⟨some 6,.alloc [.int .i64 0, .int .i64 0],none⟩,⟨none,.store 2 (.t 6) (.t 47),none⟩,⟨some 7,.mov (.t 48),none⟩])
 (.seq (.reg [⟨some 50,.load (some 7) (.t 1),none⟩,⟨some 51,.call (.c (.func 23 [] [])) [(.t 50), (.c (.int .i64 0)), (.c (.int .i64 4))],none⟩,⟨some 49,.mov (.t 51),none⟩,⟨some 52,.ext (.t 49) 0,none⟩,⟨some 53,.ext (.t 49) 1,none⟩,⟨some 8,.mov (.t 52),none⟩,⟨some 9,.mov (.t 53),none⟩])
 (.seq (.reg [⟨some 55,.load (some 7) (.t 1),none⟩,⟨some 56,.call (.c (.func 23 [] [])) [(.t 55), (.c (.int .i64 0)), (.c (.int .i64 3))],none⟩,⟨some 54,.mov (.t 56),none⟩,⟨some 57,.ext (.t 54) 0,none⟩,⟨some 58,.ext (.t 54) 1,none⟩,⟨some 10,.mov (.t 57),none⟩,⟨some 11,.mov (.t 58),none⟩])
 (.seq (.reg [⟨some 60,.load (some 7) (.t 1),none⟩,⟨some 61,.call (.c (.func 25 [] [])) [(.t 60), (.c (.int .i64 0))],none⟩,⟨some 59,.mov (.t 61),none⟩,⟨some 62,.ext (.t 59) 0,none⟩,⟨some 63,.ext (.t 59) 1,none⟩,⟨some 64,.ext (.t 59) 2,none⟩,⟨some 12,.mov (.t 62),none⟩,⟨some 13,.mov (.t 63),none⟩,⟨some 14,.mov (.t 64),none⟩])
 (.seq (.reg [⟨some 66,.load (some 7) (.t 1),none⟩,⟨some 67,.call (.c (.func 27 [] [])) [(.t 66), (.c (.int .i64 0))],none⟩,⟨some 65,.mov (.t 67),none⟩,⟨some 68,.ext (.t 65) 0,none⟩,⟨some 69,.ext (.t 65) 1,none⟩,⟨some 15,.mov (.t 68),none⟩,⟨some 16,.mov (.t 69),none⟩])
 (.seq (.reg [⟨some 71,.load (some 7) (.t 1),none⟩,⟨some 72,.call (.c (.func 31 [] [])) [(.t 71), (.c (.int .i64 4)), (.c (.int .i64 50))],none⟩,⟨some 70,.mov (.t 72),none⟩,⟨some 73,.ext (.t 70) 0,none⟩,⟨some 74,.ext (.t 70) 1,none⟩,⟨some 75,.ext (.t 70) 2,none⟩,⟨some 17,.mov (.t 73),none⟩,⟨some 18,.mov (.t 74),none⟩,⟨some 19,.mov (.t 75),none⟩])
 (.seq (.reg [⟨some 77,.load (some 7) (.t 1),none⟩,⟨some 78,.call (.c (.func 31 [] [])) [(.t 77), (.c (.int .i64 4)), (.c (.int .i64 80))],none⟩,⟨some 76,.mov (.t 78),none⟩,⟨some 79,.ext (.t 76) 0,none⟩,⟨some 80,.ext (.t 76) 1,none⟩,⟨some 81,.ext (.t 76) 2,none⟩,⟨some 20,.mov (.t 79),none⟩,⟨some 21,.mov (.t 80),none⟩,⟨some 22,.mov (.t 81),none⟩])
 (.seq (.reg [⟨some 83,.load (some 7) (.t 2),none⟩,⟨some 84,.call (.c (.func 29 [] [])) [(.t 83), (.c (.int .i64 1))],none⟩,⟨some 82,.mov (.t 84),none⟩,⟨some 85,.ext (.t 82) 0,none⟩,⟨some 86,.ext (.t 82) 1,none⟩,⟨some 23,.alloc [.int .i64 0, .int .i64 0],none⟩,⟨none,.store 2 (.t 23) (.t 85),none⟩,⟨some 24,.mov (.t 86),none⟩])
 (.seq (.reg [⟨some 88,.load (some 7) (.t 2),none⟩,⟨some 89,.call (.c (.func 19 [] [])) [(.t 88), (.c (.int .i64 1))],none⟩,⟨some 87,.mov (.t 89),none⟩,⟨some 90,.ext (.t 87) 0,none⟩,⟨some 91,.ext (.t 87) 1,none⟩,⟨some 25,.mov (.t 90),none⟩,⟨some 26,.mov (.t 91),none⟩])
 (.seq (.reg [⟨some 93,.load (some 7) (.t 3),none⟩,⟨some 94,.call (.c (.func 33 [] [])) [.t 93],none⟩,⟨some 92,.mov (.t 94),none⟩,⟨some 95,.ext (.t 92) 0,none⟩,⟨some 96,.ext (.t 92) 1,none⟩,⟨some 27,.mov (.t 95),none⟩,⟨some 28,.mov (.t 96),none⟩])
 (.seq (.reg [⟨some 98,.load (some 7) (.t 3),none⟩,⟨some 99,.call (.c (.func 27 [] [])) [(.t 98), (.c (.int .i64 0))],none⟩,⟨some 97,.mov (.t 99),none⟩,⟨some 100,.ext (.t 97) 0,none⟩,⟨some 101,.ext (.t 97) 1,none⟩,⟨some 29,.mov (.t 100),none⟩,⟨some 30,.mov (.t 101),none⟩])
 (.seq (.dreg [⟨⟨some 102,.mov (.t 5),none⟩, 0, 0⟩,⟨⟨some 103,.eql (.one .i) false (.t 102) (.c (.int .i64 0)),none⟩, 0, 0⟩,⟨⟨some 104,.mov (.t 103),none⟩, 0, 0⟩,⟨⟨some 105,.mov (.t 7),(some (104, true))⟩, 0, 0⟩,⟨⟨some 106,.eql (.one .i) false (.t 105) (.c (.int .i64 0)),(some (104, true))⟩, 0, 0⟩,⟨⟨some 107,.pick (.t 104) (.t 106) (.c (.bool false)),none⟩, 0, 0⟩,⟨⟨some 108,.mov (.t 107),none⟩, 0, 0⟩,⟨⟨some 109,.mov (.t 9),(some (108, true))⟩, 0, 0⟩,⟨⟨some 110,.eql (.one .i) false (.t 109) (.c (.int .i64 0)),(some (108, true))⟩, 0, 0⟩,⟨⟨some 111,.pick (.t 108) (.t 110) (.c (.bool false)),none⟩, 0, 0⟩,⟨⟨some 112,.mov (.t 111),none⟩, 0, 0⟩,⟨⟨some 113,.mov (.t 11),(some (112, true))⟩, 0, 0⟩,⟨⟨some 114,.eql (.one .i) false (.t 113) (.c (.int .i64 0)),(some (112, true))⟩, 0, 0⟩,⟨⟨some 115,.pick (.t 112) (.t 114) (.c (.bool false)),none⟩, 0, 0⟩,⟨⟨some 116,.mov (.t 115),none⟩, 0, 0⟩,⟨⟨some 117,.mov (.t 14),(some (116, true))⟩, 0, 0⟩,⟨⟨some 118,.eql (.one .i) false (.t 117) (.c (.int .i64 0)),(some (116, true))⟩, 0, 0⟩,⟨⟨some 119,.pick (.t 116) (.t 118) (.c (.bool false)),none⟩, 0, 0⟩,⟨⟨some 120,.mov (.t 119),none⟩, 0, 0⟩,⟨⟨some 121,.mov (.t 16),(some (120, true))⟩, 0, 0⟩,⟨⟨some 122,.eql (.one .i) false (.t 121) (.c (.int .i64 0)),(some (120, true))⟩, 0, 0⟩,⟨⟨some 123,.pick (.t 120) (.t 122) (.c (.bool false)),none⟩, 0, 0⟩,⟨⟨some 124,.mov (.t 123),none⟩, 0, 0⟩,⟨⟨some 125,.mov (.t 19),(some (124, true))⟩, 0, 0⟩,⟨⟨some 126,.eql (.one .i) false (.t 125) (.c (.int .i64 0)),(some (124, true))⟩, 0, 0⟩,⟨⟨some 127,.pick (.t 124) (.t 126) (.c (.bool false)),none⟩, 0, 0⟩,⟨⟨some 128,.mov (.t 127),none⟩, 0, 0⟩,⟨⟨some 129,.mov (.t 22),(some (128, true))⟩, 0, 0⟩,⟨⟨some 130,.eql (.one .i) false (.t 129) (.c (.int .i64 9)),(some (128, true))⟩, 0, 0⟩,⟨⟨some 131,.pick (.t 128) (.t 130) (.c (.bool false)),none⟩, 0, 0⟩,⟨⟨some 132,.mov (.t 131),none⟩, 0, 0⟩,⟨⟨some 133,.mov (.t 24),(some (132, true))⟩, 0, 0⟩,⟨⟨some 134,.eql (.one .i) false (.t 133) (.c (.int .i64 0)),(some (132, true))⟩, 0, 0⟩,⟨⟨some 135,.pick (.t 132) (.t 134) (.c (.bool false)),none⟩, 0, 0⟩,⟨⟨some 136,.mov (.t 135),none⟩, 0, 0⟩,⟨⟨some 137,.mov (.t 26),(some (136, true))⟩, 0, 0⟩,⟨⟨some 138,.eql (.one .i) false (.t 137) (.c (.int .i64 0)),(some (136, true))⟩, 0, 0⟩,⟨⟨some 139,.pick (.t 136) (.t 138) (.c (.bool false)),none⟩, 0, 0⟩,⟨⟨some 140,.mov (.t 139),none⟩, 0, 0⟩,⟨⟨some 141,.mov (.t 28),(some (140, true))⟩, 0, 0⟩,⟨⟨some 142,.eql (.one .i) false (.t 141) (.c (.int .i64 0)),(some (140, true))⟩, 0, 0⟩,⟨⟨some 143,.pick (.t 140) (.t 142) (.c (.bool false)),none⟩, 0, 0⟩,⟨⟨some 144,.mov (.t 143),none⟩, 0, 0⟩,⟨⟨some 145,.mov (.t 30),(some (144, true))⟩, 0, 0⟩,⟨⟨some 146,.eql (.one .i) false (.t 145) (.c (.int .i64 8)),(some (144, true))⟩, 0, 0⟩,⟨⟨some 147,.pick (.t 144) (.t 146) (.c (.bool false)),none⟩, 0, 0⟩,⟨⟨some 148,.mov (.t 147),none⟩, 0, 0⟩,⟨⟨some 149,.load (some 2) (.t 4),(some (148, true))⟩, 0, 1⟩,⟨⟨some 150,.call (.c (.func 37 [] [])) [(.c (.int .i64 3)), (.c (.int .i64 6))],(some (148, true))⟩, 0, 1⟩,⟨⟨some 151,.eql (.agg [.i, .i]) false (.t 149) (.t 150),(some (148, true))⟩, 1, 1⟩,⟨⟨some 152,.pick (.t 148) (.t 151) (.c (.bool false)),none⟩, 1, 1⟩,⟨⟨some 153,.mov (.t 152),none⟩, 1, 1⟩,⟨⟨some 154,.load (some 2) (.t 6),(some (153, true))⟩, 1, 2⟩,⟨⟨some 155,.call (.c (.func 37 [] [])) [(.c (.int .i64 4)), (.c (.int .i64 5))],(some (153, true))⟩, 1, 2⟩,⟨⟨some 156,.eql (.agg [.i, .i]) false (.t 154) (.t 155),(some (153, true))⟩, 2, 2⟩,⟨⟨some 157,.pick (.t 153) (.t 156) (.c (.bool false)),none⟩, 2, 2⟩,⟨⟨some 158,.mov (.t 157),none⟩, 2, 2⟩,⟨⟨some 159,.mov (.t 8),(some (158, true))⟩, 2, 2⟩,⟨⟨some 160,.eql (.one .i) false (.t 159) (.c (.int .i64 1)),(some (158, true))⟩, 2, 2⟩,⟨⟨some 161,.pick (.t 158) (.t 160) (.c (.bool false)),none⟩, 2, 2⟩,⟨⟨some 162,.mov (.t 161),none⟩, 2, 2⟩,⟨⟨some 163,.mov (.t 10),(some (162, true))⟩, 2, 2⟩,⟨⟨some 164,.eql (.one .i) false (.t 163) (.c (.int .i64 2)),(some (162, true))⟩, 2, 2⟩,⟨⟨some 165,.pick (.t 162) (.t 164) (.c (.bool false)),none⟩, 2, 2⟩,⟨⟨some 166,.mov (.t 165),none⟩, 2, 2⟩,⟨⟨some 167,.mov (.t 12),(some (166, true))⟩, 2, 2⟩,⟨⟨some 168,.mklit 1 [(.c (.int .i64 4))],(some (166, true))⟩, 2, 2⟩,⟨⟨some 169,.call (.c (.func 21 [] [])) [.t 167,.t 168],(some (166, true))⟩, 2, 3⟩,⟨⟨some 170,.pick (.t 166) (.t 169) (.c (.bool false)),none⟩, 3, 3⟩,⟨⟨some 171,.mov (.t 170),none⟩, 3, 3⟩,⟨⟨some 172,.mov (.t 13),(some (171, true))⟩, 3, 3⟩,⟨⟨some 173,.mklit 1 [(.c (.int .i64 4)), (.c (.int .i64 5))],(some (171, true))⟩, 3, 3⟩,⟨⟨some 174,.call (.c (.func 21 [] [])) [.t 172,.t 173],(some (171, true))⟩, 3, 4⟩,⟨⟨some 175,.pick (.t 171) (.t 174) (.c (.bool false)),none⟩, 4, 4⟩,⟨⟨some 176,.mov (.t 175),none⟩, 4, 4⟩,⟨⟨some 177,.mov (.t 15),(some (176, true))⟩, 4, 4⟩,⟨⟨some 178,.eql (.one .i) false (.t 177) (.c (.int .i64 4)),(some (176, true))⟩, 4, 4⟩,⟨⟨some 179,.pick (.t 176) (.t 178) (.c (.bool false)),none⟩, 4, 4⟩,⟨⟨some 180,.mov (.t 179),none⟩, 4, 4⟩,⟨⟨some 181,.mov (.t 17),(some (180, true))⟩, 4, 4⟩,⟨⟨some 182,.mklit 1 [(.c (.int .i64 0)), (.c (.int .i64 1))],(some (180, true))⟩, 4, 4⟩,⟨⟨some 183,.call (.c (.func 21 [] [])) [.t 181,.t 182],(some (180, true))⟩, 4, 5⟩,⟨⟨some 184,.pick (.t 180) (.t 183) (.c (.bool false)),none⟩, 5, 5⟩,⟨⟨some 185,.mov (.t 184),none⟩, 5, 5⟩,⟨⟨some 186,.mov (.t 18),(some (185, true))⟩, 5, 5⟩,⟨⟨some 187,.mklit 1 [(.c (.int .i64 1))],(some (185, true))⟩, 5, 5⟩,⟨⟨some 188,.call (.c (.func 21 [] [])) [.t 186,.t 187],(some (185, true))⟩, 5, 6⟩,⟨⟨some 189,.pick (.t 185) (.t 188) (.c (.bool false)),none⟩, 6, 6⟩,⟨⟨some 190,.mov (.t 189),none⟩, 6, 6⟩,⟨⟨some 191,.load (some 2) (.t 23),(some (190, true))⟩, 6, 7⟩,⟨⟨some 192,.call (.c (.func 37 [] [])) [(.c (.int .i64 0)), (.c (.int .i64 0))],(some (190, true))⟩, 6, 7⟩,⟨⟨some 193,.eql (.agg [.i, .i]) false (.t 191) (.t 192),(some (190, true))⟩, 7, 7⟩,⟨⟨some 194,.pick (.t 190) (.t 193) (.c (.bool false)),none⟩, 7, 7⟩,⟨⟨some 195,.mov (.t 194),none⟩, 7, 7⟩,⟨⟨some 196,.mov (.t 25),(some (195, true))⟩, 7, 7⟩,⟨⟨some 197,.mklit 1 [(.c (.int .i64 1))],(some (195, true))⟩, 7, 7⟩,⟨⟨some 198,.call (.c (.func 21 [] [])) [.t 196,.t 197],(some (195, true))⟩, 7, 8⟩,⟨⟨some 199,.pick (.t 195) (.t 198) (.c (.bool false)),none⟩, 8, 8⟩,⟨⟨some 200,.mov (.t 199),none⟩, 8, 8⟩,⟨⟨some 201,.mov (.t 27),(some (200, true))⟩, 8, 8⟩,⟨⟨some 202,.mklit 1 [(.c (.int .i64 1))],(some (200, true))⟩, 8, 8⟩,⟨⟨some 203,.call (.c (.func 21 [] [])) [.t 201,.t 202],(some (200, true))⟩, 8, 9⟩,⟨⟨some 204,.pick (.t 200) (.t 203) (.c (.bool false)),none⟩, 9, 9⟩,⟨⟨some 0,.mov (.t 204),none⟩, 9, 9⟩])
 (.jump .ret))))))))))))))))⟩
def a23 : AFunc := ⟨30, [.tmp 6, .tmp 7],
 .seq (.reg [⟨some 3,.box 7 (.t 0),none⟩,⟨some 6,.mov (.c (.int .i64 0)),none⟩,⟨some 7,.mov (.c (.int .i64 0)),none⟩])
 (.seq (.dreg [⟨⟨some 11,.load (some 7) (.t 3),none⟩, 0, 1⟩,⟨⟨some 12,.mov (.t 1),none⟩, 0, 1⟩,⟨⟨some 13,.max [(.t 12), (.c (.int .i64 (-1099511627775)))],none⟩, 0, 1⟩,⟨⟨some 14,.mov (.t 2),none⟩, 0, 0⟩,⟨⟨some 15,.faddr (.t 3) 0,none⟩, 0, 0⟩,⟨⟨some 16,.load none (.t 15),none⟩, 0, 0⟩,⟨⟨some 17,.len 1 (.t 16),none⟩, 0, 0⟩,⟨⟨some 18,.mklit 1 [.t 14,.t 17],none⟩, 0, 0⟩,⟨⟨some 19,.call (.c (.func 71 [] [])) [.t 18],none⟩, 0, 1⟩,⟨⟨some 20,.call (.c (.func 70 [] [])) [.t 11,.t 13,.t 19],none⟩, 1, 2⟩,⟨⟨some 10,.mov (.t 20),none⟩, 2, 2⟩,⟨⟨some 21,.ext (.t 10) 0,none⟩, 2, 2⟩,⟨⟨some 22,.ext (.t 10) 1,none⟩, 2, 2⟩,⟨⟨some 8,.mov (.t 21),none⟩, 2, 2⟩,⟨⟨some 9,.mov (.t 22),none⟩, 2, 2⟩])
 (.seq (.seq (.reg [⟨some 23,.mov (.t 9),none⟩,⟨some 24,.eql (.one .i) true (.t 23) (.c (.int .i64 0)),none⟩])
 (.cond (.t 24) (.seq (.reg [⟨some 25,.mov (.t 9),none⟩,⟨some 6,.mov (.c (.int .i64 0)),none⟩,⟨some 7,.mov (.t 25),none⟩])
 (.jump .ret))
 .skip))
 (.seq (.reg [⟨some 26,.mov (.t 8),none⟩,⟨some 27,.mov (.t 1),none⟩,⟨some 28,.mov (.t 2),none⟩,⟨some 29,.call (.c (.func 80 [] [])) [.t 26,.t 27,.t 28],none⟩,⟨some 6,.mov (.t 29),none⟩,⟨some 7,.mov (.c (.int .i64 0)),none⟩])
 (.jump .ret))))⟩
def a24 : AFunc := ⟨30, [.tmp 6, .tmp 7],
 .seq (.reg [⟨some 3,.box 7 (.t 0),none⟩,⟨some 6,.mov (.c (.int .i64 0)),none⟩,⟨some 7,.mov (.c (.int .i64 0)),none⟩])
 (.seq (.dreg [⟨⟨some 11,.load (some 7) (.t 3),none⟩, 0, 3⟩,⟨⟨some 12,.mov (.t 2),none⟩, 0, 2⟩,⟨⟨some 13,.load (some 7) (.t 3),none⟩, 0, 0⟩,⟨⟨some 14,.call (.c (.func 69 [] [])) [.t 13],none⟩, 0, 1⟩,⟨⟨some 15,.load (some 7) (.t 3),none⟩, 0, 1⟩,⟨⟨some 16,.mov (.t 1),none⟩, 0, 1⟩,⟨⟨some 17,.call (.c (.func 75 [] [])) [.t 15,.t 16],none⟩, 1, 2⟩,⟨⟨some 18,.call (.c (.func 74 [] [])) [.t 12,.t 14,.t 17],none⟩, 2, 3⟩,⟨⟨some 19,.call (.c (.func 73 [] [])) [.t 11,.t 18],none⟩, 3, 4⟩,⟨⟨some 10,.mov (.t 19),none⟩, 4, 4⟩,⟨⟨some 20,.ext (.t 10) 0,none⟩, 4, 4⟩,⟨⟨some 21,.ext (.t 10) 1,none⟩, 4, 4⟩,⟨⟨some 8,.mov (.t 20),none⟩, 4, 4⟩,⟨⟨some 9,.mov (.t 21),none⟩, 4, 4⟩])
 (.seq (.seq (.reg [⟨some 22,.mov (.t 9),none⟩,⟨some 23,.eql (.one .i) true (.t 22) (.c (.int .i64 0)),none⟩])
 (.cond (.t 23) (.seq (.reg [⟨some 24,.mov (.t 9),none⟩,⟨some 6,.mov (.c (.int .i64 0)),none⟩,⟨some 7,.mov (.t 24),none⟩])
 (.jump .ret))
 .skip))
 (.seq (.reg [⟨some 25,.load (some 7) (.t 3),none⟩,⟨some 26,.mov (.t 8),none⟩,⟨some 27,.mov (.t 1),none⟩,⟨some 28,.mov (.t 2),none⟩,⟨some 29,.call (.c (.func 81 [] [])) [.t 25,.t 26,.t 27,.t 28],none⟩,⟨some 6,.mov (.t 29),none⟩,⟨some 7,.mov (.c (.int .i64 0)),none⟩])
 (.jump .ret))))⟩
def L25_0 : ACode := .seq (.reg [⟨some 25,.bin .lss (.t 24) (.t 23),none⟩])
 (.seq (.cond (.t 25) .skip
 (.jump (.exit 0)))
 (.seq (.block 1 (.seq (.reg [⟨some 26,.mov (.t 24),none⟩,⟨some 8,.mov (.t 26),none⟩])
 (.seq (.reg [⟨some 27,.mov (.t 7),none⟩,⟨some 28,.mov (.t 1),none⟩,⟨some 29,.mov (.t 8),none⟩,⟨some 30,.call (.c (.func 80 [] [])) [.t 27,.t 28,.t 29],none⟩,⟨some 9,.mov (.t 30),none⟩])
 (.seq (.seq (.reg [⟨some 31,.mov (.t 9),none⟩,⟨some 32,.eql (.one .i) false (.t 31) (.c (.int .i64 1)),none⟩])
 (.cond (.t 32) (.reg [⟨some 33,.mov (.t 4),none⟩,⟨some 34,.mov (.t 8),none⟩,⟨some 35,.mklit 1 [.t 34],none⟩,⟨some 36,.append 1 8 (.t 33) (.t 35),none⟩,⟨some 4,.mov (.t 36),none⟩])
 .skip))
 (.seq (.reg [⟨some 37,.mov (.t 9),none⟩,⟨some 38,.eql (.one .i) true (.t 37) (.c (.int .i64 2)),none⟩])
 (.cond (.t 38) (.reg [⟨some 39,.mov (.t 5),none⟩,⟨some 40,.mov (.t 8),none⟩,⟨some 41,.mklit 1 [.t 40],none⟩,⟨some 42,.append 1 8 (.t 39) (.t 41),none⟩,⟨some 5,.mov (.t 42),none⟩])
 .skip))))))
 (.reg [⟨some 43,.bin .add (.t 24) (.c (.int .i64 1)),none⟩,⟨some 24,.mov (.t 43),none⟩])))
def a25 : AFunc := ⟨46, [.tmp 4, .tmp 5, .tmp 6],
 .seq (.reg [⟨some 2,.box 7 (.t 0),none⟩,⟨some 4,.mov (.c (.lit [] true none)),none⟩,⟨some 5,.mov (.c (.lit [] true none)),none⟩,⟨some 6,.mov (.c (.int .i64 0)),none⟩])
 (.seq (.reg [⟨some 11,.load (some 7) (.t 2),none⟩,⟨some 12,.mov (.t 1),none⟩,⟨some 13,.max [(.t 12), (.c (.int .i64 (-1099511627775)))],none⟩,⟨some 14,.call (.c (.func 70 [] [])) [(.t 11), (.t 13), (.c (.func 77 [] []))],none⟩,⟨some 10,.mov (.t 14),none⟩,⟨some 15,.ext (.t 10) 0,none⟩,⟨some 16,.ext (.t 10) 1,none⟩,⟨some 7,.mov (.t 15),none⟩,⟨some 6,.mov (.t 16),none⟩])
 (.seq (.seq (.reg [⟨some 17,.mov (.t 6),none⟩,⟨some 18,.eql (.one .i) true (.t 17) (.c (.int .i64 0)),none⟩])
 (.cond (.t 18) (.seq (.reg [⟨some 19,.mov (.t 6),none⟩,⟨some 4,.mov (.c (.lit [] true none)),none⟩,⟨some 5,.mov (.c (.lit [] true none)),none⟩,⟨some 6,.mov (.t 19),none⟩])
 (.jump .ret))
 .skip))
 (.seq (.seq (.reg [⟨some 20,.faddr (.t 2) 0,none⟩,⟨some 21,.load none (.t 20),none⟩,⟨some 22,.len 1 (.t 21),none⟩,⟨some 23,.bin .add (.t 22) (.c (.int .i64 1)),none⟩,⟨some 24,.mov (.c (.int .i64 0)),none⟩])
 (.block 0 (.loop L25_0)))
 (.seq (.reg [⟨some 44,.mov (.t 4),none⟩,⟨some 45,.mov (.t 5),none⟩,⟨some 4,.mov (.t 44),none⟩,⟨some 5,.mov (.t 45),none⟩,⟨some 6,.mov (.c (.int .i64 0)),none⟩])
 (.jump .ret)))))⟩
def L26_0 : ACode := .seq (.seq (.reg [⟨some 24,.mov (.t 11),none⟩,⟨some 25,.load (some 7) (.t 2),none⟩,⟨some 26,.call (.c (.func 69 [] [])) [.t 25],none⟩,⟨some 27,.bin .leq (.t 24) (.t 26),none⟩])
 (.cond (.t 27) .skip
 (.jump (.exit 0))))
 (.seq (.block 1 (.seq (.reg [⟨some 30,.load (some 7) (.t 2),none⟩,⟨some 31,.mov (.t 7),none⟩,⟨some 32,.mov (.t 1),none⟩,⟨some 33,.mov (.t 11),none⟩,⟨some 34,.call (.c (.func 81 [] [])) [.t 30,.t 31,.t 32,.t 33],none⟩,⟨some 12,.mov (.t 34),none⟩])
 (.seq (.seq (.reg [⟨some 35,.mov (.t 12),none⟩,⟨some 36,.eql (.one .i) false (.t 35) (.c (.int .i64 1)),none⟩])
 (.cond (.t 36) (.reg [⟨some 37,.mov (.t 9),none⟩,⟨some 38,.mov (.t 11),none⟩,⟨some 39,.mklit 1 [.t 38],none⟩,⟨some 40,.append 1 8 (.t 37) (.t 39),none⟩,⟨some 9,.mov (.t 40),none⟩])
 .skip))
 (.seq (.reg [⟨some 41,.mov (.t 12),none⟩,⟨some 42,.eql (.one .i) true (.t 41) (.c (.int .i64 2)),none⟩])
 (.cond (.t 42) (.reg [⟨some 43,.mov (.t 10),none⟩,⟨some 44,.mov (.t 11),none⟩,⟨some 45,.mklit 1 [.t 44],none⟩,⟨some 46,.append 1 8 (.t 43) (.t 45),none⟩,⟨some 10,.mov (.t 46),none⟩])
 .skip)))))
 (.reg [⟨some 28,.mov (.t 11),none⟩,⟨some 29,.bin .add (.t 28) (.c (.int .i64 1)),none⟩,⟨some 11,.mov (.t 29),none⟩]))
def a26 : AFunc := ⟨49, [.tmp 4, .tmp 5, .tmp 6],
 .seq (.reg [⟨some 2,.box 7 (.t 0),none⟩,⟨some 4,.mov (.c (.lit [] true none)),none⟩,⟨some 5,.mov (.c (.lit [] true none)),none⟩,⟨some 6,.mov (.c (.int .i64 0)),none⟩])
 (.seq (.dreg [⟨⟨some 14,.load (some 7) (.t 2),none⟩, 0, 1⟩,⟨⟨some 15,.load (some 7) (.t 2),none⟩, 0, 0⟩,⟨⟨some 16,.mov (.t 1),none⟩, 0, 0⟩,⟨⟨some 17,.call (.c (.func 75 [] [])) [.t 15,.t 16],none⟩, 0, 1⟩,⟨⟨some 18,.call (.c (.func 73 [] [])) [.t 14,.t 17],none⟩, 1, 2⟩,⟨⟨some 13,.mov (.t 18),none⟩, 2, 2⟩,⟨⟨some 19,.ext (.t 13) 0,none⟩, 2, 2⟩,⟨⟨some 20,.ext (.t 13) 1,none⟩, 2, 2⟩,⟨⟨some 7,.mov (.t 19),none⟩, 2, 2⟩,⟨⟨some 8,.mov (.t 20),none⟩, 2, 2⟩])
 (.seq (.seq (.reg [⟨some 21,.mov (.t 8),none⟩,⟨some 22,.eql (.one .i) true (.t 21) (.c (.int .i64 0)),none⟩])
 (.cond (.t 22) (.seq (.reg [⟨some 23,.mov (.t 8),none⟩,⟨some 4,.mov (.c (.lit [] true none)),none⟩,⟨some 5,.mov (.c (.lit [] true none)),none⟩,⟨some 6,.mov (.t 23),none⟩])
 (.jump .ret))
 .skip))
 (.seq (.reg [⟨some 9,.mov (.c (.lit [] true none)),none⟩,⟨some 10,.mov (.c (.lit [] true none)),none⟩])
 (.seq (.seq (.reg [⟨some 11,.mov (.c (.int .i64 0)),none⟩])
 (.block 0 (.loop L26_0)))
 (.seq (.reg [⟨some 47,.mov (.t 9),none⟩,⟨some 48,.mov (.t 10),none⟩,⟨some 4,.mov (.t 47),none⟩,⟨some 5,.mov (.t 48),none⟩,⟨some 6,.mov (.c (.int .i64 0)),none⟩])
 (.jump .ret))))))⟩
def L27_0 : ACode := .seq (.reg [⟨some 25,.bin .lss (.t 24) (.t 23),none⟩])
 (.seq (.cond (.t 25) .skip
 (.jump (.exit 0)))
 (.seq (.block 1 (.seq (.reg [⟨some 26,.mov (.t 24),none⟩,⟨some 9,.mov (.t 26),none⟩])
 (.seq (.dreg [⟨⟨some 27,.mov (.t 6),none⟩, 0, 0⟩,⟨⟨some 28,.mov (.t 1),none⟩, 0, 0⟩,⟨⟨some 29,.mov (.t 9),none⟩, 0, 0⟩,⟨⟨some 30,.call (.c (.func 72 [] [])) [.t 27,.t 28,.t 29],none⟩, 0, 1⟩,⟨⟨some 31,.field (.t 30) 1 none,none⟩, 1, 1⟩,⟨⟨some 32,.faddr (.t 2) 3,none⟩, 0, 1⟩,⟨⟨some 33,.faddr (.t 32) 1,none⟩, 0, 1⟩,⟨⟨some 34,.load none (.t 33),none⟩, 0, 1⟩,⟨⟨some 35,.bin .add (.t 31) (.t 34),none⟩, 1, 1⟩,⟨⟨some 36,.faddr (.t 2) 2,none⟩, 0, 1⟩,⟨⟨some 37,.load none (.t 36),none⟩, 0, 1⟩,⟨⟨some 38,.bin .leq (.t 35) (.t 37),none⟩, 1, 1⟩])
 (.cond (.t 38) (.reg [⟨some 39,.mov (.t 9),none⟩,⟨some 8,.mov (.t 39),none⟩])
 .skip))))
 (.reg [⟨some 40,.bin .add (.t 24) (.c (.int .i64 1)),none⟩,⟨some 24,.mov (.t 40),none⟩])))
def a27 : AFunc := ⟨44, [.tmp 4, .tmp 5],
 .seq (.reg [⟨some 2,.box 7 (.t 0),none⟩,⟨some 4,.mov (.c (.int .i64 0)),none⟩,⟨some 5,.mov (.c (.int .i64 0)),none⟩])
 (.seq (.reg [⟨some 11,.load (some 7) (.t 2),none⟩,⟨some 12,.mov (.t 1),none⟩,⟨some 13,.max [(.t 12), (.c (.int .i64 (-1099511627775)))],none⟩,⟨some 14,.call (.c (.func 70 [] [])) [(.t 11), (.t 13), (.c (.func 77 [] []))],none⟩,⟨some 10,.mov (.t 14),none⟩,⟨some 15,.ext (.t 10) 0,none⟩,⟨some 16,.ext (.t 10) 1,none⟩,⟨some 6,.mov (.t 15),none⟩,⟨some 7,.mov (.t 16),none⟩])
 (.seq (.seq (.reg [⟨some 17,.mov (.t 7),none⟩,⟨some 18,.eql (.one .i) true (.t 17) (.c (.int .i64 0)),none⟩])
 (.cond (.t 18) (.seq (.reg [⟨some 19,.mov (.t 7),none⟩,⟨some 4,.mov (.c (.int .i64 0)),none⟩,⟨some 5,.mov (.t 19),none⟩])
 (.jump .ret))
 .skip))
 (.seq (.reg [⟨some 8,.mov (.c (.int .i64 (-1))),none⟩])
 (.seq (.seq (.reg [⟨some 20,.faddr (.t 2) 0,none⟩,⟨some 21,.load none (.t 20),none⟩,⟨some 22,.len 1 (.t 21),none⟩,⟨some 23,.bin .add (.t 22) (.c (.int .i64 1)),none⟩,⟨some 24,.mov (.c (.int .i64 0)),none⟩])
 (.block 0 (.loop L27_0)))
 (.seq (.seq (.reg [⟨some 41,.mov (.t 8),none⟩,⟨some 42,.bin .lss (.t 41) (.c (.int .i64 0)),none⟩])
 (.cond (.t 42) (.seq (.reg [⟨some 4,.mov (.c (.int .i64 0)),none⟩,⟨some 5,.mov (.c (.int .i64 9)),none⟩])
 (.jump .ret))
 .skip))
 (.seq (.reg [⟨some 43,.mov (.t 8),none⟩,⟨some 4,.mov (.t 43),none⟩,⟨some 5,.mov (.c (.int .i64 0)),none⟩])
 (.jump .ret)))))))⟩
def L28_0 : ACode := .seq (.seq (.reg [⟨some 22,.mov (.t 8),none⟩,⟨some 23,.bin .geq (.t 22) (.c (.int .i64 0)),none⟩])
 (.cond (.t 23) .skip
 (.jump (.exit 0))))
 (.seq (.block 1 (.seq (.reg [⟨some 26,.load (some 7) (.t 2),none⟩,⟨some 27,.mov (.t 6),none⟩,⟨some 28,.mov (.t 1),none⟩,⟨some 29,.mov (.t 8),none⟩,⟨some 30,.call (.c (.func 82 [] [])) [.t 26,.t 27,.t 28,.t 29],none⟩])
 (.cond (.t 30) (.seq (.reg [⟨some 31,.mov (.t 8),none⟩,⟨some 4,.mov (.t 31),none⟩,⟨some 5,.mov (.c (.int .i64 0)),none⟩])
 (.jump .ret))
 .skip)))
 (.reg [⟨some 24,.mov (.t 8),none⟩,⟨some 25,.bin .sub (.t 24) (.c (.int .i64 1)),none⟩,⟨some 8,.mov (.t 25),none⟩]))
def a28 : AFunc := ⟨32, [.tmp 4, .tmp 5],
 .seq (.reg [⟨some 2,.box 7 (.t 0),none⟩,⟨some 4,.mov (.c (.int .i64 0)),none⟩,⟨some 5,.mov (.c (.int .i64 0)),none⟩])
 (.seq (.dreg [⟨⟨some 10,.load (some 7) (.t 2),none⟩, 0, 1⟩,⟨⟨some 11,.load (some 7) (.t 2),none⟩, 0, 0⟩,⟨⟨some 12,.mov (.t 1),none⟩, 0, 0⟩,⟨⟨some 13,.call (.c (.func 75 [] [])) [.t 11,.t 12],none⟩, 0, 1⟩,⟨⟨some 14,.call (.c (.func 73 [] [])) [.t 10,.t 13],none⟩, 1, 2⟩,⟨⟨some 9,.mov (.t 14),none⟩, 2, 2⟩,⟨⟨some 15,.ext (.t 9) 0,none⟩, 2, 2⟩,⟨⟨some 16,.ext (.t 9) 1,none⟩, 2, 2⟩,⟨⟨some 6,.mov (.t 15),none⟩, 2, 2⟩,⟨⟨some 7,.mov (.t 16),none⟩, 2, 2⟩])
 (.seq (.seq (.reg [⟨some 17,.mov (.t 7),none⟩,⟨some 18,.eql (.one .i) true (.t 17) (.c (.int .i64 0)),none⟩])
 (.cond (.t 18) (.seq (.reg [⟨some 19,.mov (.t 7),none⟩,⟨some 4,.mov (.c (.int .i64 0)),none⟩,⟨some 5,.mov (.t 19),none⟩])
 (.jump .ret))
 .skip))
 (.seq (.seq (.reg [⟨some 20,.load (some 7) (.t 2),none⟩,⟨some 21,.call (.c (.func 69 [] [])) [.t 20],none⟩,⟨some 8,.mov (.t 21),none⟩])
 (.block 0 (.loop L28_0)))
 (.seq (.reg [⟨some 4,.mov (.c (.int .i64 0)),none⟩,⟨some 5,.mov (.c (.int .i64 9)),none⟩])
 (.jump .ret)))))⟩
def L29_0 : ACode := .seq (.reg [⟨some 30,.mnext (.t 29),none⟩,⟨some 31,.ext (.t 30) 0,none⟩])
 (.seq (.cond (.t 31) .skip
 (.jump (.exit 0)))
 (.block 1 (.seq (.reg [⟨some 32,.entry (.t 29),none⟩,⟨some 33,.ext (.t 32) 0,none⟩,⟨some 7,.alloc [.int .i64 0, .int .i64 0, .int .i64 0, .int .i64 0, .int .i64 0, .int .i64 0, .int .i64 0],none⟩,⟨none,.store 7 (.t 7) (.t 33),none⟩])
 (.dreg [⟨⟨some 34,.faddr (.t 4) 0,none⟩, 0, 0⟩,⟨⟨some 35,.load none (.t 34),none⟩, 0, 0⟩,⟨⟨some 36,.mov (.t 1),none⟩, 0, 0⟩,⟨⟨some 37,.iaddr (some 7) 1 (.t 7) (.t 36),none⟩, 0, 0⟩,⟨⟨some 38,.load none (.t 37),none⟩, 0, 0⟩,⟨⟨some 39,.min [.t 35,.t 38],none⟩, 0, 0⟩,⟨⟨some 40,.faddr (.t 4) 1,none⟩, 0, 0⟩,⟨⟨some 41,.load none (.t 40),none⟩, 0, 0⟩,⟨⟨some 42,.mov (.t 1),none⟩, 0, 0⟩,⟨⟨some 43,.iaddr (some 7) 1 (.t 7) (.t 42),none⟩, 0, 0⟩,⟨⟨some 44,.load none (.t 43),none⟩, 0, 0⟩,⟨⟨some 45,.max [.t 41,.t 44],none⟩, 0, 0⟩,⟨⟨some 46,.build [.int .i64 0, .int .i64 0] [(0, 1, (.t 39)), (1, 1, (.t 45))],none⟩, 0, 0⟩,⟨⟨none,.store 2 (.t 4) (.t 46),none⟩, 0, 1⟩]))))
def a29 : AFunc := ⟨48, [.cell 4 (some 2), .tmp 5],
 .seq (.reg [⟨some 2,.box 7 (.t 0),none⟩,⟨some 4,.alloc [.int .i64 0, .int .i64 0],none⟩,⟨some 5,.mov (.c (.int .i64 0)),none⟩])
 (.seq (.dreg [⟨⟨some 9,.load (some 7) (.t 2),none⟩, 0, 1⟩,⟨⟨some 10,.mov (.t 1),none⟩, 0, 0⟩,⟨⟨some 11,.faddr (.t 2) 0,none⟩, 0, 0⟩,⟨⟨some 12,.load none (.t 11),none⟩, 0, 0⟩,⟨⟨some 13,.len 1 (.t 12),none⟩, 0, 0⟩,⟨⟨some 14,.bin .sub (.t 13) (.c (.int .i64 1)),none⟩, 0, 0⟩,⟨⟨some 15,.mklit 1 [.t 10,.t 14],none⟩, 0, 0⟩,⟨⟨some 16,.call (.c (.func 71 [] [])) [.t 15],none⟩, 0, 1⟩,⟨⟨some 17,.call (.c (.func 70 [] [])) [(.t 9), (.c (.int .i64 (-1099511627776))), (.t 16)],none⟩, 1, 2⟩,⟨⟨some 8,.mov (.t 17),none⟩, 2, 2⟩,⟨⟨some 18,.ext (.t 8) 0,none⟩, 2, 2⟩,⟨⟨some 19,.ext (.t 8) 1,none⟩, 2, 2⟩,⟨⟨some 6,.mov (.t 18),none⟩, 2, 2⟩,⟨⟨some 5,.mov (.t 19),none⟩, 2, 2⟩])
 (.seq (.seq (.reg [⟨some 20,.mov (.t 5),none⟩,⟨some 21,.eql (.one .i) true (.t 20) (.c (.int .i64 0)),none⟩])
 (.cond (.t 21) (.seq (.reg [⟨some 22,.load (some 2) (.t 4),none⟩,⟨some 23,.mov (.t 5),none⟩,⟨none,.store 2 (.t 4) (.t 22),none⟩,⟨some 5,.mov (.t 23),none⟩])
 (.jump .ret))
 .skip))
 (.seq (.reg [⟨some 24,.build [.int .i64 0, .int .i64 0] [(0, 1, (.c (.int .i64 2)))],none⟩,⟨none,.store 2 (.t 4) (.t 24),none⟩])
 (.seq (.seq (.reg [⟨some 25,.mov (.t 6),none⟩,⟨some 26,.nilCheck (.t 25),none⟩,⟨some 27,.faddr (.t 26) 8,none⟩,⟨some 28,.load none (.t 27),none⟩,⟨some 29,.mrange (.t 28),none⟩])
 (.block 0 (.loop L29_0)))
 (.seq (.reg [⟨some 47,.load (some 2) (.t 4),none⟩,⟨none,.store 2 (.t 4) (.t 47),none⟩,⟨some 5,.mov (.c (.int .i64 0)),none⟩])
 (.jump .ret))))))⟩
def L30_0 : ACode := .seq (.seq (.reg [⟨some 48,.mov (.t 11),none⟩,⟨some 49,.mov (.t 9),none⟩,⟨some 50,.len 1 (.t 49),none⟩,⟨some 51,.bin .lss (.t 48) (.t 50),none⟩])
 (.cond (.t 51) .skip
 (.jump (.exit 0))))
 (.seq (.block 1 (.dreg [⟨⟨some 54,.load (some 2) (.t 10),none⟩, 0, 0⟩,⟨⟨some 55,.mov (.t 9),none⟩, 0, 0⟩,⟨⟨some 56,.mov (.t 11),none⟩, 0, 0⟩,⟨⟨some 57,.iaddr none 2 (.t 55) (.t 56),none⟩, 0, 0⟩,⟨⟨some 58,.faddr (.t 57) 0,none⟩, 0, 0⟩,⟨⟨some 59,.load none (.t 58),none⟩, 0, 0⟩,⟨⟨some 60,.mov (.t 1),none⟩, 0, 0⟩,⟨⟨some 61,.iaddr none 1 (.t 59) (.t 60),none⟩, 0, 0⟩,⟨⟨some 62,.load none (.t 61),none⟩, 0, 0⟩,⟨⟨some 63,.call (.c (.func 83 [] [])) [.t 54,.t 62],none⟩, 0, 1⟩,⟨⟨none,.store 2 (.t 10) (.t 63),none⟩, 1, 2⟩]))
 (.reg [⟨some 52,.mov (.t 11),none⟩,⟨some 53,.bin .add (.t 52) (.c (.int .i64 1)),none⟩,⟨some 11,.mov (.t 53),none⟩]))
def a30 : AFunc := ⟨65, [.cell 4 (some 2), .tmp 5],
 .seq (.reg [⟨some 2,.box 7 (.t 0),none⟩,⟨some 4,.alloc [.int .i64 0, .int .i64 0],none⟩,⟨some 5,.mov (.c (.int .i64 0)),none⟩])
 (.seq (.reg [⟨some 13,.load (some 7) (.t 2),none⟩,⟨some 14,.call (.c (.func 16 [] [])) [.t 13],none⟩,⟨some 12,.mov (.t 14),none⟩,⟨some 15,.ext (.t 12) 0,none⟩,⟨some 16,.ext (.t 12) 1,none⟩,⟨some 17,.ext (.t 12) 2,none⟩,⟨some 6,.mov (.t 15),none⟩,⟨some 7,.mov (.t 16),none⟩,⟨some 8,.mov (.t 17),none⟩])
 (.seq (.dreg [⟨⟨some 19,.load (some 7) (.t 2),none⟩, 0, 2⟩,⟨⟨some 20,.mov (.t 1),none⟩, 0, 1⟩,⟨⟨some 21,.load (some 7) (.t 2),none⟩, 0, 0⟩,⟨⟨some 22,.call (.c (.func 69 [] [])) [.t 21],none⟩, 0, 1⟩,⟨⟨some 23,.bin .sub (.t 22) (.c (.int .i64 1)),none⟩, 1, 1⟩,⟨⟨some 24,.mov (.t 8),none⟩, 0, 1⟩,⟨⟨some 25,.call (.c (.func 74 [] [])) [.t 20,.t 23,.t 24],none⟩, 1, 2⟩,⟨⟨some 26,.call (.c (.func 73 [] [])) [.t 19,.t 25],none⟩, 2, 3⟩,⟨⟨some 18,.mov (.t 26),none⟩, 3, 3⟩,⟨⟨some 27,.ext (.t 18) 0,none⟩, 3, 3⟩,⟨⟨some 28,.ext (.t 18) 1,none⟩, 3, 3⟩,⟨⟨some 9,.mov (.t 27),none⟩, 3, 3⟩,⟨⟨some 8,.mov (.t 28),none⟩, 3, 3⟩])
 (.seq (.seq (.reg [⟨some 29,.mov (.t 8),none⟩,⟨some 30,.eql (.one .i) true (.t 29) (.c (.int .i64 0)),none⟩])
 (.cond (.t 30) (.seq (.reg [⟨some 31,.build [.int .i64 0, .int .i64 0] [],none⟩,⟨some 32,.mov (.t 8),none⟩,⟨none,.store 2 (.t 4) (.t 31),none⟩,⟨some 5,.mov (.t 32),none⟩])
 (.jump .ret))
 .skip))
 (.seq (.dreg [⟨⟨some 33,.mov (.t 9),none⟩, 0, 0⟩,⟨⟨some 34,.iaddr none 2 (.t 33) (.c (.int .i64 0)),none⟩, 0, 0⟩,⟨⟨some 35,.faddr (.t 34) 0,none⟩, 0, 0⟩,⟨⟨some 36,.load none (.t 35),none⟩, 0, 0⟩,⟨⟨some 37,.mov (.t 1),none⟩, 0, 0⟩,⟨⟨some 38,.iaddr none 1 (.t 36) (.t 37),none⟩, 0, 0⟩,⟨⟨some 39,.load none (.t 38),none⟩, 0, 0⟩,⟨⟨some 40,.mov (.t 9),none⟩, 0, 0⟩,⟨⟨some 41,.iaddr none 2 (.t 40) (.c (.int .i64 0)),none⟩, 0, 0⟩,⟨⟨some 42,.faddr (.t 41) 0,none⟩, 0, 0⟩,⟨⟨some 43,.load none (.t 42),none⟩, 0, 0⟩,⟨⟨some 44,.mov (.t 1),none⟩, 0, 0⟩,⟨⟨some 45,.iaddr none 1 (.t 43) (.t 44),none⟩, 0, 0⟩,⟨⟨some 46,.load none (.t 45),none⟩, 0, 0⟩,⟨⟨some 47,.build [.int .i64 0, .int .i64 0] [(0, 1, (.t 39)), (1, 1, (.t 46))],none⟩, 0, 0⟩,⟨⟨some 10,.alloc [.int .i64 0, .int .i64 0],none⟩, 0, 0⟩,⟨⟨none,.store 2 (.t 10) (.t 47),none⟩, 0, 1⟩])
 (.seq (.seq (.reg [⟨some 11,.mov (.c (.int .i64 1)),none⟩])
 (.block 0 (.loop L30_0)))
 (.seq (.reg [⟨some 64,.load (some 2) (.t 10),none⟩,⟨none,.store 2 (.t 4) (.t 64),none⟩,⟨some 5,.mov (.c (.int .i64 0)),none⟩])
 (.jump .ret)))))))⟩
def L31_0 : ACode := .seq (.reg [⟨some 49,.bin .lss (.t 48) (.t 47),none⟩])
 (.seq (.cond (.t 49) .skip
 (.jump (.exit 0)))
 (.seq (.block 1 (.seq (.reg [⟨some 50,.mov (.t 48),none⟩,⟨some 13,.mov (.t 50),none⟩])
 (.seq (.reg [⟨some 51,.mov (.t 9),none⟩,⟨some 52,.mov (.t 13),none⟩,⟨some 53,.mov (.t 1),none⟩,⟨some 54,.call (.c (.func 72 [] [])) [.t 51,.t 52,.t 53],none⟩,⟨some 14,.alloc [.int .i64 0, .int .i64 0],none⟩,⟨none,.store 2 (.t 14) (.t 54),none⟩])
 (.seq (.seq (.reg [⟨some 55,.faddr (.t 14) 1,none⟩,⟨some 56,.load none (.t 55),none⟩,⟨some 57,.faddr (.t 3) 3,none⟩,⟨some 58,.faddr (.t 57) 1,none⟩,⟨some 59,.load none (.t 58),none⟩,⟨some 60,.bin .add (.t 56) (.t 59),none⟩,⟨some 61,.faddr (.t 3) 2,none⟩,⟨some 62,.load none (.t 61),none⟩,⟨some 63,.bin .leq (.t 60) (.t 62),none⟩])
 (.cond (.t 63) (.reg [⟨some 64,.mov (.t 10),none⟩,⟨some 65,.mov (.t 13),none⟩,⟨some 66,.bin .shl (.c (.int .i64 1)) (.t 65),none⟩,⟨some 67,.bin .or (.t 64) (.t 66),none⟩,⟨some 10,.mov (.t 67),none⟩])
 .skip))
 (.seq (.reg [⟨some 68,.faddr (.t 14) 0,none⟩,⟨some 69,.load none (.t 68),none⟩,⟨some 70,.faddr (.t 3) 1,none⟩,⟨some 71,.load none (.t 70),none⟩,⟨some 72,.bin .lss (.t 69) (.t 71),none⟩])
 (.cond (.t 72) (.reg [⟨some 73,.mov (.t 11),none⟩,⟨some 74,.mov (.t 13),none⟩,⟨some 75,.bin .shl (.c (.int .i64 1)) (.t 74),none⟩,⟨some 76,.bin .or (.t 73) (.t 75),none⟩,⟨some 11,.mov (.t 76),none⟩])
 .skip))))))
 (.reg [⟨some 77,.bin .add (.t 48) (.c (.int .i64 1)),none⟩,⟨some 48,.mov (.t 77),none⟩])))
def L31_4 : ACode := .seq (.reg [⟨some 97,.bin .lss (.t 96) (.t 95),none⟩])
 (.seq (.cond (.t 97) .skip
 (.jump (.exit 4)))
 (.seq (.block 5 (.seq (.reg [⟨some 98,.iaddr none 1 (.t 94) (.t 96),none⟩,⟨some 99,.load none (.t 98),none⟩,⟨some 21,.mov (.t 99),none⟩])
 (.reg [⟨some 100,.mov (.t 19),none⟩,⟨some 101,.mov (.t 12),none⟩,⟨some 102,.mov (.t 21),none⟩,⟨some 103,.iaddr none 4 (.t 101) (.t 102),none⟩,⟨some 104,.faddr (.t 103) 3,none⟩,⟨some 105,.load none (.t 104),none⟩,⟨some 106,.bin .add (.t 100) (.t 105),none⟩,⟨some 19,.mov (.t 106),none⟩])))
 (.reg [⟨some 107,.bin .add (.t 96) (.c (.int .i64 1)),none⟩,⟨some 96,.mov (.t 107),none⟩])))
def L31_2 : ACode := .seq (.reg [⟨some 82,.bin .lss (.t 81) (.t 80),none⟩])
 (.seq (.cond (.t 82) .skip
 (.jump (.exit 2)))
 (.seq (.block 3 (.seq (.reg [⟨some 83,.mov (.t 81),none⟩,⟨some 16,.mov (.t 83),none⟩])
 (.seq (.reg [⟨some 84,.mov (.t 16),none⟩,⟨some 85,.mov (.t 12),none⟩,⟨some 86,.len 1 (.t 85),none⟩,⟨some 87,.call (.c (.func 78 [] [])) [.t 84,.t 86],none⟩,⟨some 88,.mov (.t 16),none⟩,⟨some 89,.mov (.t 11),none⟩,⟨some 90,.bin .and (.t 88) (.t 89),none⟩,⟨some 91,.mov (.t 12),none⟩,⟨some 92,.len 1 (.t 91),none⟩,⟨some 93,.call (.c (.func 78 [] [])) [.t 90,.t 92],none⟩,⟨some 17,.mov (.t 87),none⟩,⟨some 18,.mov (.t 93),none⟩,⟨some 19,.mov (.c (.int .i64 0)),none⟩])
 (.seq (.seq (.reg [⟨some 94,.mov (.t 17),none⟩,⟨some 95,.len 1 (.t 94),none⟩,⟨some 96,.mov (.c (.int .i64 0)),none⟩])
 (.block 4 (.loop L31_4)))
 (.seq (.seq (.reg [⟨some 108,.mov (.t 16),none⟩,⟨some 109,.mov (.t 10),none⟩,⟨some 110,.bin .andNot (.t 108) (.t 109),none⟩,⟨some 111,.eql (.one .i) true (.t 110) (.c (.int .i64 0)),none⟩,⟨some 112,.mov (.t 111),none⟩,⟨some 113,.mov (.t 19),(some (112, false))⟩,⟨some 114,.mov (.t 2),(some (112, false))⟩,⟨some 115,.bin .lss (.t 113) (.t 114),(some (112, false))⟩,⟨some 116,.pick (.t 112) (.c (.bool true)) (.t 115),none⟩])
 (.cond (.t 116) (.jump (.exit 3))
 .skip))
 (.seq (.reg [⟨some 117,.mov (.t 18),none⟩,⟨some 118,.len 1 (.t 117),none⟩,⟨some 119,.mov (.t 7),none⟩,⟨some 120,.len 1 (.t 119),none⟩,⟨some 121,.bin .lss (.t 118) (.t 120),none⟩,⟨some 122,.mov (.t 121),none⟩,⟨some 123,.mov (.t 18),(some (122, false))⟩,⟨some 124,.len 1 (.t 123),(some (122, false))⟩,⟨some 125,.mov (.t 7),(some (122, false))⟩,⟨some 126,.len 1 (.t 125),(some (122, false))⟩,⟨some 127,.eql (.one .i) false (.t 124) (.t 126),(some (122, false))⟩,⟨some 128,.mov (.t 127),(some (122, false))⟩,⟨some 129,.mov (.t 17),(some (128, true))⟩,⟨some 130,.len 1 (.t 129),(some (128, true))⟩,⟨some 131,.mov (.t 6),(some (128, true))⟩,⟨some 132,.len 1 (.t 131),(some (128, true))⟩,⟨some 133,.bin .lss (.t 130) (.t 132),(some (128, true))⟩,⟨some 134,.mov (.t 133),(some (128, true))⟩,⟨some 135,.mov (.t 17),(some (134, false))⟩,⟨some 136,.len 1 (.t 135),(some (134, false))⟩,⟨some 137,.mov (.t 6),(some (134, false))⟩,⟨some 138,.len 1 (.t 137),(some (134, false))⟩,⟨some 139,.eql (.one .i) false (.t 136) (.t 138),(some (134, false))⟩,⟨some 140,.mov (.t 139),(some (134, false))⟩,⟨some 141,.mov (.t 17),(some (140, true))⟩,⟨some 142,.mov (.t 6),(some (140, true))⟩,⟨some 143,.call (.c (.func 84 [] [])) [.t 141,.t 142],(some (140, true))⟩,⟨some 144,.bin .lss (.t 143) (.c (.int .i64 0)),(some (140, true))⟩,⟨some 145,.pick (.t 140) (.t 144) (.c (.bool false)),(some (134, false))⟩,⟨some 146,.pick (.t 134) (.c (.bool true)) (.t 145),(some (128, true))⟩,⟨some 147,.pick (.t 128) (.t 146) (.c (.bool false)),(some (122, false))⟩,⟨some 148,.pick (.t 122) (.c (.bool true)) (.t 147),none⟩,⟨some 22,.mov (.t 148),none⟩])
 (.seq (.reg [⟨some 149,.mov (.t 15),none⟩,⟨some 150,.not (.t 149),none⟩,⟨some 151,.mov (.t 150),none⟩,⟨some 152,.mov (.t 22),(some (151, false))⟩,⟨some 153,.pick (.t 151) (.c (.bool true)) (.t 152),none⟩])
 (.cond (.t 153) (.reg [⟨some 154,.mov (.t 17),none⟩,⟨some 155,.mov (.t 18),none⟩,⟨some 6,.mov (.t 154),none⟩,⟨some 7,.mov (.t 155),none⟩,⟨some 15,.mov (.c (.bool true)),none⟩])
 .skip))))))))
 (.reg [⟨some 156,.bin .add (.t 81) (.c (.int .i64 1)),none⟩,⟨some 81,.mov (.t 156),none⟩])))
def a31 : AFunc := ⟨161, [.tmp 6, .tmp 7, .tmp 8],
 .seq (.reg [⟨some 3,.box 7 (.t 0),none⟩,⟨some 6,.mov (.c (.lit [] true none)),none⟩,⟨some 7,.mov (.c (.lit [] true none)),none⟩,⟨some 8,.mov (.c (.int .i64 0)),none⟩])
 (.seq (.dreg [⟨⟨some 24,.load (some 7) (.t 3),none⟩, 0, 1⟩,⟨⟨some 25,.mov (.t 1),none⟩, 0, 0⟩,⟨⟨some 26,.faddr (.t 3) 0,none⟩, 0, 0⟩,⟨⟨some 27,.load none (.t 26),none⟩, 0, 0⟩,⟨⟨some 28,.len 1 (.t 27),none⟩, 0, 0⟩,⟨⟨some 29,.mov (.t 2),none⟩, 0, 0⟩,⟨⟨some 30,.mklit 1 [(.t 25), (.t 28), (.t 29), (.c (.int .i64 400))],none⟩, 0, 0⟩,⟨⟨some 31,.call (.c (.func 71 [] [])) [.t 30],none⟩, 0, 1⟩,⟨⟨some 32,.call (.c (.func 70 [] [])) [(.t 24), (.c (.int .i64 (-1099511627776))), (.t 31)],none⟩, 1, 2⟩,⟨⟨some 23,.mov (.t 32),none⟩, 2, 2⟩,⟨⟨some 33,.ext (.t 23) 0,none⟩, 2, 2⟩,⟨⟨some 34,.ext (.t 23) 1,none⟩, 2, 2⟩,⟨⟨some 9,.mov (.t 33),none⟩, 2, 2⟩,⟨⟨some 8,.mov (.t 34),none⟩, 2, 2⟩])
 (.seq (.seq (.reg [⟨some 35,.mov (.t 8),none⟩,⟨some 36,.eql (.one .i) true (.t 35) (.c (.int .i64 0)),none⟩])
 (.cond (.t 36) (.seq (.reg [⟨some 37,.mov (.t 8),none⟩,⟨some 6,.mov (.c (.lit [] true none)),none⟩,⟨some 7,.mov (.c (.lit [] true none)),none⟩,⟨some 8,.mov (.t 37),none⟩])
 (.jump .ret))
 .skip))
 (.seq (.reg [⟨some 10,.mov (.c (.int .i64 0)),none⟩,⟨some 11,.mov (.c (.int .i64 0)),none⟩])
 (.seq (.reg [⟨some 38,.faddr (.t 3) 5,none⟩,⟨some 39,.load none (.t 38),none⟩,⟨some 40,.len 1 (.t 39),none⟩,⟨some 41,.mkslice [.str ⟨#[]⟩, .int .i64 0, .int .i64 0, .int .i64 0] 40 (.t 40) (.t 40),none⟩,⟨some 12,.mov (.t 41),none⟩])
 (.seq (.reg [⟨some 42,.mov (.t 12),none⟩,⟨some 43,.faddr (.t 3) 5,none⟩,⟨some 44,.load none (.t 43),none⟩,⟨some 45,.copy 4 (.t 42) (.t 44),none⟩])
 (.seq (.seq (.reg [⟨some 46,.mov (.t 12),none⟩,⟨some 47,.len 1 (.t 46),none⟩,⟨some 48,.mov (.c (.int .i64 0)),none⟩])
 (.block 0 (.loop L31_0)))
 (.seq (.reg [⟨some 15,.mov (.c (.bool false)),none⟩])
 (.seq (.seq (.reg [⟨some 78,.mov (.t 12),none⟩,⟨some 79,.len 1 (.t 78),none⟩,⟨some 80,.bin .shl (.c (.int .i64 1)) (.t 79),none⟩,⟨some 81,.mov (.c (.int .i64 0)),none⟩])
 (.block 2 (.loop L31_2)))
 (.seq (.seq (.reg [⟨some 157,.mov (.t 15),none⟩,⟨some 158,.not (.t 157),none⟩])
 (.cond (.t 158) (.seq (.reg [⟨some 6,.mov (.c (.lit [] true none)),none⟩,⟨some 7,.mov (.c (.lit [] true none)),none⟩,⟨some 8,.mov (.c (.int .i64 9)),none⟩])
 (.jump .ret))
 .skip))
 (.seq (.reg [⟨some 159,.mov (.t 6),none⟩,⟨some 160,.mov (.t 7),none⟩,⟨some 6,.mov (.t 159),none⟩,⟨some 7,.mov (.t 160),none⟩,⟨some 8,.mov (.c (.int .i64 0)),none⟩])
 (.jump .ret)))))))))))⟩
def L32_2 : ACode := .seq (.seq (.reg [⟨some 53,.mov (.t 18),none⟩,⟨some 54,.mov (.t 17),none⟩,⟨some 55,.len 1 (.t 54),none⟩,⟨some 56,.bin .lss (.t 53) (.t 55),none⟩])
 (.cond (.t 56) .skip
 (.jump (.exit 2))))
 (.seq (.block 3 (.seq (.seq (.dreg [⟨⟨some 59,.load (some 7) (.t 3),none⟩, 0, 0⟩,⟨⟨some 60,.mov (.t 12),none⟩, 0, 0⟩,⟨⟨some 61,.mov (.t 17),none⟩, 0, 0⟩,⟨⟨some 62,.mov (.t 18),none⟩, 0, 0⟩,⟨⟨some 63,.iaddr none 1 (.t 61) (.t 62),none⟩, 0, 0⟩,⟨⟨some 64,.load none (.t 63),none⟩, 0, 0⟩,⟨⟨some 65,.mov (.t 1),none⟩, 0, 0⟩,⟨⟨some 66,.mov (.t 2),none⟩, 0, 0⟩,⟨⟨some 67,.call (.c (.func 51 [] [])) [.t 59,.t 60,.t 64,.t 65,.t 66],none⟩, 0, 1⟩,⟨⟨some 68,.not (.t 67),none⟩, 1, 1⟩])
 (.cond (.t 68) (.jump (.exit 3))
 .skip))
 (.seq (.dreg [⟨⟨some 69,.load (some 7) (.t 3),none⟩, 0, 0⟩,⟨⟨some 70,.mov (.t 12),none⟩, 0, 0⟩,⟨⟨some 71,.mov (.t 17),none⟩, 0, 0⟩,⟨⟨some 72,.mov (.t 18),none⟩, 0, 0⟩,⟨⟨some 73,.iaddr none 1 (.t 71) (.t 72),none⟩, 0, 0⟩,⟨⟨some 74,.load none (.t 73),none⟩, 0, 0⟩,⟨⟨some 75,.mov (.t 1),none⟩, 0, 0⟩,⟨⟨some 76,.call (.c (.func 52 [] [])) [.t 69,.t 70,.t 74,.t 75],none⟩, 0, 1⟩,⟨⟨some 19,.mov (.t 76),none⟩, 1, 1⟩])
 (.seq (.reg [⟨some 77,.mov (.t 15),none⟩,⟨some 78,.not (.t 77),none⟩,⟨some 79,.mov (.t 78),none⟩,⟨some 80,.mov (.t 19),(some (79, false))⟩,⟨some 81,.len 1 (.t 80),(some (79, false))⟩,⟨some 82,.mov (.t 14),(some (79, false))⟩,⟨some 83,.len 1 (.t 82),(some (79, false))⟩,⟨some 84,.bin .lss (.t 81) (.t 83),(some (79, false))⟩,⟨some 85,.pick (.t 79) (.c (.bool true)) (.t 84),none⟩])
 (.cond (.t 85) (.reg [⟨some 86,.mov (.t 17),none⟩,⟨some 87,.mov (.t 18),none⟩,⟨some 88,.iaddr none 1 (.t 86) (.t 87),none⟩,⟨some 89,.load none (.t 88),none⟩,⟨some 90,.mov (.t 19),none⟩,⟨some 13,.mov (.t 89),none⟩,⟨some 14,.mov (.t 90),none⟩,⟨some 15,.mov (.c (.bool true)),none⟩])
 .skip)))))
 (.reg [⟨some 57,.mov (.t 18),none⟩,⟨some 58,.bin .add (.t 57) (.c (.int .i64 1)),none⟩,⟨some 18,.mov (.t 58),none⟩]))
def L32_0 : ACode := .seq (.seq (.reg [⟨some 41,.mov (.t 16),none⟩,⟨some 42,.faddr (.t 3) 5,none⟩,⟨some 43,.load none (.t 42),none⟩,⟨some 44,.len 1 (.t 43),none⟩,⟨some 45,.bin .leq (.t 41) (.t 44),none⟩])
 (.cond (.t 45) .skip
 (.jump (.exit 0))))
 (.seq (.block 1 (.seq (.reg [⟨some 48,.faddr (.t 3) 5,none⟩,⟨some 49,.load none (.t 48),none⟩,⟨some 50,.len 1 (.t 49),none⟩,⟨some 51,.mov (.t 16),none⟩,⟨some 52,.call (.c (.func 85 [] [])) [.t 50,.t 51],none⟩,⟨some 17,.mov (.t 52),none⟩])
 (.seq (.reg [⟨some 18,.mov (.c (.int .i64 0)),none⟩])
 (.block 2 (.loop L32_2)))))
 (.reg [⟨some 46,.mov (.t 16),none⟩,⟨some 47,.bin .add (.t 46) (.c (.int .i64 1)),none⟩,⟨some 16,.mov (.t 47),none⟩]))
def a32 : AFunc := ⟨95, [.tmp 6, .tmp 7, .tmp 8],
 .seq (.reg [⟨some 3,.box 7 (.t 0),none⟩,⟨some 6,.mov (.c (.lit [] true none)),none⟩,⟨some 7,.mov (.c (.lit [] true none)),none⟩,⟨some 8,.mov (.c (.int .i64 0)),none⟩])
 (.seq (.reg [⟨some 21,.load (some 7) (.t 3),none⟩,⟨some 22,.call (.c (.func 16 [] [])) [.t 21],none⟩,⟨some 20,.mov (.t 22),none⟩,⟨some 23,.ext (.t 20) 0,none⟩,⟨some 24,.ext (.t 20) 1,none⟩,⟨some 25,.ext (.t 20) 2,none⟩,⟨some 9,.mov (.t 23),none⟩,⟨some 10,.mov (.t 24),none⟩,⟨some 11,.mov (.t 25),none⟩])
 (.seq (.dreg [⟨⟨some 27,.load (some 7) (.t 3),none⟩, 0, 3⟩,⟨⟨some 28,.mov (.t 2),none⟩, 0, 2⟩,⟨⟨some 29,.mov (.t 1),none⟩, 0, 1⟩,⟨⟨some 30,.load (some 7) (.t 3),none⟩, 0, 0⟩,⟨⟨some 31,.call (.c (.func 69 [] [])) [.t 30],none⟩, 0, 1⟩,⟨⟨some 32,.mov (.t 11),none⟩, 0, 1⟩,⟨⟨some 33,.call (.c (.func 74 [] [])) [.t 29,.t 31,.t 32],none⟩, 1, 2⟩,⟨⟨some 34,.call (.c (.func 74 [] [])) [(.t 28), (.c (.int .i64 400)), (.t 33)],none⟩, 2, 3⟩,⟨⟨some 35,.call (.c (.func 73 [] [])) [.t 27,.t 34],none⟩, 3, 4⟩,⟨⟨some 26,.mov (.t 35),none⟩, 4, 4⟩,⟨⟨some 36,.ext (.t 26) 0,none⟩, 4, 4⟩,⟨⟨some 37,.ext (.t 26) 1,none⟩, 4, 4⟩,⟨⟨some 12,.mov (.t 36),none⟩, 4, 4⟩,⟨⟨some 11,.mov (.t 37),none⟩, 4, 4⟩])
 (.seq (.seq (.reg [⟨some 38,.mov (.t 11),none⟩,⟨some 39,.eql (.one .i) true (.t 38) (.c (.int .i64 0)),none⟩])
 (.cond (.t 39) (.seq (.reg [⟨some 40,.mov (.t 11),none⟩,⟨some 6,.mov (.c (.lit [] true none)),none⟩,⟨some 7,.mov (.c (.lit [] true none)),none⟩,⟨some 8,.mov (.t 40),none⟩])
 (.jump .ret))
 .skip))
 (.seq (.reg [⟨some 13,.mov (.c (.lit [] true none)),none⟩,⟨some 14,.mov (.c (.lit [] true none)),none⟩])
 (.seq (.reg [⟨some 15,.mov (.c (.bool false)),none⟩])
 (.seq (.seq (.reg [⟨some 16,.mov (.c (.int .i64 0)),none⟩])
 (.block 0 (.loop L32_0)))
 (.seq (.seq (.reg [⟨some 91,.mov (.t 15),none⟩,⟨some 92,.not (.t 91),none⟩])
 (.cond (.t 92) (.seq (.reg [⟨some 6,.mov (.c (.lit [] true none)),none⟩,⟨some 7,.mov (.c (.lit [] true none)),none⟩,⟨some 8,.mov (.c (.int .i64 9)),none⟩])
 (.jump .ret))
 .skip))
 (.seq (.reg [⟨some 93,.mov (.t 13),none⟩,⟨some 94,.mov (.t 14),none⟩,⟨some 6,.mov (.t 93),none⟩,⟨some 7,.mov (.t 94),none⟩,⟨some 8,.mov (.c (.int .i64 0)),none⟩])
 (.jump .ret)))))))))⟩
def L33_0 : ACode := .seq (.reg [⟨some 21,.bin .lss (.t 20) (.t 19),none⟩])
 (.seq (.cond (.t 21) .skip
 (.jump (.exit 0)))
 (.seq (.block 1 (.seq (.reg [⟨some 22,.mov (.t 20),none⟩,⟨some 5,.mov (.t 22),none⟩])
 (.seq (.reg [⟨some 23,.mov (.t 5),none⟩,⟨some 24,.faddr (.t 1) 6,none⟩,⟨some 25,.load none (.t 24),none⟩,⟨some 26,.len 1 (.t 25),none⟩,⟨some 27,.call (.c (.func 78 [] [])) [.t 23,.t 26],none⟩,⟨some 6,.mov (.t 27),none⟩])
 (.seq (.seq (.reg [⟨some 28,.mov (.t 4),none⟩,⟨some 29,.mov (.t 28),none⟩,⟨some 30,.mov (.t 6),(some (29, true))⟩,⟨some 31,.len 1 (.t 30),(some (29, true))⟩,⟨some 32,.mov (.t 2),(some (29, true))⟩,⟨some 33,.len 1 (.t 32),(some (29, true))⟩,⟨some 34,.bin .gtr (.t 31) (.t 33),(some (29, true))⟩,⟨some 35,.mov (.t 34),(some (29, true))⟩,⟨some 36,.mov (.t 6),(some (35, false))⟩,⟨some 37,.len 1 (.t 36),(some (35, false))⟩,⟨some 38,.mov (.t 2),(some (35, false))⟩,⟨some 39,.len 1 (.t 38),(some (35, false))⟩,⟨some 40,.eql (.one .i) false (.t 37) (.t 39),(some (35, false))⟩,⟨some 41,.mov (.t 40),(some (35, false))⟩,⟨some 42,.mov (.t 6),(some (41, true))⟩,⟨some 43,.mov (.t 2),(some (41, true))⟩,⟨some 44,.call (.c (.func 84 [] [])) [.t 42,.t 43],(some (41, true))⟩,⟨some 45,.bin .gtr (.t 44) (.c (.int .i64 0)),(some (41, true))⟩,⟨some 46,.pick (.t 41) (.t 45) (.c (.bool false)),(some (35, false))⟩,⟨some 47,.pick (.t 35) (.c (.bool true)) (.t 46),(some (29, true))⟩,⟨some 48,.pick (.t 29) (.t 47) (.c (.bool false)),none⟩])
 (.cond (.t 48) (.jump (.exit 1))
 .skip))
 (.seq (.reg [⟨some 49,.load (some 7) (.t 1),none⟩,⟨some 50,.mov (.t 5),none⟩,⟨some 51,.call (.c (.func 86 [] [])) [.t 49,.t 50],none⟩,⟨some 52,.nilCheck (.t 51),none⟩,⟨some 53,.faddr (.t 52) 8,none⟩,⟨some 54,.load none (.t 53),none⟩,⟨some 55,.len 2 (.t 54),none⟩,⟨some 56,.bin .gtr (.t 55) (.c (.int .i64 0)),none⟩])
 (.cond (.t 56) (.reg [⟨some 57,.mov (.t 6),none⟩,⟨some 2,.mov (.t 57),none⟩,⟨some 4,.mov (.c (.bool true)),none⟩])
 .skip))))))
 (.reg [⟨some 58,.bin .add (.t 20) (.c (.int .i64 1)),none⟩,⟨some 20,.mov (.t 58),none⟩])))
def a33 : AFunc := ⟨60, [.tmp 2, .tmp 3],
 .seq (.reg [⟨some 1,.box 7 (.t 0),none⟩,⟨some 2,.mov (.c (.lit [] true none)),none⟩,⟨some 3,.mov (.c (.int .i64 0)),none⟩])
 (.seq (.seq (.reg [⟨some 8,.load (some 7) (.t 1),none⟩,⟨some 9,.call (.c (.func 15 [] [])) [.t 8],none⟩,⟨some 7,.mov (.t 9),none⟩,⟨some 10,.ext (.t 7) 0,none⟩,⟨some 11,.ext (.t 7) 1,none⟩,⟨some 12,.ext (.t 7) 2,none⟩,⟨some 3,.mov (.t 12),none⟩])
 (.seq (.reg [⟨some 13,.mov (.t 3),none⟩,⟨some 14,.eql (.one .i) true (.t 13) (.c (.int .i64 0)),none⟩])
 (.cond (.t 14) (.seq (.reg [⟨some 15,.mov (.t 3),none⟩,⟨some 2,.mov (.c (.lit [] true none)),none⟩,⟨some 3,.mov (.t 15),none⟩])
 (.jump .ret))
 .skip)))
 (.seq (.reg [⟨some 4,.mov (.c (.bool false)),none⟩])
 (.seq (.seq (.reg [⟨some 16,.faddr (.t 1) 6,none⟩,⟨some 17,.load none (.t 16),none⟩,⟨some 18,.len 1 (.t 17),none⟩,⟨some 19,.bin .shl (.c (.int .i64 1)) (.t 18),none⟩,⟨some 20,.mov (.c (.int .i64 0)),none⟩])
 (.block 0 (.loop L33_0)))
 (.seq (.reg [⟨some 59,.mov (.t 2),none⟩,⟨some 2,.mov (.t 59),none⟩,⟨some 3,.mov (.c (.int .i64 0)),none⟩])
 (.jump .ret)))))⟩
def L34_2 : ACode := .seq (.seq (.reg [⟨some 31,.mov (.t 9),none⟩,⟨some 32,.mov (.t 8),none⟩,⟨some 33,.len 1 (.t 32),none⟩,⟨some 34,.bin .lss (.t 31) (.t 33),none⟩])
 (.cond (.t 34) .skip
 (.jump (.exit 2))))
 (.seq (.block 3 (.seq (.dreg [⟨⟨some 37,.load (some 7) (.t 1),none⟩, 0, 0⟩,⟨⟨some 38,.mov (.t 8),none⟩, 0, 0⟩,⟨⟨some 39,.mov (.t 9),none⟩, 0, 0⟩,⟨⟨some 40,.iaddr none 1 (.t 38) (.t 39),none⟩, 0, 0⟩,⟨⟨some 41,.load none (.t 40),none⟩, 0, 0⟩,⟨⟨some 42,.call (.c (.func 49 [] [])) [.t 37,.t 41],none⟩, 0, 1⟩,⟨⟨some 43,.len 1 (.t 42),none⟩, 1, 1⟩,⟨⟨some 44,.bin .gtr (.t 43) (.c (.int .i64 0)),none⟩, 1, 1⟩])
 (.cond (.t 44) (.seq (.reg [⟨some 45,.mov (.t 8),none⟩,⟨some 46,.mov (.t 9),none⟩,⟨some 47,.iaddr none 1 (.t 45) (.t 46),none⟩,⟨some 48,.load none (.t 47),none⟩,⟨some 2,.mov (.t 48),none⟩,⟨some 3,.mov (.c (.int .i64 0)),none⟩])
 (.jump .ret))
 .skip)))
 (.reg [⟨some 35,.mov (.t 9),none⟩,⟨some 36,.bin .add (.t 35) (.c (.int .i64 1)),none⟩,⟨some 9,.mov (.t 36),none⟩]))
def L34_0 : ACode := .seq (.seq (.reg [⟨some 19,.mov (.t 7),none⟩,⟨some 20,.faddr (.t 1) 6,none⟩,⟨some 21,.load none (.t 20),none⟩,⟨some 22,.len 1 (.t 21),none⟩,⟨some 23,.bin .lss (.t 19) (.t 22),none⟩])
 (.cond (.t 23) .skip
 (.jump (.exit 0))))
 (.seq (.block 1 (.seq (.reg [⟨some 26,.faddr (.t 1) 6,none⟩,⟨some 27,.load none (.t 26),none⟩,⟨some 28,.len 1 (.t 27),none⟩,⟨some 29,.mov (.t 7),none⟩,⟨some 30,.call (.c (.func 85 [] [])) [.t 28,.t 29],none⟩,⟨some 8,.mov (.t 30),none⟩])
 (.seq (.reg [⟨some 9,.mov (.c (.int .i64 0)),none⟩])
 (.block 2 (.loop L34_2)))))
 (.reg [⟨some 24,.mov (.t 7),none⟩,⟨some 25,.bin .add (.t 24) (.c (.int .i64 1)),none⟩,⟨some 7,.mov (.t 25),none⟩]))
def a34 : AFunc := ⟨58, [.tmp 2, .tmp 3],
 .seq (.reg [⟨some 1,.box 7 (.t 0),none⟩,⟨some 2,.mov (.c (.lit [] true none)),none⟩,⟨some 3,.mov (.c (.int .i64 0)),none⟩])
 (.seq (.reg [⟨some 11,.load (some 7) (.t 1),none⟩,⟨some 12,.call (.c (.func 16 [] [])) [.t 11],none⟩,⟨some 10,.mov (.t 12),none⟩,⟨some 13,.ext (.t 10) 0,none⟩,⟨some 14,.ext (.t 10) 1,none⟩,⟨some 15,.ext (.t 10) 2,none⟩,⟨some 4,.mov (.t 13),none⟩,⟨some 5,.mov (.t 14),none⟩,⟨some 6,.mov (.t 15),none⟩])
 (.seq (.seq (.reg [⟨some 16,.mov (.t 6),none⟩,⟨some 17,.eql (.one .i) true (.t 16) (.c (.int .i64 0)),none⟩])
 (.cond (.t 17) (.seq (.reg [⟨some 18,.mov (.t 6),none⟩,⟨some 2,.mov (.c (.lit [] true none)),none⟩,⟨some 3,.mov (.t 18),none⟩])
 (.jump .ret))
 .skip))
 (.seq (.seq (.reg [⟨some 7,.mov (.c (.int .i64 0)),none⟩])
 (.block 0 (.loop L34_0)))
 (.seq (.reg [⟨some 49,.faddr (.t 1) 6,none⟩,⟨some 50,.load none (.t 49),none⟩,⟨some 51,.len 1 (.t 50),none⟩,⟨some 52,.faddr (.t 1) 6,none⟩,⟨some 53,.load none (.t 52),none⟩,⟨some 54,.len 1 (.t 53),none⟩,⟨some 55,.call (.c (.func 85 [] [])) [.t 51,.t 54],none⟩,⟨some 56,.iaddr none 1 (.t 55) (.c (.int .i64 0)),none⟩,⟨some 57,.load none (.t 56),none⟩,⟨some 2,.mov (.t 57),none⟩,⟨some 3,.mov (.c (.int .i64 0)),none⟩])
 (.jump .ret)))))⟩
def a35 : AFunc := ⟨18, [.cell 2 (some 7)],
 .seq (.reg [⟨some 2,.alloc [.lit [] true none, .int .i64 0, .int .i64 0, .int .i64 0, .int .i64 0, .lit [] true none, .lit [] true none],none⟩])
 (.seq (.reg [⟨some 3,.call (.c (.func 37 [] [])) [(.c (.int .i64 1)), (.c (.int .i64 1))],none⟩,⟨some 4,.call (.c (.func 37 [] [])) [(.c (.int .i64 0)), (.c (.int .i64 1))],none⟩,⟨some 5,.call (.c (.func 37 [] [])) [(.c (.int .i64 0)), (.c (.int .i64 0))],none⟩,⟨some 6,.call (.c (.func 37 [] [])) [(.c (.int .i64 1)), (.c (.int .i64 2))],none⟩,⟨some 7,.call (.c (.func 37 [] [])) [(.c (.int .i64 0)), (.c (.int .i64 1))],none⟩,⟨some 8,.mklit 2 [.t 3,.t 4,.t 5,.t 6,.t 7],none⟩,⟨some 9,.call (.c (.func 37 [] [])) [(.c (.int .i64 2)), (.c (.int .i64 3))],none⟩,⟨some 10,.build [.str ⟨#[]⟩, .int .i64 0, .int .i64 0, .int .i64 0] [(0, 1, (.c (.str ⟨#[104, 105, 108, 108]⟩))), (3, 1, (.c (.int .i64 30)))],none⟩,⟨some 11,.call (.c (.func 37 [] [])) [(.c (.int .i64 1)), (.c (.int .i64 2))],none⟩,⟨some 12,.build [.str ⟨#[]⟩, .int .i64 0, .int .i64 0, .int .i64 0] [(0, 1, (.c (.str ⟨#[98, 97, 110, 107]⟩))), (1, 2, (.t 11)), (3, 1, (.c (.int .i64 20)))],none⟩,⟨some 13,.call (.c (.func 37 [] [])) [(.c (.int .i64 0)), (.c (.int .i64 1))],none⟩,⟨some 14,.build [.str ⟨#[]⟩, .int .i64 0, .int .i64 0, .int .i64 0] [(0, 1, (.c (.str ⟨#[98, 101, 110, 100]⟩))), (1, 2, (.t 13)), (3, 1, (.c (.int .i64 25)))],none⟩,⟨some 15,.mklit 4 [.t 10,.t 12,.t 14],none⟩,⟨some 16,.mov (.t 0),none⟩,⟨some 17,.build [.lit [] true none, .int .i64 0, .int .i64 0, .int .i64 0, .int .i64 0, .lit [] true none, .lit [] true none] [(0, 1, (.t 8)), (1, 1, (.c (.int .i64 6))), (2, 1, (.c (.int .i64 11))), (3, 2, (.t 9)), (5, 1, (.t 15)), (6, 1, (.t 16))],none⟩,⟨none,.store 7 (.t 2) (.t 17),none⟩])
 (.jump .ret))⟩
def a36 : AFunc := ⟨11, [.cell 6 (some 3)],
 .seq (.reg [⟨some 6,.alloc [.int .i64 0, .int .i64 0, .int .i64 0],none⟩])
 (.seq (.reg [⟨some 7,.mov (.t 0),none⟩,⟨some 8,.mov (.t 1),none⟩,⟨some 9,.mov (.t 2),none⟩,⟨some 10,.build [.int .i64 0, .int .i64 0, .int .i64 0] [(0, 1, (.t 7)), (1, 1, (.t 8)), (2, 1, (.t 9))],none⟩,⟨none,.store 3 (.t 6) (.t 10),none⟩])
 (.jump .ret))⟩
def a37 : AFunc := ⟨8, [.cell 4 (some 2)],
 .seq (.reg [⟨some 4,.alloc [.int .i64 0, .int .i64 0],none⟩])
 (.seq (.reg [⟨some 5,.mov (.t 0),none⟩,⟨some 6,.mov (.t 1),none⟩,⟨some 7,.build [.int .i64 0, .int .i64 0] [(0, 1, (.t 5)), (1, 1, (.t 6))],none⟩,⟨none,.store 2 (.t 4) (.t 7),none⟩])
 (.jump .ret))⟩
def L43_0 : ACode := .seq (.seq (.reg [⟨some 10,.mov (.t 8),none⟩,⟨some 11,.mov (.t 2),none⟩,⟨some 12,.bin .lss (.t 10) (.t 11),none⟩])
 (.cond (.t 12) .skip
 (.jump (.exit 0))))
 (.seq (.block 1 (.reg [⟨some 15,.mov (.t 7),none⟩,⟨some 16,.bin .add (.t 15) (.c (.int .i64 1)),none⟩,⟨some 17,.mov (.t 0),none⟩,⟨some 18,.mov (.t 8),none⟩,⟨some 19,.iaddr none 1 (.t 17) (.t 18),none⟩,⟨some 20,.load none (.t 19),none⟩,⟨some 21,.bin .add (.t 16) (.t 20),none⟩,⟨some 7,.mov (.t 21),none⟩]))
 (.reg [⟨some 13,.mov (.t 8),none⟩,⟨some 14,.bin .add (.t 13) (.c (.int .i64 1)),none⟩,⟨some 8,.mov (.t 14),none⟩]))
def a43 : AFunc := ⟨23, [.tmp 6],
 .seq (.reg [⟨some 6,.mov (.c (.int .i64 0)),none⟩])
 (.seq (.reg [⟨some 7,.mov (.c (.int .i64 0)),none⟩])
 (.seq (.seq (.reg [⟨some 9,.mov (.t 1),none⟩,⟨some 8,.mov (.t 9),none⟩])
 (.block 0 (.loop L43_0)))
 (.seq (.reg [⟨some 22,.mov (.t 7),none⟩,⟨some 6,.mov (.t 22),none⟩])
 (.jump .ret))))⟩
def L44_0 : ACode := .seq (.seq (.reg [⟨some 7,.mov (.t 6),none⟩,⟨some 8,.mov (.t 0),none⟩,⟨some 9,.len 1 (.t 8),none⟩,⟨some 10,.bin .lss (.t 7) (.t 9),none⟩])
 (.cond (.t 10) .skip
 (.jump (.exit 0))))
 (.seq (.block 1 (.reg [⟨some 13,.mov (.t 5),none⟩,⟨some 14,.mov (.t 13),none⟩,⟨some 15,.mov (.t 0),(some (14, false))⟩,⟨some 16,.mov (.t 6),(some (14, false))⟩,⟨some 17,.iaddr none 1 (.t 15) (.t 16),(some (14, false))⟩,⟨some 18,.load none (.t 17),(some (14, false))⟩,⟨some 19,.mov (.t 1),(some (14, false))⟩,⟨some 20,.eql (.one .i) false (.t 18) (.t 19),(some (14, false))⟩,⟨some 21,.pick (.t 14) (.c (.bool true)) (.t 20),none⟩,⟨some 5,.mov (.t 21),none⟩]))
 (.reg [⟨some 11,.mov (.t 6),none⟩,⟨some 12,.bin .add (.t 11) (.c (.int .i64 1)),none⟩,⟨some 6,.mov (.t 12),none⟩]))
def a44 : AFunc := ⟨23, [.tmp 4],
 .seq (.reg [⟨some 4,.mov (.c (.bool false)),none⟩])
 (.seq (.reg [⟨some 5,.mov (.c (.bool false)),none⟩])
 (.seq (.seq (.reg [⟨some 6,.mov (.c (.int .i64 0)),none⟩])
 (.block 0 (.loop L44_0)))
 (.seq (.reg [⟨some 22,.mov (.t 5),none⟩,⟨some 4,.mov (.t 22),none⟩])
 (.jump .ret))))⟩
def L47_0 : ACode := .seq (.seq (.reg [⟨some 7,.mov (.t 6),none⟩,⟨some 8,.mov (.t 1),none⟩,⟨some 9,.len 1 (.t 8),none⟩,⟨some 10,.bin .lss (.t 7) (.t 9),none⟩])
 (.cond (.t 10) .skip
 (.jump (.exit 0))))
 (.seq (.block 1 (.dreg [⟨⟨some 13,.mov (.t 5),none⟩, 0, 0⟩,⟨⟨some 14,.faddr (.t 2) 5,none⟩, 0, 0⟩,⟨⟨some 15,.load none (.t 14),none⟩, 0, 0⟩,⟨⟨some 16,.mov (.t 1),none⟩, 0, 0⟩,⟨⟨some 17,.mov (.t 6),none⟩, 0, 0⟩,⟨⟨some 18,.iaddr none 1 (.t 16) (.t 17),none⟩, 0, 0⟩,⟨⟨some 19,.load none (.t 18),none⟩, 0, 0⟩,⟨⟨some 20,.iaddr none 4 (.t 15) (.t 19),none⟩, 0, 0⟩,⟨⟨some 21,.faddr (.t 20) 3,none⟩, 0, 0⟩,⟨⟨some 22,.load none (.t 21),none⟩, 0, 0⟩,⟨⟨some 23,.bin .add (.t 13) (.t 22),none⟩, 0, 0⟩,⟨⟨some 5,.mov (.t 23),none⟩, 0, 0⟩]))
 (.reg [⟨some 11,.mov (.t 6),none⟩,⟨some 12,.bin .add (.t 11) (.c (.int .i64 1)),none⟩,⟨some 6,.mov (.t 12),none⟩]))
def a47 : AFunc := ⟨25, [.tmp 4],
 .seq (.reg [⟨some 2,.box 7 (.t 0),none⟩,⟨some 4,.mov (.c (.int .i64 0)),none⟩])
 (.seq (.reg [⟨some 5,.mov (.c (.int .i64 0)),none⟩])
 (.seq (.seq (.reg [⟨some 6,.mov (.c (.int .i64 0)),none⟩])
 (.block 0 (.loop L47_0)))
 (.seq (.reg [⟨some 24,.mov (.t 5),none⟩,⟨some 4,.mov (.t 24),none⟩])
 (.jump .ret))))⟩
def L49_2 : ACode := .seq (.seq (.reg [⟨some 25,.mov (.t 10),none⟩,⟨some 26,.faddr (.t 2) 5,none⟩,⟨some 27,.load none (.t 26),none⟩,⟨some 28,.len 1 (.t 27),none⟩,⟨some 29,.bin .lss (.t 25) (.t 28),none⟩,⟨some 30,.mov (.t 29),none⟩,⟨some 31,.mov (.t 9),(some (30, true))⟩,⟨some 32,.pick (.t 30) (.t 31) (.c (.bool false)),none⟩])
 (.cond (.t 32) .skip
 (.jump (.exit 2))))
 (.seq (.block 3 (.seq (.dreg [⟨⟨some 35,.load (some 7) (.t 2),none⟩, 0, 0⟩,⟨⟨some 36,.mov (.t 10),none⟩, 0, 0⟩,⟨⟨some 37,.mov (.t 5),none⟩, 0, 0⟩,⟨⟨some 38,.mov (.t 7),none⟩, 0, 0⟩,⟨⟨some 39,.iaddr none 1 (.t 37) (.t 38),none⟩, 0, 0⟩,⟨⟨some 40,.load none (.t 39),none⟩, 0, 0⟩,⟨⟨some 41,.mov (.t 1),none⟩, 0, 0⟩,⟨⟨some 42,.call (.c (.func 88 [] [])) [.t 35,.t 36,.t 40,.t 41],none⟩, 0, 1⟩,⟨⟨some 11,.mov (.t 42),none⟩, 1, 1⟩])
 (.seq (.reg [⟨some 43,.mov (.t 11),none⟩,⟨some 44,.len 1 (.t 43),none⟩,⟨some 45,.bin .gtr (.t 44) (.c (.int .i64 0)),none⟩,⟨some 9,.mov (.t 45),none⟩])
 (.reg [⟨some 46,.mklit 1 [],none⟩,⟨some 47,.faddr (.t 8) 1,none⟩,⟨some 48,.load none (.t 47),none⟩,⟨some 49,.append 1 24 (.t 46) (.t 48),none⟩,⟨some 50,.mov (.t 11),none⟩,⟨some 51,.mklit 1 [.t 50],none⟩,⟨some 52,.append 1 24 (.t 49) (.t 51),none⟩,⟨some 53,.faddr (.t 8) 1,none⟩,⟨none,.store 1 (.t 53) (.t 52),none⟩]))))
 (.reg [⟨some 33,.mov (.t 10),none⟩,⟨some 34,.bin .add (.t 33) (.c (.int .i64 1)),none⟩,⟨some 10,.mov (.t 34),none⟩]))
def L49_0 : ACode := .seq (.seq (.reg [⟨some 14,.mov (.t 7),none⟩,⟨some 15,.mov (.t 5),none⟩,⟨some 16,.len 1 (.t 15),none⟩,⟨some 17,.bin .lss (.t 14) (.t 16),none⟩])
 (.cond (.t 17) .skip
 (.jump (.exit 0))))
 (.seq (.block 1 (.seq (.reg [⟨some 20,.mov (.t 5),none⟩,⟨some 21,.mov (.t 7),none⟩,⟨some 22,.iaddr none 1 (.t 20) (.t 21),none⟩,⟨some 23,.load none (.t 22),none⟩,⟨some 24,.build [.lit [] true none, .lit [] true none] [(0, 1, (.t 23))],none⟩,⟨some 8,.alloc [.lit [] true none, .lit [] true none],none⟩,⟨none,.store 2 (.t 8) (.t 24),none⟩])
 (.seq (.reg [⟨some 9,.mov (.c (.bool true)),none⟩])
 (.seq (.seq (.reg [⟨some 10,.mov (.c (.int .i64 0)),none⟩])
 (.block 2 (.loop L49_2)))
 (.seq (.reg [⟨some 54,.mov (.t 9),none⟩])
 (.cond (.t 54) (.reg [⟨some 55,.mov (.t 6),none⟩,⟨some 56,.load (some 2) (.t 8),none⟩,⟨some 57,.mklit 2 [.t 56],none⟩,⟨some 58,.append 2 48 (.t 55) (.t 57),none⟩,⟨some 6,.mov (.t 58),none⟩])
 .skip))))))
 (.reg [⟨some 18,.mov (.t 7),none⟩,⟨some 19,.bin .add (.t 18) (.c (.int .i64 1)),none⟩,⟨some 7,.mov (.t 19),none⟩]))
def a49 : AFunc := ⟨60, [.tmp 4],
 .seq (.reg [⟨some 2,.box 7 (.t 0),none⟩,⟨some 4,.mov (.c (.lit [] true none)),none⟩])
 (.seq (.reg [⟨some 12,.load (some 7) (.t 2),none⟩,⟨some 13,.call (.c (.func 87 [] [])) [.t 12],none⟩,⟨some 5,.mov (.t 13),none⟩])
 (.seq (.reg [⟨some 6,.mov (.c (.lit [] true none)),none⟩])
 (.seq (.seq (.reg [⟨some 7,.mov (.c (.int .i64 0)),none⟩])
 (.block 0 (.loop L49_0)))
 (.seq (.reg [⟨some 59,.mov (.t 6),none⟩,⟨some 4,.mov (.t 59),none⟩])
 (.jump .ret)))))⟩
def L51_0 : ACode := .seq (.seq (.reg [⟨some 18,.mov (.t 12),none⟩,⟨some 19,.mov (.t 2),none⟩,⟨some 20,.len 1 (.t 19),none⟩,⟨some 21,.bin .lss (.t 18) (.t 20),none⟩])
 (.cond (.t 21) .skip
 (.jump (.exit 0))))
 (.seq (.block 1 (.dreg [⟨⟨some 24,.mov (.t 11),none⟩, 0, 0⟩,⟨⟨some 25,.mov (.t 24),none⟩, 0, 0⟩,⟨⟨some 26,.load (some 7) (.t 5),(some (25, true))⟩, 0, 0⟩,⟨⟨some 27,.mov (.t 1),(some (25, true))⟩, 0, 0⟩,⟨⟨some 28,.mov (.t 2),(some (25, true))⟩, 0, 0⟩,⟨⟨some 29,.mov (.t 12),(some (25, true))⟩, 0, 0⟩,⟨⟨some 30,.iaddr none 1 (.t 28) (.t 29),(some (25, true))⟩, 0, 0⟩,⟨⟨some 31,.load none (.t 30),(some (25, true))⟩, 0, 0⟩,⟨⟨some 32,.mov (.t 3),(some (25, true))⟩, 0, 0⟩,⟨⟨some 33,.call (.c (.func 82 [] [])) [.t 26,.t 27,.t 31,.t 32],(some (25, true))⟩, 0, 1⟩,⟨⟨some 34,.pick (.t 25) (.t 33) (.c (.bool false)),none⟩, 1, 1⟩,⟨⟨some 11,.mov (.t 34),none⟩, 1, 1⟩]))
 (.reg [⟨some 22,.mov (.t 12),none⟩,⟨some 23,.bin .add (.t 22) (.c (.int .i64 1)),none⟩,⟨some 12,.mov (.t 23),none⟩]))
def a51 : AFunc := ⟨36, [.tmp 10],
 .seq (.reg [⟨some 5,.box 7 (.t 0),none⟩,⟨some 10,.mov (.c (.bool false)),none⟩])
 (.seq (.reg [⟨some 13,.load (some 7) (.t 5),none⟩,⟨some 14,.mov (.t 2),none⟩,⟨some 15,.call (.c (.func 47 [] [])) [.t 13,.t 14],none⟩,⟨some 16,.mov (.t 4),none⟩,⟨some 17,.bin .geq (.t 15) (.t 16),none⟩,⟨some 11,.mov (.t 17),none⟩])
 (.seq (.seq (.reg [⟨some 12,.mov (.c (.int .i64 0)),none⟩])
 (.block 0 (.loop L51_0)))
 (.seq (.reg [⟨some 35,.mov (.t 11),none⟩,⟨some 10,.mov (.t 35),none⟩])
 (.jump .ret))))⟩
def L52_0 : ACode := .seq (.seq (.reg [⟨some 11,.mov (.t 10),none⟩,⟨some 12,.mov (.t 2),none⟩,⟨some 13,.len 1 (.t 12),none⟩,⟨some 14,.bin .lss (.t 11) (.t 13),none⟩])
 (.cond (.t 14) .skip
 (.jump (.exit 0))))
 (.seq (.block 1 (.seq (.dreg [⟨⟨some 17,.load (some 7) (.t 4),none⟩, 0, 0⟩,⟨⟨some 18,.mov (.t 1),none⟩, 0, 0⟩,⟨⟨some 19,.mov (.t 2),none⟩, 0, 0⟩,⟨⟨some 20,.mov (.t 10),none⟩, 0, 0⟩,⟨⟨some 21,.iaddr none 1 (.t 19) (.t 20),none⟩, 0, 0⟩,⟨⟨some 22,.load none (.t 21),none⟩, 0, 0⟩,⟨⟨some 23,.mov (.t 3),none⟩, 0, 0⟩,⟨⟨some 24,.call (.c (.func 89 [] [])) [.t 17,.t 18,.t 22,.t 23],none⟩, 0, 1⟩,⟨⟨some 25,.not (.t 24),none⟩, 1, 1⟩])
 (.cond (.t 25) (.reg [⟨some 26,.mov (.t 9),none⟩,⟨some 27,.mov (.t 2),none⟩,⟨some 28,.mov (.t 10),none⟩,⟨some 29,.iaddr none 1 (.t 27) (.t 28),none⟩,⟨some 30,.load none (.t 29),none⟩,⟨some 31,.mklit 1 [.t 30],none⟩,⟨some 32,.append 1 8 (.t 26) (.t 31),none⟩,⟨some 9,.mov (.t 32),none⟩])
 .skip)))
 (.reg [⟨some 15,.mov (.t 10),none⟩,⟨some 16,.bin .add (.t 15) (.c (.int .i64 1)),none⟩,⟨some 10,.mov (.t 16),none⟩]))
def a52 : AFunc := ⟨34, [.tmp 8],
 .seq (.reg [⟨some 4,.box 7 (.t 0),none⟩,⟨some 8,.mov (.c (.lit [] true none)),none⟩])
 (.seq (.reg [⟨some 9,.mov (.c (.lit [] true none)),none⟩])
 (.seq (.seq (.reg [⟨some 10,.mov (.c (.int .i64 0)),none⟩])
 (.block 0 (.loop L52_0)))
 (.seq (.reg [⟨some 33,.mov (.t 9),none⟩,⟨some 8,.mov (.t 33),none⟩])
 (.jump .ret))))⟩
def a55 : AFunc := ⟨10, [.tmp 6],
 .seq (.reg [⟨some 3,.box 1 (.t 0),none⟩,⟨some 4,.box 1 (.t 1),none⟩,⟨some 6,.mov (.c (.bool false)),none⟩])
 (.seq (.reg [⟨some 7,.mov (.t 2),none⟩,⟨some 8,.mkfun 91 [] [.t 3,.t 4],none⟩,⟨some 9,.call (.c (.func 90 [] [])) [.t 7,.t 8],none⟩,⟨some 6,.mov (.t 9),none⟩])
 (.jump .ret))⟩
def L56_0 : ACode := .seq (.reg [⟨some 12,.bin .lss (.t 11) (.t 10),none⟩])
 (.seq (.cond (.t 12) .skip
 (.jump (.exit 0)))
 (.seq (.block 1 (.seq (.reg [⟨some 13,.mov (.t 11),none⟩,⟨some 14,.iaddr none 2 (.t 9) (.t 11),none⟩,⟨some 15,.load (some 2) (.t 14),none⟩,⟨some 7,.alloc [.int .i64 0, .int .i64 0],none⟩,⟨some 6,.mov (.t 13),none⟩,⟨none,.store 2 (.t 7) (.t 15),none⟩])
 (.seq (.reg [⟨some 16,.mov (.t 1),none⟩,⟨some 17,.mov (.t 6),none⟩,⟨some 18,.load (some 2) (.t 7),none⟩,⟨some 19,.call (.t 16) [.t 17,.t 18],none⟩,⟨some 8,.mov (.t 19),none⟩])
 (.seq (.reg [⟨some 20,.mov (.t 8),none⟩,⟨some 21,.eql (.one .i) true (.t 20) (.c (.int .i64 0)),none⟩])
 (.cond (.t 21) (.seq (.reg [⟨some 22,.mov (.t 6),none⟩,⟨some 23,.mov (.t 8),none⟩,⟨some 4,.mov (.t 22),none⟩,⟨some 5,.mov (.t 23),none⟩])
 (.jump .ret))
 .skip)))))
 (.reg [⟨some 24,.bin .add (.t 11) (.c (.int .i64 1)),none⟩,⟨some 11,.mov (.t 24),none⟩])))
def a56 : AFunc := ⟨25, [.tmp 4, .tmp 5],
 .seq (.reg [⟨some 4,.mov (.c (.int .i64 0)),none⟩,⟨some 5,.mov (.c (.int .i64 0)),none⟩])
 (.seq (.seq (.reg [⟨some 9,.mov (.t 0),none⟩,⟨some 10,.len 1 (.t 9),none⟩,⟨some 11,.mov (.c (.int .i64 0)),none⟩])
 (.block 0 (.loop L56_0)))
 (.seq (.reg [⟨some 4,.mov (.c (.int .i64 0)),none⟩,⟨some 5,.mov (.c (.int .i64 0)),none⟩])
 (.jump .ret)))⟩
def a57 : AFunc := ⟨7, [.tmp 4],
 .seq (.reg [⟨some 3,.box 2 (.t 1),none⟩,⟨some 4,.mov (.c (.int .i64 0)),none⟩])
 (.seq (.reg [⟨some 5,.load (some 2) (.t 3),none⟩,⟨some 6,.call (.c (.func 58 [] [])) [(.t 5), (.c (.int .i64 0)), (.c (.int .i64 2))],none⟩,⟨some 4,.mov (.t 6),none⟩])
 (.jump .ret))⟩
def a58 : AFunc := ⟨22, [.tmp 6],
 .seq (.reg [⟨some 3,.box 2 (.t 0),none⟩,⟨some 6,.mov (.c (.int .i64 0)),none⟩])
 (.seq (.block 0 (.seq (.reg [⟨some 8,.mov (.t 1),none⟩,⟨some 9,.mov (.t 2),none⟩,⟨some 10,.faddr (.t 3) 0,none⟩,⟨some 11,.load none (.t 10),none⟩,⟨some 12,.faddr (.t 3) 1,none⟩,⟨some 13,.load none (.t 12),none⟩,⟨some 14,.mklit 1 [.t 11,.t 13],none⟩,⟨some 15,.call (.c (.func 55 [] [])) [.t 8,.t 9,.t 14],none⟩,⟨some 7,.mov (.t 15),none⟩])
 (.cond (.t 7) (.seq (.reg [⟨some 6,.mov (.c (.int .i64 7)),none⟩])
 (.jump .ret))
 (.seq (.reg [⟨some 17,.faddr (.t 3) 0,none⟩,⟨some 18,.load none (.t 17),none⟩,⟨some 19,.faddr (.t 3) 1,none⟩,⟨some 20,.load none (.t 19),none⟩,⟨some 21,.bin .gtr (.t 18) (.t 20),none⟩,⟨some 16,.mov (.t 21),none⟩])
 (.cond (.t 16) (.seq (.reg [⟨some 6,.mov (.c (.int .i64 2)),none⟩])
 (.jump .ret))
 .skip)))))
 (.seq (.reg [⟨some 6,.mov (.c (.int .i64 0)),none⟩])
 (.jump .ret)))⟩
def L59_0 : ACode := .seq (.reg [⟨some 12,.bin .lss (.t 11) (.t 10),none⟩])
 (.seq (.cond (.t 12) .skip
 (.jump (.exit 0)))
 (.seq (.block 1 (.seq (.reg [⟨some 13,.mov (.t 11),none⟩,⟨some 14,.iaddr none 4 (.t 9) (.t 11),none⟩,⟨some 15,.load (some 4) (.t 14),none⟩,⟨some 7,.alloc [.str ⟨#[]⟩, .int .i64 0, .int .i64 0, .int .i64 0],none⟩,⟨some 6,.mov (.t 13),none⟩,⟨none,.store 4 (.t 7) (.t 15),none⟩])
 (.seq (.reg [⟨some 16,.mov (.t 1),none⟩,⟨some 17,.mov (.t 6),none⟩,⟨some 18,.load (some 4) (.t 7),none⟩,⟨some 19,.call (.t 16) [.t 17,.t 18],none⟩,⟨some 8,.mov (.t 19),none⟩])
 (.seq (.reg [⟨some 20,.mov (.t 8),none⟩,⟨some 21,.eql (.one .i) true (.t 20) (.c (.int .i64 0)),none⟩])
 (.cond (.t 21) (.seq (.reg [⟨some 22,.mov (.t 6),none⟩,⟨some 23,.mov (.t 8),none⟩,⟨some 4,.mov (.t 22),none⟩,⟨some 5,.mov (.t 23),none⟩])
 (.jump .ret))
 .skip)))))
 (.reg [⟨some 24,.bin .add (.t 11) (.c (.int .i64 1)),none⟩,⟨some 11,.mov (.t 24),none⟩])))
def a59 : AFunc := ⟨25, [.tmp 4, .tmp 5],
 .seq (.reg [⟨some 4,.mov (.c (.int .i64 0)),none⟩,⟨some 5,.mov (.c (.int .i64 0)),none⟩])
 (.seq (.seq (.reg [⟨some 9,.mov (.t 0),none⟩,⟨some 10,.len 1 (.t 9),none⟩,⟨some 11,.mov (.c (.int .i64 0)),none⟩])
 (.block 0 (.loop L59_0)))
 (.seq (.reg [⟨some 4,.mov (.c (.int .i64 0)),none⟩,⟨some 5,.mov (.c (.int .i64 0)),none⟩])
 (.jump .ret)))⟩
def a60 : AFunc := ⟨32, [.tmp 5],
 .seq (.reg [⟨some 4,.box 4 (.t 1),none⟩,⟨some 5,.mov (.c (.int .i64 0)),none⟩])
 (.seq (.reg [⟨some 7,.faddr (.t 4) 1,none⟩,⟨some 8,.load (some 2) (.t 7),none⟩,⟨some 9,.faddr (.t 2) 0,none⟩,⟨some 10,.load none (.t 9),none⟩,⟨some 11,.len 1 (.t 10),none⟩,⟨some 12,.bin .sub (.t 11) (.c (.int .i64 1)),none⟩,⟨some 13,.call (.c (.func 58 [] [])) [(.t 8), (.c (.int .i64 0)), (.t 12)],none⟩,⟨some 6,.mov (.t 13),none⟩])
 (.seq (.block 0 (.seq (.reg [⟨some 15,.faddr (.t 4) 0,none⟩,⟨some 16,.load none (.t 15),none⟩,⟨some 17,.call (.c (.func 61 [] [])) [.t 16],none⟩,⟨some 18,.not (.t 17),none⟩,⟨some 14,.mov (.t 18),none⟩])
 (.cond (.t 14) (.seq (.reg [⟨some 5,.mov (.c (.int .i64 6)),none⟩])
 (.jump .ret))
 (.seq (.reg [⟨some 20,.faddr (.t 2) 5,none⟩,⟨some 21,.load none (.t 20),none⟩,⟨some 22,.mov (.t 0),none⟩,⟨some 23,.slicev 4 (.t 21) none (some (.t 22)) none,none⟩,⟨some 24,.mkfun 63 [] [.t 4],none⟩,⟨some 25,.call (.c (.func 62 [] [])) [.t 23,.t 24],none⟩,⟨some 19,.mov (.t 25),none⟩])
 (.cond (.t 19) (.seq (.reg [⟨some 5,.mov (.c (.int .i64 5)),none⟩])
 (.jump .ret))
 (.seq (.reg [⟨some 27,.faddr (.t 4) 3,none⟩,⟨some 28,.load none (.t 27),none⟩,⟨some 29,.mklit 1 [.t 28],none⟩,⟨some 30,.call (.c (.func 55 [] [])) [(.c (.int .i64 1)), (.c (.int .i64 99)), (.t 29)],none⟩,⟨some 26,.mov (.t 30),none⟩])
 (.cond (.t 26) (.seq (.reg [⟨some 5,.mov (.c (.int .i64 7)),none⟩])
 (.jump .ret))
 .skip)))))))
 (.seq (.reg [⟨some 31,.mov (.t 6),none⟩,⟨some 5,.mov (.t 31),none⟩])
 (.jump .ret))))⟩
def L61_0 : ACode := .seq (.reg [⟨some 8,.snext (.t 7),none⟩,⟨some 9,.ext (.t 8) 0,none⟩])
 (.seq (.cond (.t 9) .skip
 (.jump (.exit 0)))
 (.block 1 (.seq (.reg [⟨some 10,.ext (.t 8) 1,none⟩,⟨some 11,.ext (.t 8) 2,none⟩,⟨some 3,.mov (.t 10),none⟩,⟨some 4,.mov (.t 11),none⟩])
 (.seq (.reg [⟨some 12,.mov (.t 4),none⟩,⟨some 13,.bin .geq (.t 12) (.c (.int .i32 97)),none⟩,⟨some 14,.mov (.t 13),none⟩,⟨some 15,.mov (.t 4),(some (14, true))⟩,⟨some 16,.bin .leq (.t 15) (.c (.int .i32 122)),(some (14, true))⟩,⟨some 17,.pick (.t 14) (.t 16) (.c (.bool false)),none⟩,⟨some 5,.mov (.t 17),none⟩])
 (.seq (.reg [⟨some 18,.mov (.t 5),none⟩,⟨some 19,.not (.t 18),none⟩,⟨some 20,.mov (.t 19),none⟩,⟨some 21,.mov (.t 3),(some (20, true))⟩,⟨some 22,.eql (.one .i) false (.t 21) (.c (.int .i64 0)),(some (20, true))⟩,⟨some 23,.mov (.t 22),(some (20, true))⟩,⟨some 24,.mov (.t 4),(some (23, false))⟩,⟨some 25,.eql (.one .i) true (.t 24) (.c (.int .i32 46)),(some (23, false))⟩,⟨some 26,.mov (.t 25),(some (23, false))⟩,⟨some 27,.mov (.t 4),(some (26, true))⟩,⟨some 28,.bin .lss (.t 27) (.c (.int .i32 48)),(some (26, true))⟩,⟨some 29,.mov (.t 28),(some (26, true))⟩,⟨some 30,.mov (.t 4),(some (29, false))⟩,⟨some 31,.bin .gtr (.t 30) (.c (.int .i32 57)),(some (29, false))⟩,⟨some 32,.pick (.t 29) (.c (.bool true)) (.t 31),(some (26, true))⟩,⟨some 33,.pick (.t 26) (.t 32) (.c (.bool false)),(some (23, false))⟩,⟨some 34,.pick (.t 23) (.c (.bool true)) (.t 33),(some (20, true))⟩,⟨some 35,.pick (.t 20) (.t 34) (.c (.bool false)),none⟩])
 (.cond (.t 35) (.seq (.reg [⟨some 2,.mov (.c (.bool false)),none⟩])
 (.jump .ret))
 .skip))))))
def a61 : AFunc := ⟨41, [.tmp 2],
 .seq (.reg [⟨some 2,.mov (.c (.bool false)),none⟩])
 (.seq (.seq (.reg [⟨some 6,.mov (.t 0),none⟩,⟨some 7,.srange (.t 6),none⟩])
 (.block 0 (.loop L61_0)))
 (.seq (.reg [⟨some 36,.mov (.t 0),none⟩,⟨some 37,.len 0 (.t 36),none⟩,⟨some 38,.mklit 1 [.t 37],none⟩,⟨some 39,.call (.c (.func 92 [] [])) [(.c (.int .i64 1)), (.c (.int .i64 16)), (.t 38)],none⟩,⟨some 40,.not (.t 39),none⟩,⟨some 2,.mov (.t 40),none⟩])
 (.jump .ret)))⟩
def a62 : AFunc := ⟨9, [.tmp 4],
 .seq (.reg [⟨some 4,.mov (.c (.bool false)),none⟩])
 (.seq (.reg [⟨some 5,.mov (.t 0),none⟩,⟨some 6,.mov (.t 1),none⟩,⟨some 7,.call (.c (.func 93 [] [])) [.t 5,.t 6],none⟩,⟨some 8,.bin .geq (.t 7) (.c (.int .i64 0)),none⟩,⟨some 4,.mov (.t 8),none⟩])
 (.jump .ret))⟩
def a63 : AFunc := ⟨9, [.tmp 3],
 .seq (.reg [⟨some 2,.box 4 (.t 0),none⟩,⟨some 3,.mov (.c (.bool false)),none⟩])
 (.seq (.reg [⟨some 4,.faddr (.t 2) 0,none⟩,⟨some 5,.load none (.t 4),none⟩,⟨some 6,.faddr (.t 1) 0,none⟩,⟨some 7,.load none (.t 6),none⟩,⟨some 8,.eql (.one .s) false (.t 5) (.t 7),none⟩,⟨some 3,.mov (.t 8),none⟩])
 (.jump .ret))⟩
def L64_0 : ACode := .seq (.reg [⟨some 12,.bin .lss (.t 11) (.t 10),none⟩])
 (.seq (.cond (.t 12) .skip
 (.jump (.exit 0)))
 (.seq (.block 1 (.seq (.reg [⟨some 13,.mov (.t 11),none⟩,⟨some 14,.iaddr none 3 (.t 9) (.t 11),none⟩,⟨some 15,.load (some 3) (.t 14),none⟩,⟨some 7,.alloc [.int .i64 0, .int .i64 0, .int .i64 0],none⟩,⟨some 6,.mov (.t 13),none⟩,⟨none,.store 3 (.t 7) (.t 15),none⟩])
 (.seq (.reg [⟨some 16,.mov (.t 1),none⟩,⟨some 17,.mov (.t 6),none⟩,⟨some 18,.load (some 3) (.t 7),none⟩,⟨some 19,.call (.t 16) [.t 17,.t 18],none⟩,⟨some 8,.mov (.t 19),none⟩])
 (.seq (.reg [⟨some 20,.mov (.t 8),none⟩,⟨some 21,.eql (.one .i) true (.t 20) (.c (.int .i64 0)),none⟩])
 (.cond (.t 21) (.seq (.reg [⟨some 22,.mov (.t 6),none⟩,⟨some 23,.mov (.t 8),none⟩,⟨some 4,.mov (.t 22),none⟩,⟨some 5,.mov (.t 23),none⟩])
 (.jump .ret))
 .skip)))))
 (.reg [⟨some 24,.bin .add (.t 11) (.c (.int .i64 1)),none⟩,⟨some 11,.mov (.t 24),none⟩])))
def a64 : AFunc := ⟨25, [.tmp 4, .tmp 5],
 .seq (.reg [⟨some 4,.mov (.c (.int .i64 0)),none⟩,⟨some 5,.mov (.c (.int .i64 0)),none⟩])
 (.seq (.seq (.reg [⟨some 9,.mov (.t 0),none⟩,⟨some 10,.len 1 (.t 9),none⟩,⟨some 11,.mov (.c (.int .i64 0)),none⟩])
 (.block 0 (.loop L64_0)))
 (.seq (.reg [⟨some 4,.mov (.c (.int .i64 0)),none⟩,⟨some 5,.mov (.c (.int .i64 0)),none⟩])
 (.jump .ret)))⟩
def a65 : AFunc := ⟨29, [.tmp 5],
 .seq (.reg [⟨some 4,.box 3 (.t 1),none⟩,⟨some 5,.mov (.c (.int .i64 0)),none⟩])
 (.seq (.block 0 (.seq (.reg [⟨some 7,.faddr (.t 2) 5,none⟩,⟨some 8,.load none (.t 7),none⟩,⟨some 9,.len 1 (.t 8),none⟩,⟨some 10,.bin .sub (.t 9) (.c (.int .i64 1)),none⟩,⟨some 11,.faddr (.t 4) 0,none⟩,⟨some 12,.load none (.t 11),none⟩,⟨some 13,.mklit 1 [.t 12],none⟩,⟨some 14,.call (.c (.func 55 [] [])) [(.c (.int .i64 0)), (.t 10), (.t 13)],none⟩,⟨some 6,.mov (.t 14),none⟩])
 (.cond (.t 6) (.seq (.reg [⟨some 5,.mov (.c (.int .i64 4)),none⟩])
 (.jump .ret))
 (.seq (.reg [⟨some 16,.faddr (.t 2) 0,none⟩,⟨some 17,.load none (.t 16),none⟩,⟨some 18,.len 1 (.t 17),none⟩,⟨some 19,.faddr (.t 4) 1,none⟩,⟨some 20,.load none (.t 19),none⟩,⟨some 21,.mklit 1 [.t 20],none⟩,⟨some 22,.call (.c (.func 55 [] [])) [(.c (.int .i64 0)), (.t 18), (.t 21)],none⟩,⟨some 23,.mov (.t 22),none⟩,⟨some 24,.faddr (.t 4) 2,(some (23, false))⟩,⟨some 25,.load none (.t 24),(some (23, false))⟩,⟨some 26,.mklit 1 [.t 25],(some (23, false))⟩,⟨some 27,.call (.c (.func 55 [] [])) [(.c (.int .i64 0)), (.c (.int .i64 30)), (.t 26)],(some (23, false))⟩,⟨some 28,.pick (.t 23) (.c (.bool true)) (.t 27),none⟩,⟨some 15,.mov (.t 28),none⟩])
 (.cond (.t 15) (.seq (.reg [⟨some 5,.mov (.c (.int .i64 7)),none⟩])
 (.jump .ret))
 .skip)))))
 (.seq (.reg [⟨some 5,.mov (.c (.int .i64 0)),none⟩])
 (.jump .ret)))⟩
def a66 : AFunc := ⟨15, [.tmp 6],
 .seq (.reg [⟨some 6,.mov (.c (.bool false)),none⟩])
 (.seq (.reg [⟨some 7,.mov (.t 0),none⟩,⟨some 8,.mov (.t 1),none⟩,⟨some 9,.bin .geq (.t 7) (.t 8),none⟩,⟨some 10,.mov (.t 9),none⟩,⟨some 11,.mov (.t 0),(some (10, true))⟩,⟨some 12,.mov (.t 2),(some (10, true))⟩,⟨some 13,.bin .leq (.t 11) (.t 12),(some (10, true))⟩,⟨some 14,.pick (.t 10) (.t 13) (.c (.bool false)),none⟩,⟨some 6,.mov (.t 14),none⟩])
 (.jump .ret))⟩
def a67 : AFunc := ⟨26, [.tmp 6],
 .seq (.reg [⟨some 3,.box 2 (.t 0),none⟩,⟨some 6,.mov (.c (.int .i64 0)),none⟩])
 (.seq (.seq (.reg [⟨some 7,.faddr (.t 3) 0,none⟩,⟨some 8,.load none (.t 7),none⟩,⟨some 9,.mov (.t 1),none⟩,⟨some 10,.mov (.t 2),none⟩,⟨some 11,.call (.c (.func 66 [] [])) [.t 8,.t 9,.t 10],none⟩,⟨some 12,.not (.t 11),none⟩,⟨some 13,.mov (.t 12),none⟩,⟨some 14,.faddr (.t 3) 1,(some (13, false))⟩,⟨some 15,.load none (.t 14),(some (13, false))⟩,⟨some 16,.mov (.t 1),(some (13, false))⟩,⟨some 17,.mov (.t 2),(some (13, false))⟩,⟨some 18,.call (.c (.func 66 [] [])) [.t 15,.t 16,.t 17],(some (13, false))⟩,⟨some 19,.not (.t 18),(some (13, false))⟩,⟨some 20,.pick (.t 13) (.c (.bool true)) (.t 19),none⟩])
 (.cond (.t 20) (.seq (.reg [⟨some 6,.mov (.c (.int .i64 7)),none⟩])
 (.jump .ret))
 .skip))
 (.seq (.seq (.reg [⟨some 21,.faddr (.t 3) 1,none⟩,⟨some 22,.load none (.t 21),none⟩,⟨some 23,.faddr (.t 3) 0,none⟩,⟨some 24,.load none (.t 23),none⟩,⟨some 25,.bin .lss (.t 22) (.t 24),none⟩])
 (.cond (.t 25) (.seq (.reg [⟨some 6,.mov (.c (.int .i64 2)),none⟩])
 (.jump .ret))
 .skip))
 (.seq (.reg [⟨some 6,.mov (.c (.int .i64 0)),none⟩])
 (.jump .ret))))⟩
def a68 : AFunc := ⟨14, [.tmp 4],
 .seq (.reg [⟨some 4,.mov (.c (.int .i64 0)),none⟩])
 (.seq (.reg [⟨some 5,.mov (.c (.int .i64 0)),none⟩])
 (.seq (.seq (.reg [⟨some 6,.mov (.t 1),none⟩,⟨some 7,.mov (.t 0),none⟩,⟨some 8,.call (.c (.func 94 [] [])) [.t 6,.t 7],none⟩,⟨some 9,.bin .geq (.t 8) (.c (.int .i64 0)),none⟩])
 (.cond (.t 9) (.reg [⟨some 5,.mov (.c (.int .i64 5)),none⟩])
 .skip))
 (.seq (.seq (.reg [⟨some 10,.mov (.t 0),none⟩,⟨some 11,.call (.c (.func 95 [] [])) [.t 10],none⟩,⟨some 12,.not (.t 11),none⟩])
 (.cond (.t 12) (.reg [⟨some 5,.mov (.c (.int .i64 6)),none⟩])
 .skip))
 (.seq (.reg [⟨some 13,.mov (.t 5),none⟩,⟨some 4,.mov (.t 13),none⟩])
 (.jump .ret)))))⟩
def a69 : AFunc := ⟨6, [.tmp 2],
 .seq (.reg [⟨some 1,.box 7 (.t 0),none⟩,⟨some 2,.mov (.c (.int .i64 0)),none⟩])
 (.seq (.reg [⟨some 3,.faddr (.t 1) 0,none⟩,⟨some 4,.load none (.t 3),none⟩,⟨some 5,.len 1 (.t 4),none⟩,⟨some 2,.mov (.t 5),none⟩])
 (.jump .ret))⟩
def a70 : AFunc := ⟨47, [.tmp 6, .tmp 7],
 .seq (.reg [⟨some 3,.box 7 (.t 0),none⟩,⟨some 6,.mov (.c (.nilPtr)),none⟩,⟨some 7,.mov (.c (.int .i64 0)),none⟩])
 (.seq (.seq (.reg [⟨some 14,.load (some 7) (.t 3),none⟩,⟨some 15,.call (.c (.func 15 [] [])) [.t 14],none⟩,⟨some 13,.mov (.t 15),none⟩,⟨some 16,.ext (.t 13) 0,none⟩,⟨some 17,.ext (.t 13) 1,none⟩,⟨some 18,.ext (.t 13) 2,none⟩,⟨some 8,.mov (.t 16),none⟩,⟨some 9,.mov (.t 17),none⟩,⟨some 10,.mov (.t 18),none⟩])
 (.seq (.reg [⟨some 19,.mov (.t 10),none⟩,⟨some 20,.eql (.one .i) true (.t 19) (.c (.int .i64 0)),none⟩])
 (.cond (.t 20) (.seq (.reg [⟨some 21,.mov (.t 10),none⟩,⟨some 6,.mov (.c (.nilPtr)),none⟩,⟨some 7,.mov (.t 21),none⟩])
 (.jump .ret))
 .skip)))
 (.seq (.seq (.reg [⟨some 22,.mov (.t 1),none⟩,⟨some 23,.eql (.one .i) true (.t 22) (.c (.int .i64 (-1099511627776))),none⟩,⟨some 24,.mov (.t 23),none⟩,⟨some 25,.faddr (.t 3) 5,(some (24, true))⟩,⟨some 26,.load none (.t 25),(some (24, true))⟩,⟨some 27,.len 1 (.t 26),(some (24, true))⟩,⟨some 28,.bin .sub (.t 27) (.c (.int .i64 1)),(some (24, true))⟩,⟨some 29,.mov (.t 1),(some (24, true))⟩,⟨some 30,.mklit 1 [.t 29],(some (24, true))⟩,⟨some 31,.call (.c (.func 55 [] [])) [(.c (.int .i64 0)), (.t 28), (.t 30)],(some (24, true))⟩,⟨some 32,.pick (.t 24) (.t 31) (.c (.bool false)),none⟩])
 (.cond (.t 32) (.seq (.reg [⟨some 6,.mov (.c (.nilPtr)),none⟩,⟨some 7,.mov (.c (.int .i64 4)),none⟩])
 (.jump .ret))
 .skip))
 (.seq (.seq (.reg [⟨some 33,.mov (.t 2),none⟩,⟨some 34,.call (.t 33) [],none⟩,⟨some 11,.mov (.t 34),none⟩])
 (.seq (.reg [⟨some 35,.mov (.t 11),none⟩,⟨some 36,.eql (.one .i) true (.t 35) (.c (.int .i64 0)),none⟩])
 (.cond (.t 36) (.seq (.reg [⟨some 37,.mov (.t 11),none⟩,⟨some 6,.mov (.c (.nilPtr)),none⟩,⟨some 7,.mov (.t 37),none⟩])
 (.jump .ret))
 .skip)))
 (.seq (.reg [⟨some 38,.load (some 7) (.t 3),none⟩,⟨some 39,.call (.c (.func 86 [] [])) [(.t 38), (.c (.int .i64 0))],none⟩,⟨some 12,.mov (.t 39),none⟩])
 (.seq (.seq (.reg [⟨some 40,.mov (.t 12),none⟩,⟨some 41,.nilCheck (.t 40),none⟩,⟨some 42,.faddr (.t 41) 8,none⟩,⟨some 43,.load none (.t 42),none⟩,⟨some 44,.len 2 (.t 43),none⟩,⟨some 45,.eql (.one .i) false (.t 44) (.c (.int .i64 0)),none⟩])
 (.cond (.t 45) (.seq (.reg [⟨some 6,.mov (.c (.nilPtr)),none⟩,⟨some 7,.mov (.c (.int .i64 8)),none⟩])
 (.jump .ret))
 .skip))
 (.seq (.reg [⟨some 46,.mov (.t 12),none⟩,⟨some 6,.mov (.t 46),none⟩,⟨some 7,.mov (.c (.int .i64 0)),none⟩])
 (.jump .ret)))))))⟩
def a71 : AFunc := ⟨4, [.tmp 2],
 .seq (.reg [⟨some 1,.box 1 (.t 0),none⟩,⟨some 2,.mov (.c (.nilFunc)),none⟩])
 (.seq (.reg [⟨some 3,.mkfun 96 [] [.t 1],none⟩,⟨some 2,.mov (.t 3),none⟩])
 (.jump .ret))⟩
def L72_2 : ACode := .seq (.reg [⟨some 35,.bin .lss (.t 34) (.t 33),none⟩])
 (.seq (.cond (.t 35) .skip
 (.jump (.exit 2)))
 (.seq (.block 3 (.seq (.reg [⟨some 36,.iaddr none 1 (.t 32) (.t 34),none⟩,⟨some 37,.load none (.t 36),none⟩,⟨some 10,.mov (.t 37),none⟩])
 (.seq (.reg [⟨some 38,.mov (.t 0),none⟩,⟨some 39,.load (some 7) (.t 7),none⟩,⟨some 40,.mov (.t 10),none⟩,⟨some 41,.mov (.t 2),none⟩,⟨some 42,.call (.c (.func 97 [] [])) [.t 38,.t 39,.t 40,.t 41],none⟩,⟨some 11,.mov (.t 42),none⟩])
 (.reg [⟨some 43,.faddr (.t 6) 0,none⟩,⟨some 44,.load none (.t 43),none⟩,⟨some 45,.mov (.t 11),none⟩,⟨some 46,.min [.t 44,.t 45],none⟩,⟨some 47,.faddr (.t 6) 1,none⟩,⟨some 48,.load none (.t 47),none⟩,⟨some 49,.mov (.t 11),none⟩,⟨some 50,.max [.t 48,.t 49],none⟩,⟨some 51,.build [.int .i64 0, .int .i64 0] [(0, 1, (.t 46)), (1, 1, (.t 50))],none⟩,⟨none,.store 2 (.t 6) (.t 51),none⟩]))))
 (.reg [⟨some 52,.bin .add (.t 34) (.c (.int .i64 1)),none⟩,⟨some 34,.mov (.t 52),none⟩])))
def L72_0 : ACode := .seq (.reg [⟨some 18,.mnext (.t 17),none⟩,⟨some 19,.ext (.t 18) 0,none⟩])
 (.seq (.cond (.t 19) .skip
 (.jump (.exit 0)))
 (.block 1 (.seq (.reg [⟨some 20,.entry (.t 17),none⟩,⟨some 21,.ext (.t 20) 0,none⟩,⟨some 22,.ext (.t 20) 1,none⟩,⟨some 7,.alloc [.int .i64 0, .int .i64 0, .int .i64 0, .int .i64 0, .int .i64 0, .int .i64 0, .int .i64 0],none⟩,⟨some 8,.alloc [.int .i64 0, .int .i64 0, .int .i64 0, .int .i64 0],none⟩,⟨none,.store 7 (.t 7) (.t 21),none⟩,⟨none,.store 4 (.t 8) (.t 22),none⟩])
 (.seq (.dreg [⟨⟨some 23,.mov (.t 1),none⟩, 0, 0⟩,⟨⟨some 24,.iaddr (some 4) 1 (.t 8) (.t 23),none⟩, 0, 0⟩,⟨⟨some 25,.load none (.t 24),none⟩, 0, 0⟩,⟨⟨some 26,.mov (.t 0),none⟩, 0, 0⟩,⟨⟨some 27,.nilCheck (.t 26),none⟩, 0, 0⟩,⟨⟨some 28,.faddr (.t 27) 0,none⟩, 0, 0⟩,⟨⟨some 29,.faddr (.t 28) 0,none⟩, 0, 0⟩,⟨⟨some 30,.load none (.t 29),none⟩, 0, 0⟩,⟨⟨some 31,.len 1 (.t 30),none⟩, 0, 0⟩,⟨⟨some 32,.call (.c (.func 78 [] [])) [.t 25,.t 31],none⟩, 0, 1⟩,⟨⟨some 33,.len 1 (.t 32),none⟩, 1, 1⟩,⟨⟨some 34,.mov (.c (.int .i64 0)),none⟩, 0, 1⟩])
 (.block 2 (.loop L72_2))))))
def a72 : AFunc := ⟨54, [.cell 6 (some 2)],
 .seq (.reg [⟨some 6,.alloc [.int .i64 0, .int .i64 0],none⟩])
 (.seq (.reg [⟨some 12,.build [.int .i64 0, .int .i64 0] [(0, 1, (.c (.int .i64 31))), (1, 1, (.c (.int .i64 (-1))))],none⟩,⟨none,.store 2 (.t 6) (.t 12),none⟩])
 (.seq (.seq (.reg [⟨some 13,.mov (.t 0),none⟩,⟨some 14,.nilCheck (.t 13),none⟩,⟨some 15,.faddr (.t 14) 8,none⟩,⟨some 16,.load none (.t 15),none⟩,⟨some 17,.mrange (.t 16),none⟩])
 (.block 0 (.loop L72_0)))
 (.seq (.reg [⟨some 53,.load (some 2) (.t 6),none⟩,⟨none,.store 2 (.t 6) (.t 53),none⟩])
 (.jump .ret))))⟩
def a73 : AFunc := ⟨16, [.tmp 4, .tmp 5],
 .seq (.reg [⟨some 2,.box 7 (.t 0),none⟩,⟨some 4,.mov (.c (.lit [] true none)),none⟩,⟨some 5,.mov (.c (.int .i64 0)),none⟩])
 (.seq (.seq (.reg [⟨some 7,.mov (.t 1),none⟩,⟨some 8,.eql (.one .i) true (.t 7) (.c (.int .i64 0)),none⟩])
 (.cond (.t 8) (.seq (.reg [⟨some 9,.mov (.t 1),none⟩,⟨some 4,.mov (.c (.lit [] true none)),none⟩,⟨some 5,.mov (.t 9),none⟩])
 (.jump .ret))
 .skip))
 (.seq (.reg [⟨some 10,.load (some 7) (.t 2),none⟩,⟨some 11,.call (.c (.func 49 [] [])) [(.t 10), (.c (.lit [] true none))],none⟩,⟨some 6,.mov (.t 11),none⟩])
 (.seq (.seq (.reg [⟨some 12,.mov (.t 6),none⟩,⟨some 13,.len 1 (.t 12),none⟩,⟨some 14,.eql (.one .i) false (.t 13) (.c (.int .i64 0)),none⟩])
 (.cond (.t 14) (.seq (.reg [⟨some 4,.mov (.c (.lit [] true none)),none⟩,⟨some 5,.mov (.c (.int .i64 8)),none⟩])
 (.jump .ret))
 .skip))
 (.seq (.reg [⟨some 15,.mov (.t 6),none⟩,⟨some 4,.mov (.t 15),none⟩,⟨some 5,.mov (.c (.int .i64 0)),none⟩])
 (.jump .ret)))))⟩
def a74 : AFunc := ⟨16, [.tmp 6],
 .seq (.reg [⟨some 6,.mov (.c (.int .i64 0)),none⟩])
 (.seq (.seq (.reg [⟨some 7,.mov (.t 2),none⟩,⟨some 8,.eql (.one .i) false (.t 7) (.c (.int .i64 0)),none⟩,⟨some 9,.mov (.t 8),none⟩,⟨some 10,.mov (.t 0),(some (9, true))⟩,⟨some 11,.mov (.t 1),(some (9, true))⟩,⟨some 12,.call (.c (.func 66 [] [])) [(.t 10), (.c (.int .i64 0)), (.t 11)],(some (9, true))⟩,⟨some 13,.not (.t 12),(some (9, true))⟩,⟨some 14,.pick (.t 9) (.t 13) (.c (.bool false)),none⟩])
 (.cond (.t 14) (.reg [⟨some 2,.mov (.c (.int .i64 7)),none⟩])
 .skip))
 (.seq (.reg [⟨some 15,.mov (.t 2),none⟩,⟨some 6,.mov (.t 15),none⟩])
 (.jump .ret)))⟩
def a75 : AFunc := ⟨26, [.tmp 4],
 .seq (.reg [⟨some 2,.box 7 (.t 0),none⟩,⟨some 4,.mov (.c (.int .i64 0)),none⟩])
 (.seq (.reg [⟨some 9,.load (some 7) (.t 2),none⟩,⟨some 10,.call (.c (.func 16 [] [])) [.t 9],none⟩,⟨some 8,.mov (.t 10),none⟩,⟨some 11,.ext (.t 8) 0,none⟩,⟨some 12,.ext (.t 8) 1,none⟩,⟨some 13,.ext (.t 8) 2,none⟩,⟨some 5,.mov (.t 11),none⟩,⟨some 6,.mov (.t 12),none⟩,⟨some 7,.mov (.t 13),none⟩])
 (.seq (.seq (.reg [⟨some 14,.mov (.t 7),none⟩,⟨some 15,.eql (.one .i) false (.t 14) (.c (.int .i64 0)),none⟩,⟨some 16,.mov (.t 15),none⟩,⟨some 17,.mov (.t 1),(some (16, true))⟩,⟨some 18,.faddr (.t 2) 5,(some (16, true))⟩,⟨some 19,.load none (.t 18),(some (16, true))⟩,⟨some 20,.len 1 (.t 19),(some (16, true))⟩,⟨some 21,.bin .sub (.t 20) (.c (.int .i64 1)),(some (16, true))⟩,⟨some 22,.call (.c (.func 66 [] [])) [(.t 17), (.c (.int .i64 0)), (.t 21)],(some (16, true))⟩,⟨some 23,.not (.t 22),(some (16, true))⟩,⟨some 24,.pick (.t 16) (.t 23) (.c (.bool false)),none⟩])
 (.cond (.t 24) (.reg [⟨some 7,.mov (.c (.int .i64 4)),none⟩])
 .skip))
 (.seq (.reg [⟨some 25,.mov (.t 7),none⟩,⟨some 4,.mov (.t 25),none⟩])
 (.jump .ret))))⟩
def L76_2 : ACode := .seq (.seq (.reg [⟨some 35,.mov (.t 10),none⟩,⟨some 36,.mov (.t 0),none⟩,⟨some 37,.mov (.t 9),none⟩,⟨some 38,.iaddr none 2 (.t 36) (.t 37),none⟩,⟨some 39,.faddr (.t 38) 1,none⟩,⟨some 40,.load none (.t 39),none⟩,⟨some 41,.mov (.t 1),none⟩,⟨some 42,.iaddr none 1 (.t 40) (.t 41),none⟩,⟨some 43,.load none (.t 42),none⟩,⟨some 44,.len 1 (.t 43),none⟩,⟨some 45,.bin .lss (.t 35) (.t 44),none⟩])
 (.cond (.t 45) .skip
 (.jump (.exit 2))))
 (.seq (.block 3 (.dreg [⟨⟨some 48,.load (some 2) (.t 8),none⟩, 0, 1⟩,⟨⟨some 49,.mov (.t 0),none⟩, 0, 0⟩,⟨⟨some 50,.mov (.t 9),none⟩, 0, 0⟩,⟨⟨some 51,.iaddr none 2 (.t 49) (.t 50),none⟩, 0, 0⟩,⟨⟨some 52,.faddr (.t 51) 0,none⟩, 0, 0⟩,⟨⟨some 53,.load none (.t 52),none⟩, 0, 0⟩,⟨⟨some 54,.mov (.t 0),none⟩, 0, 0⟩,⟨⟨some 55,.mov (.t 9),none⟩, 0, 0⟩,⟨⟨some 56,.iaddr none 2 (.t 54) (.t 55),none⟩, 0, 0⟩,⟨⟨some 57,.faddr (.t 56) 1,none⟩, 0, 0⟩,⟨⟨some 58,.load none (.t 57),none⟩, 0, 0⟩,⟨⟨some 59,.mov (.t 1),none⟩, 0, 0⟩,⟨⟨some 60,.iaddr none 1 (.t 58) (.t 59),none⟩, 0, 0⟩,⟨⟨some 61,.load none (.t 60),none⟩, 0, 0⟩,⟨⟨some 62,.mov (.t 10),none⟩, 0, 0⟩,⟨⟨some 63,.iaddr none 1 (.t 61) (.t 62),none⟩, 0, 0⟩,⟨⟨some 64,.load none (.t 63),none⟩, 0, 0⟩,⟨⟨some 65,.mov (.t 2),none⟩, 0, 0⟩,⟨⟨some 66,.call (.c (.func 43 [] [])) [.t 53,.t 64,.t 65],none⟩, 0, 1⟩,⟨⟨some 67,.call (.c (.func 83 [] [])) [.t 48,.t 66],none⟩, 1, 2⟩,⟨⟨none,.store 2 (.t 8) (.t 67),none⟩, 2, 3⟩]))
 (.reg [⟨some 46,.mov (.t 10),none⟩,⟨some 47,.bin .add (.t 46) (.c (.int .i64 1)),none⟩,⟨some 10,.mov (.t 47),none⟩]))
def L76_0 : ACode := .seq (.seq (.reg [⟨some 29,.mov (.t 9),none⟩,⟨some 30,.mov (.t 0),none⟩,⟨some 31,.len 1 (.t 30),none⟩,⟨some 32,.bin .lss (.t 29) (.t 31),none⟩])
 (.cond (.t 32) .skip
 (.jump (.exit 0))))
 (.seq (.block 1 (.seq (.reg [⟨some 10,.mov (.c (.int .i64 0)),none⟩])
 (.block 2 (.loop L76_2))))
 (.reg [⟨some 33,.mov (.t 9),none⟩,⟨some 34,.bin .add (.t 33) (.c (.int .i64 1)),none⟩,⟨some 9,.mov (.t 34),none⟩]))
def a76 : AFunc := ⟨69, [.cell 6 (some 2)],
 .seq (.reg [⟨some 6,.alloc [.int .i64 0, .int .i64 0],none⟩])
 (.seq (.dreg [⟨⟨some 11,.mov (.t 0),none⟩, 0, 0⟩,⟨⟨some 12,.iaddr none 2 (.t 11) (.c (.int .i64 0)),none⟩, 0, 0⟩,⟨⟨some 13,.faddr (.t 12) 0,none⟩, 0, 0⟩,⟨⟨some 14,.load none (.t 13),none⟩, 0, 0⟩,⟨⟨some 15,.mov (.t 0),none⟩, 0, 0⟩,⟨⟨some 16,.iaddr none 2 (.t 15) (.c (.int .i64 0)),none⟩, 0, 0⟩,⟨⟨some 17,.faddr (.t 16) 1,none⟩, 0, 0⟩,⟨⟨some 18,.load none (.t 17),none⟩, 0, 0⟩,⟨⟨some 19,.mov (.t 1),none⟩, 0, 0⟩,⟨⟨some 20,.iaddr none 1 (.t 18) (.t 19),none⟩, 0, 0⟩,⟨⟨some 21,.load none (.t 20),none⟩, 0, 0⟩,⟨⟨some 22,.iaddr none 1 (.t 21) (.c (.int .i64 0)),none⟩, 0, 0⟩,⟨⟨some 23,.load none (.t 22),none⟩, 0, 0⟩,⟨⟨some 24,.mov (.t 2),none⟩, 0, 0⟩,⟨⟨some 25,.call (.c (.func 43 [] [])) [.t 14,.t 23,.t 24],none⟩, 0, 1⟩,⟨⟨some 7,.mov (.t 25),none⟩, 1, 1⟩])
 (.seq (.reg [⟨some 26,.mov (.t 7),none⟩,⟨some 27,.mov (.t 7),none⟩,⟨some 28,.build [.int .i64 0, .int .i64 0] [(0, 1, (.t 26)), (1, 1, (.t 27))],none⟩,⟨some 8,.alloc [.int .i64 0, .int .i64 0],none⟩,⟨none,.store 2 (.t 8) (.t 28),none⟩])
 (.seq (.seq (.reg [⟨some 9,.mov (.c (.int .i64 0)),none⟩])
 (.block 0 (.loop L76_0)))
 (.seq (.reg [⟨some 68,.load (some 2) (.t 8),none⟩,⟨none,.store 2 (.t 6) (.t 68),none⟩])
 (.jump .ret)))))⟩
def a77 : AFunc := ⟨1, [.tmp 0],
 .seq (.reg [⟨some 0,.mov (.c (.int .i64 0)),none⟩])
 (.seq (.reg [⟨some 0,.mov (.c (.int .i64 0)),none⟩])
 (.jump .ret))⟩
def L78_0 : ACode := .seq (.reg [⟨some 8,.bin .lss (.t 7) (.t 6),none⟩])
 (.seq (.cond (.t 8) .skip
 (.jump (.exit 0)))
 (.seq (.block 1 (.seq (.reg [⟨some 9,.mov (.t 7),none⟩,⟨some 5,.mov (.t 9),none⟩])
 (.seq (.reg [⟨some 10,.mov (.t 0),none⟩,⟨some 11,.mov (.t 5),none⟩,⟨some 12,.bin .shr (.t 10) (.t 11),none⟩,⟨some 13,.bin .and (.t 12) (.c (.int .i64 1)),none⟩,⟨some 14,.eql (.one .i) false (.t 13) (.c (.int .i64 1)),none⟩])
 (.cond (.t 14) (.reg [⟨some 15,.mov (.t 4),none⟩,⟨some 16,.mov (.t 5),none⟩,⟨some 17,.mklit 1 [.t 16],none⟩,⟨some 18,.append 1 8 (.t 15) (.t 17),none⟩,⟨some 4,.mov (.t 18),none⟩])
 .skip))))
 (.reg [⟨some 19,.bin .add (.t 7) (.c (.int .i64 1)),none⟩,⟨some 7,.mov (.t 19),none⟩])))
def a78 : AFunc := ⟨21, [.tmp 4],
 .seq (.reg [⟨some 4,.mov (.c (.lit [] true none)),none⟩])
 (.seq (.seq (.reg [⟨some 6,.mov (.t 1),none⟩,⟨some 7,.mov (.c (.int .i64 0)),none⟩])
 (.block 0 (.loop L78_0)))
 (.seq (.reg [⟨some 20,.mov (.t 4),none⟩,⟨some 4,.mov (.t 20),none⟩])
 (.jump .ret)))⟩
def L79_0 : ACode := .seq (.seq (.dreg [⟨⟨some 6,.mov (.t 5),none⟩, 0, 0⟩,⟨⟨some 7,.mov (.t 0),none⟩, 0, 0⟩,⟨⟨some 8,.len 1 (.t 7),none⟩, 0, 0⟩,⟨⟨some 9,.bin .lss (.t 6) (.t 8),none⟩, 0, 0⟩,⟨⟨some 10,.mov (.t 9),none⟩, 0, 0⟩,⟨⟨some 11,.mov (.t 5),(some (10, true))⟩, 0, 0⟩,⟨⟨some 12,.mov (.t 1),(some (10, true))⟩, 0, 0⟩,⟨⟨some 13,.len 1 (.t 12),(some (10, true))⟩, 0, 0⟩,⟨⟨some 14,.bin .lss (.t 11) (.t 13),(some (10, true))⟩, 0, 0⟩,⟨⟨some 15,.pick (.t 10) (.t 14) (.c (.bool false)),none⟩, 0, 0⟩,⟨⟨some 16,.mov (.t 15),none⟩, 0, 0⟩,⟨⟨some 17,.mov (.t 0),(some (16, true))⟩, 0, 0⟩,⟨⟨some 18,.mov (.t 5),(some (16, true))⟩, 0, 0⟩,⟨⟨some 19,.iaddr none 1 (.t 17) (.t 18),(some (16, true))⟩, 0, 0⟩,⟨⟨some 20,.load none (.t 19),(some (16, true))⟩, 0, 0⟩,⟨⟨some 21,.mov (.t 1),(some (16, true))⟩, 0, 0⟩,⟨⟨some 22,.mov (.t 5),(some (16, true))⟩, 0, 0⟩,⟨⟨some 23,.iaddr none 1 (.t 21) (.t 22),(some (16, true))⟩, 0, 0⟩,⟨⟨some 24,.load none (.t 23),(some (16, true))⟩, 0, 0⟩,⟨⟨some 25,.eql (.one .i) false (.t 20) (.t 24),(some (16, true))⟩, 0, 0⟩,⟨⟨some 26,.pick (.t 16) (.t 25) (.c (.bool false)),none⟩, 0, 0⟩])
 (.cond (.t 26) .skip
 (.jump (.exit 0))))
 (.block 1 (.reg [⟨some 27,.mov (.t 5),none⟩,⟨some 28,.bin .add (.t 27) (.c (.int .i64 1)),none⟩,⟨some 5,.mov (.t 28),none⟩]))
def a79 : AFunc := ⟨48, [.tmp 4],
 .seq (.reg [⟨some 4,.mov (.c (.bool false)),none⟩])
 (.seq (.reg [⟨some 5,.mov (.c (.int .i64 0)),none⟩])
 (.seq (.block 0 (.loop L79_0))
 (.seq (.seq (.reg [⟨some 29,.mov (.t 5),none⟩,⟨some 30,.mov (.t 1),none⟩,⟨some 31,.len 1 (.t 30),none⟩,⟨some 32,.eql (.one .i) false (.t 29) (.t 31),none⟩])
 (.cond (.t 32) (.seq (.reg [⟨some 4,.mov (.c (.bool false)),none⟩])
 (.jump .ret))
 .skip))
 (.seq (.dreg [⟨⟨some 33,.mov (.t 5),none⟩, 0, 0⟩,⟨⟨some 34,.mov (.t 0),none⟩, 0, 0⟩,⟨⟨some 35,.len 1 (.t 34),none⟩, 0, 0⟩,⟨⟨some 36,.eql (.one .i) false (.t 33) (.t 35),none⟩, 0, 0⟩,⟨⟨some 37,.mov (.t 36),none⟩, 0, 0⟩,⟨⟨some 38,.mov (.t 0),(some (37, false))⟩, 0, 0⟩,⟨⟨some 39,.mov (.t 5),(some (37, false))⟩, 0, 0⟩,⟨⟨some 40,.iaddr none 1 (.t 38) (.t 39),(some (37, false))⟩, 0, 0⟩,⟨⟨some 41,.load none (.t 40),(some (37, false))⟩, 0, 0⟩,⟨⟨some 42,.mov (.t 1),(some (37, false))⟩, 0, 0⟩,⟨⟨some 43,.mov (.t 5),(some (37, false))⟩, 0, 0⟩,⟨⟨some 44,.iaddr none 1 (.t 42) (.t 43),(some (37, false))⟩, 0, 0⟩,⟨⟨some 45,.load none (.t 44),(some (37, false))⟩, 0, 0⟩,⟨⟨some 46,.bin .lss (.t 41) (.t 45),(some (37, false))⟩, 0, 0⟩,⟨⟨some 47,.pick (.t 37) (.c (.bool true)) (.t 46),none⟩, 0, 0⟩,⟨⟨some 4,.mov (.t 47),none⟩, 0, 0⟩])
 (.jump .ret)))))⟩
def L80_0 : ACode := .seq (.reg [⟨some 23,.bin .lss (.t 22) (.t 21),none⟩])
 (.seq (.cond (.t 23) .skip
 (.jump (.exit 0)))
 (.seq (.block 1 (.seq (.reg [⟨some 24,.iaddr none 1 (.t 20) (.t 22),none⟩,⟨some 25,.load (some 1) (.t 24),none⟩,⟨some 10,.alloc [.nilFunc],none⟩,⟨none,.store 1 (.t 10) (.t 25),none⟩])
 (.seq (.reg [⟨some 26,.faddr (.t 10) 0,none⟩,⟨some 27,.load none (.t 26),none⟩,⟨some 28,.mov (.t 0),none⟩,⟨some 29,.load (some 2) (.t 7),none⟩,⟨some 30,.call (.t 27) [.t 28,.t 29],none⟩])
 (.block 2 (.seq (.reg [⟨some 32,.eql (.one .i) false (.t 30) (.c (.int .i64 2)),none⟩,⟨some 31,.mov (.t 32),none⟩])
 (.cond (.t 31) (.seq (.reg [⟨some 6,.mov (.c (.int .i64 2)),none⟩])
 (.jump .ret))
 (.seq (.reg [⟨some 34,.eql (.one .i) false (.t 30) (.c (.int .i64 0)),none⟩,⟨some 33,.mov (.t 34),none⟩])
 (.cond (.t 33) (.reg [⟨some 8,.mov (.c (.bool false)),none⟩])
 .skip))))))))
 (.reg [⟨some 35,.bin .add (.t 22) (.c (.int .i64 1)),none⟩,⟨some 22,.mov (.t 35),none⟩])))
def L80_5 : ACode := .seq (.reg [⟨some 59,.bin .lss (.t 58) (.t 57),none⟩])
 (.seq (.cond (.t 59) .skip
 (.jump (.exit 5)))
 (.seq (.block 6 (.seq (.reg [⟨some 60,.iaddr none 1 (.t 56) (.t 58),none⟩,⟨some 61,.load none (.t 60),none⟩,⟨some 14,.mov (.t 61),none⟩])
 (.seq (.reg [⟨some 62,.mov (.t 0),none⟩,⟨some 63,.load (some 7) (.t 11),none⟩,⟨some 64,.mov (.t 14),none⟩,⟨some 65,.mov (.t 2),none⟩,⟨some 66,.call (.c (.func 97 [] [])) [.t 62,.t 63,.t 64,.t 65],none⟩,⟨some 15,.mov (.t 66),none⟩])
 (.seq (.dreg [⟨⟨some 67,.mov (.t 15),none⟩, 0, 0⟩,⟨⟨some 68,.mov (.t 0),none⟩, 0, 0⟩,⟨⟨some 69,.nilCheck (.t 68),none⟩, 0, 0⟩,⟨⟨some 70,.faddr (.t 69) 0,none⟩, 0, 0⟩,⟨⟨some 71,.faddr (.t 70) 1,none⟩, 0, 0⟩,⟨⟨some 72,.load none (.t 71),none⟩, 0, 0⟩,⟨⟨some 73,.bin .geq (.t 67) (.t 72),none⟩, 0, 0⟩,⟨⟨some 74,.mov (.t 73),none⟩, 0, 0⟩,⟨⟨some 75,.mov (.t 15),(some (74, true))⟩, 0, 0⟩,⟨⟨some 76,.mov (.t 0),(some (74, true))⟩, 0, 0⟩,⟨⟨some 77,.nilCheck (.t 76),(some (74, true))⟩, 0, 0⟩,⟨⟨some 78,.faddr (.t 77) 0,(some (74, true))⟩, 0, 0⟩,⟨⟨some 79,.faddr (.t 78) 3,(some (74, true))⟩, 0, 0⟩,⟨⟨some 80,.faddr (.t 79) 0,(some (74, true))⟩, 0, 0⟩,⟨⟨some 81,.load none (.t 80),(some (74, true))⟩, 0, 0⟩,⟨⟨some 82,.bin .add (.t 75) (.t 81),(some (74, true))⟩, 0, 0⟩,⟨⟨some 83,.mov (.t 0),(some (74, true))⟩, 0, 0⟩,⟨⟨some 84,.nilCheck (.t 83),(some (74, true))⟩, 0, 0⟩,⟨⟨some 85,.faddr (.t 84) 0,(some (74, true))⟩, 0, 0⟩,⟨⟨some 86,.faddr (.t 85) 2,(some (74, true))⟩, 0, 0⟩,⟨⟨some 87,.load none (.t 86),(some (74, true))⟩, 0, 0⟩,⟨⟨some 88,.bin .leq (.t 82) (.t 87),(some (74, true))⟩, 0, 0⟩,⟨⟨some 89,.pick (.t 74) (.t 88) (.c (.bool false)),none⟩, 0, 0⟩])
 (.cond (.t 89) (.seq (.reg [⟨some 6,.mov (.c (.int .i64 0)),none⟩])
 (.jump .ret))
 .skip)))))
 (.reg [⟨some 90,.bin .add (.t 58) (.c (.int .i64 1)),none⟩,⟨some 58,.mov (.t 90),none⟩])))
def L80_3 : ACode := .seq (.reg [⟨some 42,.mnext (.t 41),none⟩,⟨some 43,.ext (.t 42) 0,none⟩])
 (.seq (.cond (.t 43) .skip
 (.jump (.exit 3)))
 (.block 4 (.seq (.reg [⟨some 44,.entry (.t 41),none⟩,⟨some 45,.ext (.t 44) 0,none⟩,⟨some 46,.ext (.t 44) 1,none⟩,⟨some 11,.alloc [.int .i64 0, .int .i64 0, .int .i64 0, .int .i64 0, .int .i64 0, .int .i64 0, .int .i64 0],none⟩,⟨some 12,.alloc [.int .i64 0, .int .i64 0, .int .i64 0, .int .i64 0],none⟩,⟨none,.store 7 (.t 11) (.t 45),none⟩,⟨none,.store 4 (.t 12) (.t 46),none⟩])
 (.seq (.dreg [⟨⟨some 47,.mov (.t 1),none⟩, 0, 0⟩,⟨⟨some 48,.iaddr (some 4) 1 (.t 12) (.t 47),none⟩, 0, 0⟩,⟨⟨some 49,.load none (.t 48),none⟩, 0, 0⟩,⟨⟨some 50,.mov (.t 0),none⟩, 0, 0⟩,⟨⟨some 51,.nilCheck (.t 50),none⟩, 0, 0⟩,⟨⟨some 52,.faddr (.t 51) 0,none⟩, 0, 0⟩,⟨⟨some 53,.faddr (.t 52) 0,none⟩, 0, 0⟩,⟨⟨some 54,.load none (.t 53),none⟩, 0, 0⟩,⟨⟨some 55,.len 1 (.t 54),none⟩, 0, 0⟩,⟨⟨some 56,.call (.c (.func 78 [] [])) [.t 49,.t 55],none⟩, 0, 1⟩,⟨⟨some 57,.len 1 (.t 56),none⟩, 1, 1⟩,⟨⟨some 58,.mov (.c (.int .i64 0)),none⟩, 0, 1⟩])
 (.block 5 (.loop L80_5))))))
def a80 : AFunc := ⟨91, [.tmp 6],
 .seq (.reg [⟨some 6,.mov (.c (.int .i64 0)),none⟩])
 (.seq (.reg [⟨some 16,.mov (.t 0),none⟩,⟨some 17,.mov (.t 1),none⟩,⟨some 18,.mov (.t 2),none⟩,⟨some 19,.call (.c (.func 72 [] [])) [.t 16,.t 17,.t 18],none⟩,⟨some 7,.alloc [.int .i64 0, .int .i64 0],none⟩,⟨none,.store 2 (.t 7) (.t 19),none⟩,⟨some 8,.mov (.c (.bool true)),none⟩])
 (.seq (.seq (.reg [⟨some 20,.call (.c (.func 98 [] [])) [],none⟩,⟨some 21,.len 1 (.t 20),none⟩,⟨some 22,.mov (.c (.int .i64 0)),none⟩])
 (.block 0 (.loop L80_0)))
 (.seq (.seq (.reg [⟨some 36,.mov (.t 8),none⟩])
 (.cond (.t 36) (.seq (.reg [⟨some 6,.mov (.c (.int .i64 1)),none⟩])
 (.jump .ret))
 .skip))
 (.seq (.seq (.reg [⟨some 37,.mov (.t 0),none⟩,⟨some 38,.nilCheck (.t 37),none⟩,⟨some 39,.faddr (.t 38) 8,none⟩,⟨some 40,.load none (.t 39),none⟩,⟨some 41,.mrange (.t 40),none⟩])
 (.block 3 (.loop L80_3)))
 (.seq (.reg [⟨some 6,.mov (.c (.int .i64 2)),none⟩])
 (.jump .ret))))))⟩
def L81_4 : ACode := .seq (.seq (.reg [⟨some 55,.mov (.t 14),none⟩,⟨some 56,.faddr (.t 4) 3,none⟩,⟨some 57,.faddr (.t 56) 1,none⟩,⟨some 58,.load none (.t 57),none⟩,⟨some 59,.bin .leq (.t 55) (.t 58),none⟩])
 (.cond (.t 59) .skip
 (.jump (.exit 4))))
 (.seq (.block 5 (.seq (.reg [⟨some 62,.mov (.t 10),none⟩,⟨some 63,.bin .add (.t 62) (.c (.int .i64 1)),none⟩,⟨some 10,.mov (.t 63),none⟩])
 (.seq (.reg [⟨some 64,.mov (.t 13),none⟩,⟨some 65,.faddr (.t 4) 1,none⟩,⟨some 66,.load none (.t 65),none⟩,⟨some 67,.bin .geq (.t 64) (.t 66),none⟩,⟨some 68,.mov (.t 67),none⟩,⟨some 69,.mov (.t 13),(some (68, true))⟩,⟨some 70,.mov (.t 14),(some (68, true))⟩,⟨some 71,.bin .add (.t 69) (.t 70),(some (68, true))⟩,⟨some 72,.faddr (.t 4) 2,(some (68, true))⟩,⟨some 73,.load none (.t 72),(some (68, true))⟩,⟨some 74,.bin .leq (.t 71) (.t 73),(some (68, true))⟩,⟨some 75,.pick (.t 68) (.t 74) (.c (.bool false)),none⟩])
 (.cond (.t 75) (.reg [⟨some 76,.mov (.t 9),none⟩,⟨some 77,.bin .add (.t 76) (.c (.int .i64 1)),none⟩,⟨some 9,.mov (.t 77),none⟩])
 .skip))))
 (.reg [⟨some 60,.mov (.t 14),none⟩,⟨some 61,.bin .add (.t 60) (.c (.int .i64 1)),none⟩,⟨some 14,.mov (.t 61),none⟩]))
def L81_2 : ACode := .seq (.seq (.reg [⟨some 21,.mov (.t 12),none⟩,⟨some 22,.mov (.t 1),none⟩,⟨some 23,.mov (.t 11),none⟩,⟨some 24,.iaddr none 2 (.t 22) (.t 23),none⟩,⟨some 25,.faddr (.t 24) 1,none⟩,⟨some 26,.load none (.t 25),none⟩,⟨some 27,.mov (.t 2),none⟩,⟨some 28,.iaddr none 1 (.t 26) (.t 27),none⟩,⟨some 29,.load none (.t 28),none⟩,⟨some 30,.len 1 (.t 29),none⟩,⟨some 31,.bin .lss (.t 21) (.t 30),none⟩])
 (.cond (.t 31) .skip
 (.jump (.exit 2))))
 (.seq (.block 3 (.seq (.dreg [⟨⟨some 34,.mov (.t 1),none⟩, 0, 0⟩,⟨⟨some 35,.mov (.t 11),none⟩, 0, 0⟩,⟨⟨some 36,.iaddr none 2 (.t 34) (.t 35),none⟩, 0, 0⟩,⟨⟨some 37,.faddr (.t 36) 0,none⟩, 0, 0⟩,⟨⟨some 38,.load none (.t 37),none⟩, 0, 0⟩,⟨⟨some 39,.mov (.t 1),none⟩, 0, 0⟩,⟨⟨some 40,.mov (.t 11),none⟩, 0, 0⟩,⟨⟨some 41,.iaddr none 2 (.t 39) (.t 40),none⟩, 0, 0⟩,⟨⟨some 42,.faddr (.t 41) 1,none⟩, 0, 0⟩,⟨⟨some 43,.load none (.t 42),none⟩, 0, 0⟩,⟨⟨some 44,.mov (.t 2),none⟩, 0, 0⟩,⟨⟨some 45,.iaddr none 1 (.t 43) (.t 44),none⟩, 0, 0⟩,⟨⟨some 46,.load none (.t 45),none⟩, 0, 0⟩,⟨⟨some 47,.mov (.t 12),none⟩, 0, 0⟩,⟨⟨some 48,.iaddr none 1 (.t 46) (.t 47),none⟩, 0, 0⟩,⟨⟨some 49,.load none (.t 48),none⟩, 0, 0⟩,⟨⟨some 50,.mov (.t 3),none⟩, 0, 0⟩,⟨⟨some 51,.call (.c (.func 43 [] [])) [.t 38,.t 49,.t 50],none⟩, 0, 1⟩,⟨⟨some 13,.mov (.t 51),none⟩, 1, 1⟩])
 (.seq (.reg [⟨some 52,.faddr (.t 4) 3,none⟩,⟨some 53,.faddr (.t 52) 0,none⟩,⟨some 54,.load none (.t 53),none⟩,⟨some 14,.mov (.t 54),none⟩])
 (.block 4 (.loop L81_4)))))
 (.reg [⟨some 32,.mov (.t 12),none⟩,⟨some 33,.bin .add (.t 32) (.c (.int .i64 1)),none⟩,⟨some 12,.mov (.t 33),none⟩]))
def L81_0 : ACode := .seq (.seq (.reg [⟨some 15,.mov (.t 11),none⟩,⟨some 16,.mov (.t 1),none⟩,⟨some 17,.len 1 (.t 16),none⟩,⟨some 18,.bin .lss (.t 15) (.t 17),none⟩])
 (.cond (.t 18) .skip
 (.jump (.exit 0))))
 (.seq (.block 1 (.seq (.reg [⟨some 12,.mov (.c (.int .i64 0)),none⟩])
 (.block 2 (.loop L81_2))))
 (.reg [⟨some 19,.mov (.t 11),none⟩,⟨some 20,.bin .add (.t 19) (.c (.int .i64 1)),none⟩,⟨some 11,.mov (.t 20),none⟩]))
def a81 : AFunc := ⟨81, [.tmp 8],
 .seq (.reg [⟨some 4,.box 7 (.t 0),none⟩,⟨some 8,.mov (.c (.int .i64 0)),none⟩])
 (.seq (.reg [⟨some 9,.mov (.c (.int .i64 0)),none⟩,⟨some 10,.mov (.c (.int .i64 0)),none⟩])
 (.seq (.seq (.reg [⟨some 11,.mov (.c (.int .i64 0)),none⟩])
 (.block 0 (.loop L81_0)))
 (.seq (.reg [⟨some 78,.mov (.t 9),none⟩,⟨some 79,.mov (.t 10),none⟩,⟨some 80,.call (.c (.func 99 [] [])) [.t 78,.t 79],none⟩,⟨some 8,.mov (.t 80),none⟩])
 (.jump .ret))))⟩
def a82 : AFunc := ⟨21, [.tmp 8],
 .seq (.reg [⟨some 4,.box 7 (.t 0),none⟩,⟨some 8,.mov (.c (.bool false)),none⟩])
 (.seq (.dreg [⟨⟨some 9,.mov (.t 1),none⟩, 0, 0⟩,⟨⟨some 10,.mov (.t 2),none⟩, 0, 0⟩,⟨⟨some 11,.mov (.t 3),none⟩, 0, 0⟩,⟨⟨some 12,.call (.c (.func 76 [] [])) [.t 9,.t 10,.t 11],none⟩, 0, 1⟩,⟨⟨some 13,.field (.t 12) 1 none,none⟩, 1, 1⟩,⟨⟨some 14,.faddr (.t 4) 3,none⟩, 0, 1⟩,⟨⟨some 15,.faddr (.t 14) 1,none⟩, 0, 1⟩,⟨⟨some 16,.load none (.t 15),none⟩, 0, 1⟩,⟨⟨some 17,.bin .add (.t 13) (.t 16),none⟩, 1, 1⟩,⟨⟨some 18,.faddr (.t 4) 2,none⟩, 0, 1⟩,⟨⟨some 19,.load none (.t 18),none⟩, 0, 1⟩,⟨⟨some 20,.bin .leq (.t 17) (.t 19),none⟩, 1, 1⟩,⟨⟨some 8,.mov (.t 20),none⟩, 1, 1⟩])
 (.jump .ret))⟩
def a83 : AFunc := ⟨14, [.cell 4 (some 2)],
 .seq (.reg [⟨some 2,.box 2 (.t 0),none⟩,⟨some 4,.alloc [.int .i64 0, .int .i64 0],none⟩])
 (.seq (.reg [⟨some 5,.faddr (.t 2) 0,none⟩,⟨some 6,.load none (.t 5),none⟩,⟨some 7,.mov (.t 1),none⟩,⟨some 8,.min [.t 6,.t 7],none⟩,⟨some 9,.faddr (.t 2) 1,none⟩,⟨some 10,.load none (.t 9),none⟩,⟨some 11,.mov (.t 1),none⟩,⟨some 12,.max [.t 10,.t 11],none⟩,⟨some 13,.build [.int .i64 0, .int .i64 0] [(0, 1, (.t 8)), (1, 1, (.t 12))],none⟩,⟨none,.store 2 (.t 4) (.t 13),none⟩])
 (.jump .ret))⟩
def L84_0 : ACode := .seq (.reg [⟨some 12,.bin .lss (.t 11) (.t 10),none⟩])
 (.seq (.cond (.t 12) .skip
 (.jump (.exit 0)))
 (.seq (.block 1 (.seq (.reg [⟨some 13,.mov (.t 11),none⟩,⟨some 14,.iaddr none 1 (.t 9) (.t 11),none⟩,⟨some 15,.load none (.t 14),none⟩,⟨some 5,.mov (.t 13),none⟩,⟨some 6,.mov (.t 15),none⟩])
 (.seq (.seq (.reg [⟨some 16,.mov (.t 5),none⟩,⟨some 17,.mov (.t 1),none⟩,⟨some 18,.len 1 (.t 17),none⟩,⟨some 19,.bin .geq (.t 16) (.t 18),none⟩])
 (.cond (.t 19) (.seq (.reg [⟨some 4,.mov (.c (.int .i64 1)),none⟩])
 (.jump .ret))
 .skip))
 (.seq (.reg [⟨some 20,.mov (.t 1),none⟩,⟨some 21,.mov (.t 5),none⟩,⟨some 22,.iaddr none 1 (.t 20) (.t 21),none⟩,⟨some 23,.load none (.t 22),none⟩,⟨some 7,.mov (.t 23),none⟩])
 (.seq (.reg [⟨some 24,.mov (.t 6),none⟩,⟨some 25,.mov (.t 7),none⟩,⟨some 26,.call (.c (.func 100 [] [])) [.t 24,.t 25],none⟩,⟨some 8,.mov (.t 26),none⟩])
 (.seq (.reg [⟨some 27,.mov (.t 8),none⟩,⟨some 28,.eql (.one .i) true (.t 27) (.c (.int .i64 0)),none⟩])
 (.cond (.t 28) (.seq (.reg [⟨some 29,.mov (.t 8),none⟩,⟨some 4,.mov (.t 29),none⟩])
 (.jump .ret))
 .skip)))))))
 (.reg [⟨some 30,.bin .add (.t 11) (.c (.int .i64 1)),none⟩,⟨some 11,.mov (.t 30),none⟩])))
def a84 : AFunc := ⟨36, [.tmp 4],
 .seq (.reg [⟨some 4,.mov (.c (.int .i64 0)),none⟩])
 (.seq (.seq (.reg [⟨some 9,.mov (.t 0),none⟩,⟨some 10,.len 1 (.t 9),none⟩,⟨some 11,.mov (.c (.int .i64 0)),none⟩])
 (.block 0 (.loop L84_0)))
 (.seq (.seq (.reg [⟨some 31,.mov (.t 0),none⟩,⟨some 32,.len 1 (.t 31),none⟩,⟨some 33,.mov (.t 1),none⟩,⟨some 34,.len 1 (.t 33),none⟩,⟨some 35,.bin .lss (.t 32) (.t 34),none⟩])
 (.cond (.t 35) (.seq (.reg [⟨some 4,.mov (.c (.int .i64 (-1))),none⟩])
 (.jump .ret))
 .skip))
 (.seq (.reg [⟨some 4,.mov (.c (.int .i64 0)),none⟩])
 (.jump .ret))))⟩
def L85_4 : ACode := .seq (.seq (.reg [⟨some 35,.mov (.t 10),none⟩,⟨some 36,.mov (.t 0),none⟩,⟨some 37,.bin .lss (.t 35) (.t 36),none⟩])
 (.cond (.t 37) .skip
 (.jump (.exit 4))))
 (.seq (.block 5 (.reg [⟨some 40,.mov (.t 7),none⟩,⟨some 41,.mklit 1 [],none⟩,⟨some 42,.mov (.t 5),none⟩,⟨some 43,.mov (.t 8),none⟩,⟨some 44,.iaddr none 1 (.t 42) (.t 43),none⟩,⟨some 45,.load none (.t 44),none⟩,⟨some 46,.append 1 8 (.t 41) (.t 45),none⟩,⟨some 47,.mov (.t 10),none⟩,⟨some 48,.mklit 1 [.t 47],none⟩,⟨some 49,.append 1 8 (.t 46) (.t 48),none⟩,⟨some 50,.mklit 1 [.t 49],none⟩,⟨some 51,.append 1 24 (.t 40) (.t 50),none⟩,⟨some 7,.mov (.t 51),none⟩]))
 (.reg [⟨some 38,.mov (.t 10),none⟩,⟨some 39,.bin .add (.t 38) (.c (.int .i64 1)),none⟩,⟨some 10,.mov (.t 39),none⟩]))
def L85_2 : ACode := .seq (.seq (.reg [⟨some 17,.mov (.t 8),none⟩,⟨some 18,.mov (.t 5),none⟩,⟨some 19,.len 1 (.t 18),none⟩,⟨some 20,.bin .lss (.t 17) (.t 19),none⟩])
 (.cond (.t 20) .skip
 (.jump (.exit 2))))
 (.seq (.block 3 (.seq (.reg [⟨some 9,.mov (.c (.int .i64 0)),none⟩])
 (.seq (.seq (.reg [⟨some 23,.mov (.t 6),none⟩,⟨some 24,.bin .gtr (.t 23) (.c (.int .i64 0)),none⟩])
 (.cond (.t 24) (.reg [⟨some 25,.mov (.t 5),none⟩,⟨some 26,.mov (.t 8),none⟩,⟨some 27,.iaddr none 1 (.t 25) (.t 26),none⟩,⟨some 28,.load none (.t 27),none⟩,⟨some 29,.mov (.t 6),none⟩,⟨some 30,.bin .sub (.t 29) (.c (.int .i64 1)),none⟩,⟨some 31,.iaddr none 1 (.t 28) (.t 30),none⟩,⟨some 32,.load none (.t 31),none⟩,⟨some 33,.bin .add (.t 32) (.c (.int .i64 1)),none⟩,⟨some 9,.mov (.t 33),none⟩])
 .skip))
 (.seq (.reg [⟨some 34,.mov (.t 9),none⟩,⟨some 10,.mov (.t 34),none⟩])
 (.block 4 (.loop L85_4))))))
 (.reg [⟨some 21,.mov (.t 8),none⟩,⟨some 22,.bin .add (.t 21) (.c (.int .i64 1)),none⟩,⟨some 8,.mov (.t 22),none⟩]))
def L85_0 : ACode := .seq (.seq (.reg [⟨some 12,.mov (.t 6),none⟩,⟨some 13,.mov (.t 1),none⟩,⟨some 14,.bin .lss (.t 12) (.t 13),none⟩])
 (.cond (.t 14) .skip
 (.jump (.exit 0))))
 (.seq (.block 1 (.seq (.reg [⟨some 7,.mov (.c (.lit [] true none)),none⟩])
 (.seq (.seq (.reg [⟨some 8,.mov (.c (.int .i64 0)),none⟩])
 (.block 2 (.loop L85_2)))
 (.reg [⟨some 52,.mov (.t 7),none⟩,⟨some 5,.mov (.t 52),none⟩]))))
 (.reg [⟨some 15,.mov (.t 6),none⟩,⟨some 16,.bin .add (.t 15) (.c (.int .i64 1)),none⟩,⟨some 6,.mov (.t 16),none⟩]))
def a85 : AFunc := ⟨54, [.tmp 4],
 .seq (.reg [⟨some 4,.mov (.c (.lit [] true none)),none⟩])
 (.seq (.reg [⟨some 11,.mklit 1 [(.c (.lit [] true none))],none⟩,⟨some 5,.mov (.t 11),none⟩])
 (.seq (.seq (.reg [⟨some 6,.mov (.c (.int .i64 0)),none⟩])
 (.block 0 (.loop L85_0)))
 (.seq (.reg [⟨some 53,.mov (.t 5),none⟩,⟨some 4,.mov (.t 53),none⟩])
 (.jump .ret))))⟩
def F86_0 : ACode := .block 1 (.seq (.reg [⟨some 18,.load none (.t 5),none⟩,⟨some 19,.load (some 7) (.t 6),none⟩,⟨some 20,.call (.c (.func 102 [] [])) [.t 18,.t 19],none⟩,⟨some 17,.mov (.t 20),none⟩,⟨some 21,.ext (.t 17) 0,none⟩,⟨some 22,.ext (.t 17) 1,none⟩,⟨some 7,.alloc [.int .i64 0, .int .i64 0, .int .i64 0, .int .i64 0],none⟩,⟨none,.store 4 (.t 7) (.t 21),none⟩,⟨some 8,.mov (.t 22),none⟩])
 (.seq (.reg [⟨some 23,.mov (.t 8),none⟩])
 (.cond (.t 23) (.dreg [⟨⟨some 24,.load none (.t 5),none⟩, 0, 0⟩,⟨⟨some 25,.nilCheck (.t 24),none⟩, 0, 0⟩,⟨⟨some 26,.faddr (.t 25) 8,none⟩, 0, 0⟩,⟨⟨some 27,.load none (.t 26),none⟩, 0, 0⟩,⟨⟨some 28,.load (some 7) (.t 6),none⟩, 0, 0⟩,⟨⟨some 29,.load (some 4) (.t 7),none⟩, 0, 0⟩,⟨⟨none,.mapset (.agg [.i, .i, .i, .i, .i, .i, .i]) (.t 27) (.t 28) (.t 29),none⟩, 0, 1⟩])
 .skip)))
def a86 : AFunc := ⟨31, [.tmp 4],
 .seq (.reg [⟨some 2,.box 7 (.t 0),none⟩,⟨some 4,.mov (.c (.nilPtr)),none⟩])
 (.seq (.reg [⟨some 9,.load (some 7) (.t 2),none⟩,⟨some 10,.mov (.t 1),none⟩,⟨some 11,.mkmap,none⟩,⟨some 12,.build [.lit [] true none, .int .i64 0, .int .i64 0, .int .i64 0, .int .i64 0, .lit [] true none, .lit [] true none, .int .i64 0, .nilMap] [(0, 7, (.t 9)), (7, 1, (.t 10)), (8, 1, (.t 11))],none⟩,⟨some 13,.box 9 (.t 12),none⟩,⟨some 5,.alloc [.nilPtr],none⟩,⟨none,.store 1 (.t 5) (.t 13),none⟩])
 (.seq (.seq (.reg [⟨some 14,.load none (.t 5),none⟩,⟨some 15,.call (.c (.func 101 [] [])) [.t 14],none⟩])
 (.block 0 (.rangeFunc (.t 15) [16] (.reg [⟨some 6,.alloc [.int .i64 0, .int .i64 0, .int .i64 0, .int .i64 0, .int .i64 0, .int .i64 0, .int .i64 0],none⟩,⟨none,.store 7 (.t 6) (.t 16),none⟩])
 (F86_0))))
 (.seq (.reg [⟨some 30,.load none (.t 5),none⟩,⟨some 4,.mov (.t 30),none⟩])
 (.jump .ret))))⟩
def L87_4 : ACode := .seq (.seq (.reg [⟨some 28,.mov (.t 7),none⟩,⟨some 29,.faddr (.t 1) 0,none⟩,⟨some 30,.load none (.t 29),none⟩,⟨some 31,.mov (.t 4),none⟩,⟨some 32,.iaddr none 2 (.t 30) (.t 31),none⟩,⟨some 33,.faddr (.t 32) 1,none⟩,⟨some 34,.load none (.t 33),none⟩,⟨some 35,.bin .leq (.t 28) (.t 34),none⟩])
 (.cond (.t 35) .skip
 (.jump (.exit 4))))
 (.seq (.block 5 (.reg [⟨some 38,.mov (.t 5),none⟩,⟨some 39,.mklit 1 [],none⟩,⟨some 40,.mov (.t 3),none⟩,⟨some 41,.mov (.t 6),none⟩,⟨some 42,.iaddr none 1 (.t 40) (.t 41),none⟩,⟨some 43,.load none (.t 42),none⟩,⟨some 44,.append 1 8 (.t 39) (.t 43),none⟩,⟨some 45,.mov (.t 7),none⟩,⟨some 46,.mklit 1 [.t 45],none⟩,⟨some 47,.append 1 8 (.t 44) (.t 46),none⟩,⟨some 48,.mklit 1 [.t 47],none⟩,⟨some 49,.append 1 24 (.t 38) (.t 48),none⟩,⟨some 5,.mov (.t 49),none⟩]))
 (.reg [⟨some 36,.mov (.t 7),none⟩,⟨some 37,.bin .add (.t 36) (.c (.int .i64 1)),none⟩,⟨some 7,.mov (.t 37),none⟩]))
def L87_2 : ACode := .seq (.seq (.reg [⟨some 16,.mov (.t 6),none⟩,⟨some 17,.mov (.t 3),none⟩,⟨some 18,.len 1 (.t 17),none⟩,⟨some 19,.bin .lss (.t 16) (.t 18),none⟩])
 (.cond (.t 19) .skip
 (.jump (.exit 2))))
 (.seq (.block 3 (.seq (.reg [⟨some 22,.faddr (.t 1) 0,none⟩,⟨some 23,.load none (.t 22),none⟩,⟨some 24,.mov (.t 4),none⟩,⟨some 25,.iaddr none 2 (.t 23) (.t 24),none⟩,⟨some 26,.faddr (.t 25) 0,none⟩,⟨some 27,.load none (.t 26),none⟩,⟨some 7,.mov (.t 27),none⟩])
 (.block 4 (.loop L87_4))))
 (.reg [⟨some 20,.mov (.t 6),none⟩,⟨some 21,.bin .add (.t 20) (.c (.int .i64 1)),none⟩,⟨some 6,.mov (.t 21),none⟩]))
def L87_0 : ACode := .seq (.seq (.reg [⟨some 9,.mov (.t 4),none⟩,⟨some 10,.faddr (.t 1) 0,none⟩,⟨some 11,.load none (.t 10),none⟩,⟨some 12,.len 1 (.t 11),none⟩,⟨some 13,.bin .lss (.t 9) (.t 12),none⟩])
 (.cond (.t 13) .skip
 (.jump (.exit 0))))
 (.seq (.block 1 (.seq (.reg [⟨some 5,.mov (.c (.lit [] true none)),none⟩])
 (.seq (.seq (.reg [⟨some 6,.mov (.c (.int .i64 0)),none⟩])
 (.block 2 (.loop L87_2)))
 (.reg [⟨some 50,.mov (.t 5),none⟩,⟨some 3,.mov (.t 50),none⟩]))))
 (.reg [⟨some 14,.mov (.t 4),none⟩,⟨some 15,.bin .add (.t 14) (.c (.int .i64 1)),none⟩,⟨some 4,.mov (.t 15),none⟩]))
def a87 : AFunc := ⟨52, [.tmp 2],
 .seq (.reg [⟨some 1,.box 7 (.t 0),none⟩,⟨some 2,.mov (.c (.lit [] true none)),none⟩])
 (.seq (.reg [⟨some 8,.mklit 1 [(.c (.lit [] true none))],none⟩,⟨some 3,.mov (.t 8),none⟩])
 (.seq (.seq (.reg [⟨some 4,.mov (.c (.int .i64 0)),none⟩])
 (.block 0 (.loop L87_0)))
 (.seq (.reg [⟨some 51,.mov (.t 3),none⟩,⟨some 2,.mov (.t 51),none⟩])
 (.jump .ret))))⟩
def L88_2 : ACode := .seq (.seq (.reg [⟨some 32,.mov (.t 12),none⟩,⟨some 33,.faddr (.t 4) 6,none⟩,⟨some 34,.load none (.t 33),none⟩,⟨some 35,.len 1 (.t 34),none⟩,⟨some 36,.bin .lss (.t 32) (.t 35),none⟩])
 (.cond (.t 36) .skip
 (.jump (.exit 2))))
 (.seq (.block 3 (.seq (.reg [⟨some 39,.faddr (.t 4) 6,none⟩,⟨some 40,.load none (.t 39),none⟩,⟨some 41,.mov (.t 12),none⟩,⟨some 42,.iaddr none 3 (.t 40) (.t 41),none⟩,⟨some 43,.load (some 3) (.t 42),none⟩,⟨some 13,.alloc [.int .i64 0, .int .i64 0, .int .i64 0],none⟩,⟨none,.store 3 (.t 13) (.t 43),none⟩])
 (.seq (.reg [⟨some 44,.faddr (.t 13) 0,none⟩,⟨some 45,.load none (.t 44),none⟩,⟨some 46,.mov (.t 1),none⟩,⟨some 47,.eql (.one .i) false (.t 45) (.t 46),none⟩,⟨some 48,.mov (.t 47),none⟩,⟨some 49,.mov (.t 3),(some (48, true))⟩,⟨some 50,.mov (.t 12),(some (48, true))⟩,⟨some 51,.call (.c (.func 44 [] [])) [.t 49,.t 50],(some (48, true))⟩,⟨some 52,.not (.t 51),(some (48, true))⟩,⟨some 53,.pick (.t 48) (.t 52) (.c (.bool false)),none⟩])
 (.cond (.t 53) (.dreg [⟨⟨some 54,.mov (.t 11),none⟩, 0, 0⟩,⟨⟨some 55,.mov (.t 54),none⟩, 0, 0⟩,⟨⟨some 56,.mov (.t 2),(some (55, true))⟩, 0, 0⟩,⟨⟨some 57,.mov (.t 10),(some (55, true))⟩, 0, 0⟩,⟨⟨some 58,.faddr (.t 13) 1,(some (55, true))⟩, 0, 0⟩,⟨⟨some 59,.load none (.t 58),(some (55, true))⟩, 0, 0⟩,⟨⟨some 60,.call (.c (.func 43 [] [])) [.t 56,.t 57,.t 59],(some (55, true))⟩, 0, 1⟩,⟨⟨some 61,.faddr (.t 13) 2,(some (55, true))⟩, 0, 1⟩,⟨⟨some 62,.load none (.t 61),(some (55, true))⟩, 0, 1⟩,⟨⟨some 63,.eql (.one .i) false (.t 60) (.t 62),(some (55, true))⟩, 1, 1⟩,⟨⟨some 64,.pick (.t 55) (.t 63) (.c (.bool false)),none⟩, 1, 1⟩,⟨⟨some 11,.mov (.t 64),none⟩, 1, 1⟩])
 .skip))))
 (.reg [⟨some 37,.mov (.t 12),none⟩,⟨some 38,.bin .add (.t 37) (.c (.int .i64 1)),none⟩,⟨some 12,.mov (.t 38),none⟩]))
def L88_0 : ACode := .seq (.seq (.reg [⟨some 21,.mov (.t 10),none⟩,⟨some 22,.faddr (.t 4) 5,none⟩,⟨some 23,.load none (.t 22),none⟩,⟨some 24,.mov (.t 1),none⟩,⟨some 25,.iaddr none 4 (.t 23) (.t 24),none⟩,⟨some 26,.faddr (.t 25) 1,none⟩,⟨some 27,.faddr (.t 26) 1,none⟩,⟨some 28,.load none (.t 27),none⟩,⟨some 29,.bin .leq (.t 21) (.t 28),none⟩])
 (.cond (.t 29) .skip
 (.jump (.exit 0))))
 (.seq (.block 1 (.seq (.reg [⟨some 11,.mov (.c (.bool true)),none⟩])
 (.seq (.seq (.reg [⟨some 12,.mov (.c (.int .i64 0)),none⟩])
 (.block 2 (.loop L88_2)))
 (.seq (.reg [⟨some 65,.mov (.t 11),none⟩])
 (.cond (.t 65) (.reg [⟨some 66,.mov (.t 9),none⟩,⟨some 67,.mov (.t 10),none⟩,⟨some 68,.mklit 1 [.t 67],none⟩,⟨some 69,.append 1 8 (.t 66) (.t 68),none⟩,⟨some 9,.mov (.t 69),none⟩])
 .skip)))))
 (.reg [⟨some 30,.mov (.t 10),none⟩,⟨some 31,.bin .add (.t 30) (.c (.int .i64 1)),none⟩,⟨some 10,.mov (.t 31),none⟩]))
def a88 : AFunc := ⟨71, [.tmp 8],
 .seq (.reg [⟨some 4,.box 7 (.t 0),none⟩,⟨some 8,.mov (.c (.lit [] true none)),none⟩])
 (.seq (.reg [⟨some 9,.mov (.c (.lit [] true none)),none⟩])
 (.seq (.seq (.reg [⟨some 14,.faddr (.t 4) 5,none⟩,⟨some 15,.load none (.t 14),none⟩,⟨some 16,.mov (.t 1),none⟩,⟨some 17,.iaddr none 4 (.t 15) (.t 16),none⟩,⟨some 18,.faddr (.t 17) 1,none⟩,⟨some 19,.faddr (.t 18) 0,none⟩,⟨some 20,.load none (.t 19),none⟩,⟨some 10,.mov (.t 20),none⟩])
 (.block 0 (.loop L88_0)))
 (.seq (.reg [⟨some 70,.mov (.t 9),none⟩,⟨some 8,.mov (.t 70),none⟩])
 (.jump .ret))))⟩
def a89 : AFunc := ⟨17, [.tmp 8],
 .seq (.reg [⟨some 4,.box 7 (.t 0),none⟩,⟨some 8,.mov (.c (.bool false)),none⟩])
 (.seq (.dreg [⟨⟨some 9,.mov (.t 1),none⟩, 0, 0⟩,⟨⟨some 10,.mov (.t 2),none⟩, 0, 0⟩,⟨⟨some 11,.mov (.t 3),none⟩, 0, 0⟩,⟨⟨some 12,.call (.c (.func 76 [] [])) [.t 9,.t 10,.t 11],none⟩, 0, 1⟩,⟨⟨some 13,.field (.t 12) 0 none,none⟩, 1, 1⟩,⟨⟨some 14,.faddr (.t 4) 1,none⟩, 0, 1⟩,⟨⟨some 15,.load none (.t 14),none⟩, 0, 1⟩,⟨⟨some 16,.bin .geq (.t 13) (.t 15),none⟩, 1, 1⟩,⟨⟨some 8,.mov (.t 16),none⟩, 1, 1⟩])
 (.jump .ret))⟩
def a90 : AFunc := ⟨9, [.tmp 4],
 .seq (.reg [⟨some 4,.mov (.c (.bool false)),none⟩])
 (.seq (.reg [⟨some 5,.mov (.t 0),none⟩,⟨some 6,.mov (.t 1),none⟩,⟨some 7,.call (.c (.func 103 [] [])) [.t 5,.t 6],none⟩,⟨some 8,.bin .geq (.t 7) (.c (.int .i64 0)),none⟩,⟨some 4,.mov (.t 8),none⟩])
 (.jump .ret))⟩
def a91 : AFunc := ⟨13, [.tmp 4],
 .seq (.reg [⟨some 4,.mov (.c (.bool false)),none⟩])
 (.seq (.reg [⟨some 5,.mov (.t 0),none⟩,⟨some 6,.load none (.t 1),none⟩,⟨some 7,.bin .lss (.t 5) (.t 6),none⟩,⟨some 8,.mov (.t 7),none⟩,⟨some 9,.mov (.t 0),(some (8, false))⟩,⟨some 10,.load none (.t 2),(some (8, false))⟩,⟨some 11,.bin .gtr (.t 9) (.t 10),(some (8, false))⟩,⟨some 12,.pick (.t 8) (.c (.bool true)) (.t 11),none⟩,⟨some 4,.mov (.t 12),none⟩])
 (.jump .ret))⟩
def a92 : AFunc := ⟨10, [.tmp 6],
 .seq (.reg [⟨some 3,.box 1 (.t 0),none⟩,⟨some 4,.box 1 (.t 1),none⟩,⟨some 6,.mov (.c (.bool false)),none⟩])
 (.seq (.reg [⟨some 7,.mov (.t 2),none⟩,⟨some 8,.mkfun 104 [] [.t 3,.t 4],none⟩,⟨some 9,.call (.c (.func 90 [] [])) [.t 7,.t 8],none⟩,⟨some 6,.mov (.t 9),none⟩])
 (.jump .ret))⟩
def L93_0 : ACode := .seq (.reg [⟨some 9,.bin .lss (.t 8) (.t 7),none⟩])
 (.seq (.cond (.t 9) .skip
 (.jump (.exit 0)))
 (.seq (.block 1 (.seq (.reg [⟨some 10,.mov (.t 8),none⟩,⟨some 5,.mov (.t 10),none⟩])
 (.seq (.reg [⟨some 11,.mov (.t 1),none⟩,⟨some 12,.mov (.t 0),none⟩,⟨some 13,.mov (.t 5),none⟩,⟨some 14,.iaddr none 4 (.t 12) (.t 13),none⟩,⟨some 15,.load (some 4) (.t 14),none⟩,⟨some 16,.call (.t 11) [.t 15],none⟩])
 (.cond (.t 16) (.seq (.reg [⟨some 17,.mov (.t 5),none⟩,⟨some 4,.mov (.t 17),none⟩])
 (.jump .ret))
 .skip))))
 (.reg [⟨some 18,.bin .add (.t 8) (.c (.int .i64 1)),none⟩,⟨some 8,.mov (.t 18),none⟩])))
def a93 : AFunc := ⟨19, [.tmp 4],
 .seq (.reg [⟨some 4,.mov (.c (.int .i64 0)),none⟩])
 (.seq (.seq (.reg [⟨some 6,.mov (.t 0),none⟩,⟨some 7,.len 1 (.t 6),none⟩,⟨some 8,.mov (.c (.int .i64 0)),none⟩])
 (.block 0 (.loop L93_0)))
 (.seq (.reg [⟨some 4,.mov (.c (.int .i64 (-1))),none⟩])
 (.jump .ret)))⟩
def L94_0 : ACode := .seq (.seq (.reg [⟨some 6,.mov (.t 5),none⟩,⟨some 7,.mov (.t 0),none⟩,⟨some 8,.len 1 (.t 7),none⟩,⟨some 9,.bin .lss (.t 6) (.t 8),none⟩,⟨some 10,.mov (.t 9),none⟩,⟨some 11,.mov (.t 0),(some (10, true))⟩,⟨some 12,.mov (.t 5),(some (10, true))⟩,⟨some 13,.iaddr none 1 (.t 11) (.t 12),(some (10, true))⟩,⟨some 14,.load none (.t 13),(some (10, true))⟩,⟨some 15,.mov (.t 1),(some (10, true))⟩,⟨some 16,.eql (.one .s) true (.t 14) (.t 15),(some (10, true))⟩,⟨some 17,.pick (.t 10) (.t 16) (.c (.bool false)),none⟩])
 (.cond (.t 17) .skip
 (.jump (.exit 0))))
 (.block 1 (.reg [⟨some 18,.mov (.t 5),none⟩,⟨some 19,.bin .add (.t 18) (.c (.int .i64 1)),none⟩,⟨some 5,.mov (.t 19),none⟩]))
def a94 : AFunc := ⟨25, [.tmp 4],
 .seq (.reg [⟨some 4,.mov (.c (.int .i64 0)),none⟩])
 (.seq (.reg [⟨some 5,.mov (.c (.int .i64 0)),none⟩])
 (.seq (.block 0 (.loop L94_0))
 (.seq (.seq (.reg [⟨some 20,.mov (.t 5),none⟩,⟨some 21,.mov (.t 0),none⟩,⟨some 22,.len 1 (.t 21),none⟩,⟨some 23,.eql (.one .i) false (.t 20) (.t 22),none⟩])
 (.cond (.t 23) (.seq (.reg [⟨some 4,.mov (.c (.int .i64 (-1))),none⟩])
 (.jump .ret))
 .skip))
 (.seq (.reg [⟨some 24,.mov (.t 5),none⟩,⟨some 4,.mov (.t 24),none⟩])
 (.jump .ret)))))⟩
def L95_0 : ACode := .seq (.seq (.reg [⟨some 9,.mov (.t 4),none⟩,⟨some 10,.mov (.t 0),none⟩,⟨some 11,.len 0 (.t 10),none⟩,⟨some 12,.bin .lss (.t 9) (.t 11),none⟩])
 (.cond (.t 12) .skip
 (.jump (.exit 0))))
 (.seq (.block 1 (.seq (.reg [⟨some 15,.mov (.t 4),none⟩,⟨some 16,.bin .gtr (.t 15) (.c (.int .i64 0)),none⟩,⟨some 17,.mov (.t 16),none⟩,⟨some 18,.mov (.t 0),(some (17, true))⟩,⟨some 19,.mov (.t 4),(some (17, true))⟩,⟨some 20,.sindex (.t 18) (.t 19),(some (17, true))⟩,⟨some 21,.eql (.one .i) false (.t 20) (.c (.int .u8 46)),(some (17, true))⟩,⟨some 22,.mov (.t 21),(some (17, true))⟩,⟨some 23,.mov (.t 0),(some (22, false))⟩,⟨some 24,.mov (.t 4),(some (22, false))⟩,⟨some 25,.sindex (.t 23) (.t 24),(some (22, false))⟩,⟨some 26,.conv .i64 (.t 25),(some (22, false))⟩,⟨some 27,.call (.c (.func 66 [] [])) [(.t 26), (.c (.int .i64 48)), (.c (.int .i64 57))],(some (22, false))⟩,⟨some 28,.pick (.t 22) (.c (.bool true)) (.t 27),(some (17, true))⟩,⟨some 29,.pick (.t 17) (.t 28) (.c (.bool false)),none⟩,⟨some 5,.mov (.t 29),none⟩])
 (.reg [⟨some 30,.mov (.t 3),none⟩,⟨some 31,.mov (.t 30),none⟩,⟨some 32,.mov (.t 0),(some (31, true))⟩,⟨some 33,.mov (.t 4),(some (31, true))⟩,⟨some 34,.sindex (.t 32) (.t 33),(some (31, true))⟩,⟨some 35,.conv .i64 (.t 34),(some (31, true))⟩,⟨some 36,.call (.c (.func 66 [] [])) [(.t 35), (.c (.int .i64 97)), (.c (.int .i64 122))],(some (31, true))⟩,⟨some 37,.mov (.t 36),(some (31, true))⟩,⟨some 38,.mov (.t 5),(some (37, false))⟩,⟨some 39,.pick (.t 37) (.c (.bool true)) (.t 38),(some (31, true))⟩,⟨some 40,.pick (.t 31) (.t 39) (.c (.bool false)),none⟩,⟨some 3,.mov (.t 40),none⟩])))
 (.reg [⟨some 13,.mov (.t 4),none⟩,⟨some 14,.bin .add (.t 13) (.c (.int .i64 1)),none⟩,⟨some 4,.mov (.t 14),none⟩]))
def a95 : AFunc := ⟨42, [.tmp 2],
 .seq (.reg [⟨some 2,.mov (.c (.bool false)),none⟩])
 (.seq (.reg [⟨some 6,.mov (.t 0),none⟩,⟨some 7,.len 0 (.t 6),none⟩,⟨some 8,.call (.c (.func 66 [] [])) [(.t 7), (.c (.int .i64 1)), (.c (.int .i64 16))],none⟩,⟨some 3,.mov (.t 8),none⟩])
 (.seq (.seq (.reg [⟨some 4,.mov (.c (.int .i64 0)),none⟩])
 (.block 0 (.loop L95_0)))
 (.seq (.reg [⟨some 41,.mov (.t 3),none⟩,⟨some 2,.mov (.t 41),none⟩])
 (.jump .ret))))⟩
def L96_0 : ACode := .seq (.seq (.reg [⟨some 3,.mov (.t 2),none⟩,⟨some 4,.bin .add (.t 3) (.c (.int .i64 1)),none⟩,⟨some 5,.load none (.t 0),none⟩,⟨some 6,.len 1 (.t 5),none⟩,⟨some 7,.bin .lss (.t 4) (.t 6),none⟩])
 (.cond (.t 7) .skip
 (.jump (.exit 0))))
 (.seq (.block 1 (.seq (.dreg [⟨⟨some 10,.load none (.t 0),none⟩, 0, 0⟩,⟨⟨some 11,.mov (.t 2),none⟩, 0, 0⟩,⟨⟨some 12,.bin .add (.t 11) (.c (.int .i64 1)),none⟩, 0, 0⟩,⟨⟨some 13,.iaddr none 1 (.t 10) (.t 12),none⟩, 0, 0⟩,⟨⟨some 14,.load none (.t 13),none⟩, 0, 0⟩,⟨⟨some 15,.load none (.t 0),none⟩, 0, 0⟩,⟨⟨some 16,.mov (.t 2),none⟩, 0, 0⟩,⟨⟨some 17,.iaddr none 1 (.t 15) (.t 16),none⟩, 0, 0⟩,⟨⟨some 18,.load none (.t 17),none⟩, 0, 0⟩,⟨⟨some 19,.mklit 1 [.t 18],none⟩, 0, 0⟩,⟨⟨some 20,.call (.c (.func 55 [] [])) [(.c (.int .i64 0)), (.t 14), (.t 19)],none⟩, 0, 1⟩])
 (.cond (.t 20) (.seq (.reg [⟨some 1,.mov (.c (.int .i64 7)),none⟩])
 (.jump .ret))
 .skip)))
 (.reg [⟨some 8,.mov (.t 2),none⟩,⟨some 9,.bin .add (.t 8) (.c (.int .i64 2)),none⟩,⟨some 2,.mov (.t 9),none⟩]))
def a96 : AFunc := ⟨21, [.tmp 1],
 .seq (.reg [⟨some 1,.mov (.c (.int .i64 0)),none⟩])
 (.seq (.seq (.reg [⟨some 2,.mov (.c (.int .i64 0)),none⟩])
 (.block 0 (.loop L96_0)))
 (.seq (.reg [⟨some 1,.mov (.c (.int .i64 0)),none⟩])
 (.jump .ret)))⟩
def L97_0 : ACode := .seq (.reg [⟨some 18,.bin .lss (.t 17) (.t 16),none⟩])
 (.seq (.cond (.t 18) .skip
 (.jump (.exit 0)))
 (.seq (.block 1 (.seq (.reg [⟨some 19,.iaddr none 1 (.t 15) (.t 17),none⟩,⟨some 20,.load none (.t 19),none⟩,⟨some 10,.mov (.t 20),none⟩])
 (.reg [⟨some 21,.mov (.t 8),none⟩,⟨some 22,.mov (.t 10),none⟩,⟨some 23,.bin .add (.c (.int .i64 1)) (.t 22),none⟩,⟨some 24,.bin .add (.t 21) (.t 23),none⟩,⟨some 8,.mov (.t 24),none⟩])))
 (.reg [⟨some 25,.bin .add (.t 17) (.c (.int .i64 1)),none⟩,⟨some 17,.mov (.t 25),none⟩])))
def a97 : AFunc := ⟨27, [.tmp 8],
 .seq (.reg [⟨some 5,.box 7 (.t 1),none⟩,⟨some 8,.mov (.c (.int .i64 0)),none⟩])
 (.seq (.seq (.reg [⟨some 11,.mov (.t 2),none⟩,⟨some 12,.mov (.t 3),none⟩,⟨some 13,.min [.t 11,.t 12],none⟩,⟨some 14,.mov (.t 3),none⟩,⟨some 15,.slicea 7 1 (.t 5) (some (.t 13)) (some (.t 14)),none⟩,⟨some 16,.len 1 (.t 15),none⟩,⟨some 17,.mov (.c (.int .i64 0)),none⟩])
 (.block 0 (.loop L97_0)))
 (.seq (.reg [⟨some 26,.mov (.t 8),none⟩,⟨some 8,.mov (.t 26),none⟩])
 (.jump .ret)))⟩
def a98 : AFunc := ⟨4, [.tmp 0],
 .seq (.reg [⟨some 0,.mov (.c (.lit [] true none)),none⟩])
 (.seq (.reg [⟨some 1,.build [.nilFunc] [(0, 1, (.c (.func 105 [] [])))],none⟩,⟨some 2,.build [.nilFunc] [(0, 1, (.c (.func 107 [] [])))],none⟩,⟨some 3,.mklit 1 [.t 1,.t 2],none⟩,⟨some 0,.mov (.t 3),none⟩])
 (.jump .ret))⟩
def a99 : AFunc := ⟨11, [.tmp 4],
 .seq (.reg [⟨some 4,.mov (.c (.int .i64 0)),none⟩])
 (.seq (.seq (.reg [⟨some 5,.mov (.t 0),none⟩])
 (.block 0 (.seq (.reg [⟨some 7,.mov (.t 1),none⟩,⟨some 8,.eql (.one .i) false (.t 5) (.t 7),none⟩,⟨some 6,.mov (.t 8),none⟩])
 (.cond (.t 6) (.seq (.reg [⟨some 4,.mov (.c (.int .i64 1)),none⟩])
 (.jump .ret))
 (.seq (.reg [⟨some 10,.eql (.one .i) false (.t 5) (.c (.int .i64 0)),none⟩,⟨some 9,.mov (.t 10),none⟩])
 (.cond (.t 9) (.seq (.reg [⟨some 4,.mov (.c (.int .i64 2)),none⟩])
 (.jump .ret))
 .skip))))))
 (.seq (.reg [⟨some 4,.mov (.c (.int .i64 0)),none⟩])
 (.jump .ret)))⟩
def a100 : AFunc := ⟨20, [.tmp 4],
 .seq (.reg [⟨some 4,.mov (.c (.int .i64 0)),none⟩])
 (.seq (.reg [⟨some 7,.mov (.t 0),none⟩,⟨some 8,.call (.c (.func 108 [] [])) [.t 7],none⟩,⟨some 5,.mov (.t 8),none⟩])
 (.seq (.reg [⟨some 9,.mov (.t 1),none⟩,⟨some 10,.call (.c (.func 108 [] [])) [.t 9],none⟩,⟨some 6,.mov (.t 10),none⟩])
 (.seq (.seq (.reg [⟨some 11,.mov (.t 5),none⟩])
 (.cond (.t 11) (.seq (.seq (.reg [⟨some 12,.mov (.t 6),none⟩])
 (.cond (.t 12) (.seq (.reg [⟨some 4,.mov (.c (.int .i64 0)),none⟩])
 (.jump .ret))
 .skip))
 (.seq (.reg [⟨some 4,.mov (.c (.int .i64 (-1))),none⟩])
 (.jump .ret)))
 .skip))
 (.seq (.seq (.reg [⟨some 13,.mov (.t 6),none⟩])
 (.cond (.t 13) (.seq (.reg [⟨some 4,.mov (.c (.int .i64 1)),none⟩])
 (.jump .ret))
 .skip))
 (.seq (.seq (.reg [⟨some 14,.mov (.t 0),none⟩,⟨some 15,.mov (.t 1),none⟩,⟨some 16,.bin .lss (.t 14) (.t 15),none⟩])
 (.cond (.t 16) (.seq (.reg [⟨some 4,.mov (.c (.int .i64 (-1))),none⟩])
 (.jump .ret))
 .skip))
 (.seq (.seq (.reg [⟨some 17,.mov (.t 0),none⟩,⟨some 18,.mov (.t 1),none⟩,⟨some 19,.bin .gtr (.t 17) (.t 18),none⟩])
 (.cond (.t 19) (.seq (.reg [⟨some 4,.mov (.c (.int .i64 1)),none⟩])
 (.jump .ret))
 .skip))
 (.seq (.reg [⟨some 4,.mov (.c (.int .i64 0)),none⟩])
 (.jump .ret))))))))⟩
def a101 : AFunc := ⟨4, [.tmp 2],
 .seq (.reg [⟨some 1,.box 1 (.t 0),none⟩,⟨some 2,.mov (.c (.nilFunc)),none⟩])
 (.seq (.reg [⟨some 3,.mkfun 109 [] [.t 1],none⟩,⟨some 2,.mov (.t 3),none⟩])
 (.jump .ret))⟩
def L102_4 : ACode := .seq (.reg [⟨some 43,.bin .lss (.t 42) (.t 41),none⟩])
 (.seq (.cond (.t 43) .skip
 (.jump (.exit 4)))
 (.seq (.block 5 (.seq (.reg [⟨some 44,.mov (.t 42),none⟩,⟨some 45,.iaddr none 3 (.t 40) (.t 42),none⟩,⟨some 46,.load (some 3) (.t 45),none⟩,⟨some 11,.alloc [.int .i64 0, .int .i64 0, .int .i64 0],none⟩,⟨some 10,.mov (.t 44),none⟩,⟨none,.store 3 (.t 11) (.t 46),none⟩])
 (.seq (.dreg [⟨⟨some 47,.mov (.t 7),none⟩, 0, 1⟩,⟨⟨some 48,.faddr (.t 11) 1,none⟩, 0, 1⟩,⟨⟨some 49,.load none (.t 48),none⟩, 0, 1⟩,⟨⟨some 50,.mov (.t 6),none⟩, 0, 0⟩,⟨⟨some 51,.load (some 7) (.t 3),none⟩, 0, 0⟩,⟨⟨some 52,.mov (.t 9),none⟩, 0, 0⟩,⟨⟨some 53,.faddr (.t 11) 1,none⟩, 0, 0⟩,⟨⟨some 54,.load none (.t 53),none⟩, 0, 0⟩,⟨⟨some 55,.call (.t 50) [.t 51,.t 52,.t 54],none⟩, 0, 1⟩,⟨⟨some 56,.build [.int .i64 0, .int .i64 0, .int .i64 0] [(0, 1, (.t 47)), (1, 1, (.t 49)), (2, 1, (.t 55))],none⟩, 1, 1⟩,⟨⟨some 12,.alloc [.int .i64 0, .int .i64 0, .int .i64 0],none⟩, 0, 1⟩,⟨⟨none,.store 3 (.t 12) (.t 56),none⟩, 1, 2⟩])
 (.seq (.reg [⟨some 57,.faddr (.t 11) 0,none⟩,⟨some 58,.load none (.t 57),none⟩,⟨some 59,.mov (.t 7),none⟩,⟨some 60,.eql (.one .i) false (.t 58) (.t 59),none⟩,⟨some 61,.mov (.t 60),none⟩,⟨some 62,.mov (.t 0),(some (61, true))⟩,⟨some 63,.nilCheck (.t 62),(some (61, true))⟩,⟨some 64,.faddr (.t 63) 7,(some (61, true))⟩,⟨some 65,.load none (.t 64),(some (61, true))⟩,⟨some 66,.mov (.t 10),(some (61, true))⟩,⟨some 67,.bin .shr (.t 65) (.t 66),(some (61, true))⟩,⟨some 68,.bin .and (.t 67) (.c (.int .i64 1)),(some (61, true))⟩,⟨some 69,.eql (.one .i) false (.t 68) (.c (.int .i64 0)),(some (61, true))⟩,⟨some 70,.pick (.t 61) (.t 69) (.c (.bool false)),none⟩,⟨some 71,.mov (.t 70),none⟩,⟨some 72,.load (some 3) (.t 11),(some (71, true))⟩,⟨some 73,.load (some 3) (.t 12),(some (71, true))⟩,⟨some 74,.eql (.agg [.i, .i, .i]) true (.t 72) (.t 73),(some (71, true))⟩,⟨some 75,.pick (.t 71) (.t 74) (.c (.bool false)),none⟩])
 (.cond (.t 75) (.jump (.exit 3))
 .skip)))))
 (.reg [⟨some 76,.bin .add (.t 42) (.c (.int .i64 1)),none⟩,⟨some 42,.mov (.t 76),none⟩])))
def L102_2 : ACode := .seq (.seq (.reg [⟨some 29,.mov (.t 9),none⟩,⟨some 30,.faddr (.t 8) 1,none⟩,⟨some 31,.faddr (.t 30) 1,none⟩,⟨some 32,.load none (.t 31),none⟩,⟨some 33,.bin .leq (.t 29) (.t 32),none⟩])
 (.cond (.t 33) .skip
 (.jump (.exit 2))))
 (.seq (.block 3 (.seq (.seq (.reg [⟨some 36,.mov (.t 0),none⟩,⟨some 37,.nilCheck (.t 36),none⟩,⟨some 38,.faddr (.t 37) 0,none⟩,⟨some 39,.faddr (.t 38) 6,none⟩,⟨some 40,.load none (.t 39),none⟩,⟨some 41,.len 1 (.t 40),none⟩,⟨some 42,.mov (.c (.int .i64 0)),none⟩])
 (.block 4 (.loop L102_4)))
 (.dreg [⟨⟨some 77,.mov (.t 7),none⟩, 0, 0⟩,⟨⟨some 78,.iaddr (some 4) 1 (.t 4) (.t 77),none⟩, 0, 0⟩,⟨⟨some 79,.load none (.t 78),none⟩, 0, 0⟩,⟨⟨some 80,.mov (.t 9),none⟩, 0, 0⟩,⟨⟨some 81,.bin .shl (.c (.int .i64 1)) (.t 80),none⟩, 0, 0⟩,⟨⟨some 82,.bin .or (.t 79) (.t 81),none⟩, 0, 0⟩,⟨⟨some 83,.iaddr (some 4) 1 (.t 4) (.t 77),none⟩, 0, 0⟩,⟨⟨none,.store 1 (.t 83) (.t 82),none⟩, 0, 1⟩])))
 (.reg [⟨some 34,.mov (.t 9),none⟩,⟨some 35,.bin .add (.t 34) (.c (.int .i64 1)),none⟩,⟨some 9,.mov (.t 35),none⟩]))
def L102_0 : ACode := .seq (.reg [⟨some 22,.bin .lss (.t 21) (.t 20),none⟩])
 (.seq (.cond (.t 22) .skip
 (.jump (.exit 0)))
 (.seq (.block 1 (.seq (.reg [⟨some 23,.mov (.t 21),none⟩,⟨some 24,.iaddr none 4 (.t 19) (.t 21),none⟩,⟨some 25,.load (some 4) (.t 24),none⟩,⟨some 8,.alloc [.str ⟨#[]⟩, .int .i64 0, .int .i64 0, .int .i64 0],none⟩,⟨some 7,.mov (.t 23),none⟩,⟨none,.store 4 (.t 8) (.t 25),none⟩])
 (.scope (.seq .skip
 (.seq (.seq (.reg [⟨some 26,.faddr (.t 8) 1,none⟩,⟨some 27,.faddr (.t 26) 0,none⟩,⟨some 28,.load none (.t 27),none⟩,⟨some 9,.mov (.t 28),none⟩])
 (.block 2 (.loop L102_2)))
 (.seq (.reg [⟨some 84,.mov (.t 7),none⟩,⟨some 85,.iaddr (some 4) 1 (.t 4) (.t 84),none⟩,⟨some 86,.load none (.t 85),none⟩,⟨some 87,.eql (.one .i) false (.t 86) (.c (.int .i64 0)),none⟩])
 (.cond (.t 87) (.seq (.reg [⟨some 88,.load (some 4) (.t 4),none⟩,⟨none,.store 4 (.t 4) (.t 88),none⟩,⟨some 5,.mov (.c (.bool false)),none⟩])
 (.jump .ret))
 .skip)))))))
 (.reg [⟨some 89,.bin .add (.t 21) (.c (.int .i64 1)),none⟩,⟨some 21,.mov (.t 89),none⟩])))
def a102 : AFunc := ⟨91, [.cell 4 (some 4), .tmp 5],
 .seq (.reg [⟨some 3,.box 7 (.t 1),none⟩,⟨some 4,.alloc [.int .i64 0, .int .i64 0, .int .i64 0, .int .i64 0],none⟩,⟨some 5,.mov (.c (.bool false)),none⟩])
 (.seq (.reg [⟨some 13,.mov (.t 0),none⟩,⟨some 14,.mkfun 97 [.t 13] [],none⟩,⟨some 6,.mov (.t 14),none⟩])
 (.seq (.seq (.reg [⟨some 15,.mov (.t 0),none⟩,⟨some 16,.nilCheck (.t 15),none⟩,⟨some 17,.faddr (.t 16) 0,none⟩,⟨some 18,.faddr (.t 17) 5,none⟩,⟨some 19,.load none (.t 18),none⟩,⟨some 20,.len 1 (.t 19),none⟩,⟨some 21,.mov (.c (.int .i64 0)),none⟩])
 (.block 0 (.loop L102_0)))
 (.seq (.reg [⟨some 90,.load (some 4) (.t 4),none⟩,⟨none,.store 4 (.t 4) (.t 90),none⟩,⟨some 5,.mov (.c (.bool true)),none⟩])
 (.jump .ret))))⟩
def L103_0 : ACode := .seq (.reg [⟨some 9,.bin .lss (.t 8) (.t 7),none⟩])
 (.seq (.cond (.t 9) .skip
 (.jump (.exit 0)))
 (.seq (.block 1 (.seq (.reg [⟨some 10,.mov (.t 8),none⟩,⟨some 5,.mov (.t 10),none⟩])
 (.seq (.reg [⟨some 11,.mov (.t 1),none⟩,⟨some 12,.mov (.t 0),none⟩,⟨some 13,.mov (.t 5),none⟩,⟨some 14,.iaddr none 1 (.t 12) (.t 13),none⟩,⟨some 15,.load none (.t 14),none⟩,⟨some 16,.call (.t 11) [.t 15],none⟩])
 (.cond (.t 16) (.seq (.reg [⟨some 17,.mov (.t 5),none⟩,⟨some 4,.mov (.t 17),none⟩])
 (.jump .ret))
 .skip))))
 (.reg [⟨some 18,.bin .add (.t 8) (.c (.int .i64 1)),none⟩,⟨some 8,.mov (.t 18),none⟩])))
def a103 : AFunc := ⟨19, [.tmp 4],
 .seq (.reg [⟨some 4,.mov (.c (.int .i64 0)),none⟩])
 (.seq (.seq (.reg [⟨some 6,.mov (.t 0),none⟩,⟨some 7,.len 1 (.t 6),none⟩,⟨some 8,.mov (.c (.int .i64 0)),none⟩])
 (.block 0 (.loop L103_0)))
 (.seq (.reg [⟨some 4,.mov (.c (.int .i64 (-1))),none⟩])
 (.jump .ret)))⟩
def a104 : AFunc := ⟨13, [.tmp 4],
 .seq (.reg [⟨some 4,.mov (.c (.bool false)),none⟩])
 (.seq (.reg [⟨some 5,.mov (.t 0),none⟩,⟨some 6,.load none (.t 1),none⟩,⟨some 7,.bin .lss (.t 5) (.t 6),none⟩,⟨some 8,.mov (.t 7),none⟩,⟨some 9,.mov (.t 0),(some (8, false))⟩,⟨some 10,.load none (.t 2),(some (8, false))⟩,⟨some 11,.bin .gtr (.t 9) (.t 10),(some (8, false))⟩,⟨some 12,.pick (.t 8) (.c (.bool true)) (.t 11),none⟩,⟨some 4,.mov (.t 12),none⟩])
 (.jump .ret))⟩
def a105 : AFunc := ⟨22, [.tmp 4],
 .seq (.reg [⟨some 3,.box 2 (.t 1),none⟩,⟨some 4,.mov (.c (.int .i64 0)),none⟩])
 (.seq (.dreg [⟨⟨some 5,.faddr (.t 3) 0,none⟩, 0, 0⟩,⟨⟨some 6,.load none (.t 5),none⟩, 0, 0⟩,⟨⟨some 7,.mov (.t 0),none⟩, 0, 0⟩,⟨⟨some 8,.nilCheck (.t 7),none⟩, 0, 0⟩,⟨⟨some 9,.faddr (.t 8) 0,none⟩, 0, 0⟩,⟨⟨some 10,.faddr (.t 9) 1,none⟩, 0, 0⟩,⟨⟨some 11,.load none (.t 10),none⟩, 0, 0⟩,⟨⟨some 12,.bin .geq (.t 6) (.t 11),none⟩, 0, 0⟩,⟨⟨some 13,.faddr (.t 3) 1,none⟩, 0, 0⟩,⟨⟨some 14,.load none (.t 13),none⟩, 0, 0⟩,⟨⟨some 15,.mov (.t 0),none⟩, 0, 0⟩,⟨⟨some 16,.nilCheck (.t 15),none⟩, 0, 0⟩,⟨⟨some 17,.faddr (.t 16) 0,none⟩, 0, 0⟩,⟨⟨some 18,.faddr (.t 17) 1,none⟩, 0, 0⟩,⟨⟨some 19,.load none (.t 18),none⟩, 0, 0⟩,⟨⟨some 20,.bin .lss (.t 14) (.t 19),none⟩, 0, 0⟩,⟨⟨some 21,.call (.c (.func 106 [] [])) [.t 12,.t 20],none⟩, 0, 1⟩,⟨⟨some 4,.mov (.t 21),none⟩, 1, 1⟩])
 (.jump .ret))⟩
def a106 : AFunc := ⟨9, [.tmp 4],
 .seq (.reg [⟨some 4,.mov (.c (.int .i64 0)),none⟩])
 (.seq (.block 0 (.seq (.reg [⟨some 6,.mov (.t 0),none⟩,⟨some 5,.mov (.t 6),none⟩])
 (.cond (.t 5) (.seq (.reg [⟨some 4,.mov (.c (.int .i64 1)),none⟩])
 (.jump .ret))
 (.seq (.reg [⟨some 8,.mov (.t 1),none⟩,⟨some 7,.mov (.t 8),none⟩])
 (.cond (.t 7) (.seq (.reg [⟨some 4,.mov (.c (.int .i64 2)),none⟩])
 (.jump .ret))
 .skip)))))
 (.seq (.reg [⟨some 4,.mov (.c (.int .i64 0)),none⟩])
 (.jump .ret)))⟩
def a107 : AFunc := ⟨36, [.tmp 4],
 .seq (.reg [⟨some 3,.box 2 (.t 1),none⟩,⟨some 4,.mov (.c (.int .i64 0)),none⟩])
 (.seq (.dreg [⟨⟨some 5,.faddr (.t 3) 1,none⟩, 0, 0⟩,⟨⟨some 6,.load none (.t 5),none⟩, 0, 0⟩,⟨⟨some 7,.mov (.t 0),none⟩, 0, 0⟩,⟨⟨some 8,.nilCheck (.t 7),none⟩, 0, 0⟩,⟨⟨some 9,.faddr (.t 8) 0,none⟩, 0, 0⟩,⟨⟨some 10,.faddr (.t 9) 3,none⟩, 0, 0⟩,⟨⟨some 11,.faddr (.t 10) 1,none⟩, 0, 0⟩,⟨⟨some 12,.load none (.t 11),none⟩, 0, 0⟩,⟨⟨some 13,.bin .add (.t 6) (.t 12),none⟩, 0, 0⟩,⟨⟨some 14,.mov (.t 0),none⟩, 0, 0⟩,⟨⟨some 15,.nilCheck (.t 14),none⟩, 0, 0⟩,⟨⟨some 16,.faddr (.t 15) 0,none⟩, 0, 0⟩,⟨⟨some 17,.faddr (.t 16) 2,none⟩, 0, 0⟩,⟨⟨some 18,.load none (.t 17),none⟩, 0, 0⟩,⟨⟨some 19,.bin .leq (.t 13) (.t 18),none⟩, 0, 0⟩,⟨⟨some 20,.faddr (.t 3) 0,none⟩, 0, 0⟩,⟨⟨some 21,.load none (.t 20),none⟩, 0, 0⟩,⟨⟨some 22,.mov (.t 0),none⟩, 0, 0⟩,⟨⟨some 23,.nilCheck (.t 22),none⟩, 0, 0⟩,⟨⟨some 24,.faddr (.t 23) 0,none⟩, 0, 0⟩,⟨⟨some 25,.faddr (.t 24) 3,none⟩, 0, 0⟩,⟨⟨some 26,.faddr (.t 25) 0,none⟩, 0, 0⟩,⟨⟨some 27,.load none (.t 26),none⟩, 0, 0⟩,⟨⟨some 28,.bin .add (.t 21) (.t 27),none⟩, 0, 0⟩,⟨⟨some 29,.mov (.t 0),none⟩, 0, 0⟩,⟨⟨some 30,.nilCheck (.t 29),none⟩, 0, 0⟩,⟨⟨some 31,.faddr (.t 30) 0,none⟩, 0, 0⟩,⟨⟨some 32,.faddr (.t 31) 2,none⟩, 0, 0⟩,⟨⟨some 33,.load none (.t 32),none⟩, 0, 0⟩,⟨⟨some 34,.bin .gtr (.t 28) (.t 33),none⟩, 0, 0⟩,⟨⟨some 35,.call (.c (.func 106 [] [])) [.t 19,.t 34],none⟩, 0, 1⟩,⟨⟨some 4,.mov (.t 35),none⟩, 1, 1⟩])
 (.jump .ret))⟩
def a108 : AFunc := ⟨6, [.tmp 2],
 .seq (.reg [⟨some 2,.mov (.c (.bool false)),none⟩])
 (.seq (.reg [⟨some 3,.mov (.t 0),none⟩,⟨some 4,.mov (.t 0),none⟩,⟨some 5,.eql (.one .i) true (.t 3) (.t 4),none⟩,⟨some 2,.mov (.t 5),none⟩])
 (.jump .ret))⟩
def a109 : AFunc := ⟨10, [],
 .seq (.reg [⟨some 2,.box 1 (.t 0),none⟩])
 (.seq (.reg [⟨some 3,.alloc [.int .i64 0, .int .i64 0, .int .i64 0, .int .i64 0, .int .i64 0, .int .i64 0, .int .i64 0],none⟩,⟨some 4,.alloc [.int .i64 0, .int .i64 0, .int .i64 0, .int .i64 0, .int .i64 0, .int .i64 0, .int .i64 0],none⟩])
 (.seq (.reg [⟨some 5,.alloc [.bool false],none⟩,⟨none,.store 1 (.t 5) (.c (.bool true)),none⟩])
 (.seq (.reg [⟨some 6,.alloc [.nilFunc],none⟩])
 (.seq (.reg [⟨some 7,.mkfun 110 [] [.t 1,.t 5,.t 3,.t 4,.t 2,.t 6],none⟩,⟨none,.store 1 (.t 6) (.t 7),none⟩])
 (.reg [⟨some 8,.load none (.t 6),none⟩,⟨some 9,.call (.t 8) [(.c (.int .i64 0))],none⟩])))))⟩
def L110_0 : ACode := .seq (.seq (.reg [⟨some 38,.mov (.t 9),none⟩,⟨some 39,.load none (.t 1),none⟩,⟨some 40,.nilCheck (.t 39),none⟩,⟨some 41,.faddr (.t 40) 0,none⟩,⟨some 42,.faddr (.t 41) 0,none⟩,⟨some 43,.load none (.t 42),none⟩,⟨some 44,.mov (.t 0),none⟩,⟨some 45,.iaddr none 2 (.t 43) (.t 44),none⟩,⟨some 46,.faddr (.t 45) 1,none⟩,⟨some 47,.load none (.t 46),none⟩,⟨some 48,.bin .leq (.t 38) (.t 47),none⟩])
 (.cond (.t 48) .skip
 (.jump (.exit 0))))
 (.seq (.block 1 (.seq (.reg [⟨some 51,.mov (.t 0),none⟩,⟨some 52,.mov (.t 9),none⟩,⟨some 53,.iaddr (some 7) 1 (.t 3) (.t 51),none⟩,⟨none,.store 1 (.t 53) (.t 52),none⟩])
 (.seq (.reg [⟨some 54,.load none (.t 6),none⟩,⟨some 55,.mov (.t 0),none⟩,⟨some 56,.bin .add (.t 55) (.c (.int .i64 1)),none⟩,⟨some 57,.call (.t 54) [.t 56],none⟩,⟨some 58,.not (.t 57),none⟩])
 (.cond (.t 58) (.seq (.reg [⟨some 8,.mov (.c (.bool false)),none⟩])
 (.jump .ret))
 .skip))))
 (.reg [⟨some 49,.mov (.t 9),none⟩,⟨some 50,.bin .add (.t 49) (.c (.int .i64 1)),none⟩,⟨some 9,.mov (.t 50),none⟩]))
def a110 : AFunc := ⟨61, [.tmp 8],
 .seq (.reg [⟨some 8,.mov (.c (.bool false)),none⟩])
 (.seq (.seq (.reg [⟨some 10,.mov (.t 0),none⟩,⟨some 11,.load none (.t 1),none⟩,⟨some 12,.nilCheck (.t 11),none⟩,⟨some 13,.faddr (.t 12) 0,none⟩,⟨some 14,.faddr (.t 13) 0,none⟩,⟨some 15,.load none (.t 14),none⟩,⟨some 16,.len 1 (.t 15),none⟩,⟨some 17,.eql (.one .i) false (.t 10) (.t 16),none⟩])
 (.cond (.t 17) (.seq (.seq (.reg [⟨some 18,.load none (.t 2),none⟩,⟨some 19,.not (.t 18),none⟩,⟨some 20,.mov (.t 19),none⟩,⟨some 21,.load (some 7) (.t 3),(some (20, true))⟩,⟨some 22,.load (some 7) (.t 4),(some (20, true))⟩,⟨some 23,.eql (.agg [.i, .i, .i, .i, .i, .i, .i]) false (.t 21) (.t 22),(some (20, true))⟩,⟨some 24,.pick (.t 20) (.t 23) (.c (.bool false)),none⟩])
 (.cond (.t 24) (.seq (.reg [⟨some 8,.mov (.c (.bool true)),none⟩])
 (.jump .ret))
 .skip))
 (.seq (.dreg [⟨⟨some 25,.load (some 7) (.t 3),none⟩, 0, 1⟩,⟨⟨none,.store 1 (.t 2) (.c (.bool false)),none⟩, 0, 1⟩,⟨⟨none,.store 7 (.t 4) (.t 25),none⟩, 1, 2⟩])
 (.seq (.reg [⟨some 26,.load none (.t 5),none⟩,⟨some 27,.load (some 7) (.t 3),none⟩,⟨some 28,.call (.t 26) [.t 27],none⟩,⟨some 8,.mov (.t 28),none⟩])
 (.jump .ret))))
 .skip))
 (.seq (.seq (.reg [⟨some 29,.load none (.t 1),none⟩,⟨some 30,.nilCheck (.t 29),none⟩,⟨some 31,.faddr (.t 30) 0,none⟩,⟨some 32,.faddr (.t 31) 0,none⟩,⟨some 33,.load none (.t 32),none⟩,⟨some 34,.mov (.t 0),none⟩,⟨some 35,.iaddr none 2 (.t 33) (.t 34),none⟩,⟨some 36,.faddr (.t 35) 0,none⟩,⟨some 37,.load none (.t 36),none⟩,⟨some 9,.mov (.t 37),none⟩])
 (.block 0 (.loop L110_0)))
 (.seq (.reg [⟨some 59,.mov (.t 0),none⟩,⟨some 60,.iaddr (some 7) 1 (.t 3) (.t 59),none⟩,⟨none,.store 1 (.t 60) (.c (.int .i64 0)),none⟩])
 (.seq (.reg [⟨some 8,.mov (.c (.bool true)),none⟩])
 (.jump .ret)))))⟩
def T (f : FuncId) : Option AFunc := cond (Nat.ble f 64) (cond (Nat.ble f 30) (cond (Nat.ble f 19) (cond (Nat.ble f 6) (cond (Nat.ble f 3) (cond (Nat.ble f 2) (cond (Nat.beq f 2) (some a2) none) (cond (Nat.beq f 3) (some a3) none)) (cond (Nat.ble f 4) (cond (Nat.beq f 4) (some a4) none) (cond (Nat.ble f 5) (cond (Nat.beq f 5) (some a5) none) (cond (Nat.beq f 6) (some a6) none)))) (cond (Nat.ble f 16) (cond (Nat.ble f 7) (cond (Nat.beq f 7) (some a7) none) (cond (Nat.ble f 15) (cond (Nat.beq f 15) (some a15) none) (cond (Nat.beq f 16) (some a16) none))) (cond (Nat.ble f 17) (cond (Nat.beq f 17) (some a17) none) (cond (Nat.ble f 18) (cond (Nat.beq f 18) (some a18) none) (cond (Nat.beq f 19) (some a19) none))))) (cond (Nat.ble f 24) (cond (Nat.ble f 21) (cond (Nat.ble f 20) (cond (Nat.beq f 20) (some a20) none) (cond (Nat.beq f 21) (some a21) none)) (cond (Nat.ble f 22) (cond (Nat.beq f 22) (some a22) none) (cond (Nat.ble f 23) (cond (Nat.beq f 23) (some a23) none) (cond (Nat.beq f 24) (some a24) none)))) (cond (Nat.ble f 27) (cond (Nat.ble f 25) (cond (Nat.beq f 25) (some a25) none) (cond (Nat.ble f 26) (cond (Nat.beq f 26) (some a26) none) (cond (Nat.beq f 27) (some a27) none))) (cond (Nat.ble f 28) (cond (Nat.beq f 28) (some a28) none) (cond (Nat.ble f 29) (cond (Nat.beq f 29) (some a29) none) (cond (Nat.beq f 30) (some a30) none)))))) (cond (Nat.ble f 49) (cond (Nat.ble f 35) (cond (Nat.ble f 32) (cond (Nat.ble f 31) (cond (Nat.beq f 31) (some a31) none) (cond (Nat.beq f 32) (some a32) none)) (cond (Nat.ble f 33) (cond (Nat.beq f 33) (some a33) none) (cond (Nat.ble f 34) (cond (Nat.beq f 34) (some a34) none) (cond (Nat.beq f 35) (some a35) none)))) (cond (Nat.ble f 43) (cond (Nat.ble f 36) (cond (Nat.beq f 36) (some a36) none) (cond (Nat.ble f 37) (cond (Nat.beq f 37) (some a37) none) (cond (Nat.beq f 43) (some a43) none))) (cond (Nat.ble f 44) (cond (Nat.beq f 44) (some a44) none) (cond (Nat.ble f 47) (cond (Nat.beq f 47) (some a47) none) (cond (Nat.beq f 49) (some a49) none))))) (cond (Nat.ble f 58) (cond (Nat.ble f 55) (cond (Nat.ble f 51) (cond (Nat.beq f 51) (some a51) none) (cond (Nat.ble f 52) (cond (Nat.beq f 52) (some a52) none) (cond (Nat.beq f 55) (some a55) none))) (cond (Nat.ble f 56) (cond (Nat.beq f 56) (some a56) none) (cond (Nat.ble f 57) (cond (Nat.beq f 57) (some a57) none) (cond (Nat.beq f 58) (some a58) none)))) (cond (Nat.ble f 61) (cond (Nat.ble f 59) (cond (Nat.beq f 59) (some a59) none) (cond (Nat.ble f 60) (cond (Nat.beq f 60) (some a60) none) (cond (Nat.beq f 61) (some a61) none))) (cond (Nat.ble f 62) (cond (Nat.beq f 62) (some a62) none) (cond (Nat.ble f 63) (cond (Nat.beq f 63) (some a63) none) (cond (Nat.beq f 64) (some a64) none))))))) (cond (Nat.ble f 87) (cond (Nat.ble f 75) (cond (Nat.ble f 69) (cond (Nat.ble f 66) (cond (Nat.ble f 65) (cond (Nat.beq f 65) (some a65) none) (cond (Nat.beq f 66) (some a66) none)) (cond (Nat.ble f 67) (cond (Nat.beq f 67) (some a67) none) (cond (Nat.ble f 68) (cond (Nat.beq f 68) (some a68) none) (cond (Nat.beq f 69) (some a69) none)))) (cond (Nat.ble f 72) (cond (Nat.ble f 70) (cond (Nat.beq f 70) (some a70) none) (cond (Nat.ble f 71) (cond (Nat.beq f 71) (some a71) none) (cond (Nat.beq f 72) (some a72) none))) (cond (Nat.ble f 73) (cond (Nat.beq f 73) (some a73) none) (cond (Nat.ble f 74) (cond (Nat.beq f 74) (some a74) none) (cond (Nat.beq f 75) (some a75) none))))) (cond (Nat.ble f 81) (cond (Nat.ble f 78) (cond (Nat.ble f 76) (cond (Nat.beq f 76) (some a76) none) (cond (Nat.ble f 77) (cond (Nat.beq f 77) (some a77) none) (cond (Nat.beq f 78) (some a78) none))) (cond (Nat.ble f 79) (cond (Nat.beq f 79) (some a79) none) (cond (Nat.ble f 80) (cond (Nat.beq f 80) (some a80) none) (cond (Nat.beq f 81) (some a81) none)))) (cond (Nat.ble f 84) (cond (Nat.ble f 82) (cond (Nat.beq f 82) (some a82) none) (cond (Nat.ble f 83) (cond (Nat.beq f 83) (some a83) none) (cond (Nat.beq f 84) (some a84) none))) (cond (Nat.ble f 85) (cond (Nat.beq f 85) (some a85) none) (cond (Nat.ble f 86) (cond (Nat.beq f 86) (some a86) none) (cond (Nat.beq f 87) (some a87) none)))))) (cond (Nat.ble f 98) (cond (Nat.ble f 92) (cond (Nat.ble f 89) (cond (Nat.ble f 88) (cond (Nat.beq f 88) (some a88) none) (cond (Nat.beq f 89) (some a89) none)) (cond (Nat.ble f 90) (cond (Nat.beq f 90) (some a90) none) (cond (Nat.ble f 91) (cond (Nat.beq f 91) (some a91) none) (cond (Nat.beq f 92) (some a92) none)))) (cond (Nat.ble f 95) (cond (Nat.ble f 93) (cond (Nat.beq f 93) (some a93) none) (cond (Nat.ble f 94) (cond (Nat.beq f 94) (some a94) none) (cond (Nat.beq f 95) (some a95) none))) (cond (Nat.ble f 96) (cond (Nat.beq f 96) (some a96) none) (cond (Nat.ble f 97) (cond (Nat.beq f 97) (some a97) none) (cond (Nat.beq f 98) (some a98) none))))) (cond (Nat.ble f 104) (cond (Nat.ble f 101) (cond (Nat.ble f 99) (cond (Nat.beq f 99) (some a99) none) (cond (Nat.ble f 100) (cond (Nat.beq f 100) (some a100) none) (cond (Nat.beq f 101) (some a101) none))) (cond (Nat.ble f 102) (cond (Nat.beq f 102) (some a102) none) (cond (Nat.ble f 103) (cond (Nat.beq f 103) (some a103) none) (cond (Nat.beq f 104) (some a104) none)))) (cond (Nat.ble f 107) (cond (Nat.ble f 105) (cond (Nat.beq f 105) (some a105) none) (cond (Nat.ble f 106) (cond (Nat.beq f 106) (some a106) none) (cond (Nat.beq f 107) (some a107) none))) (cond (Nat.ble f 108) (cond (Nat.beq f 108) (some a108) none) (cond (Nat.ble f 109) (cond (Nat.beq f 109) (some a109) none) (cond (Nat.beq f 110) (some a110) none)))))))
end Go.Am.Room
namespace Go.Am
def ofScalar : Value → Option AV
 | .bool b => some (.bool b)
 | .int k n => some (.int k n)
 | .string s => some (.str s)
 | .pointer none => some .nilPtr
 | .slice none 0 0 => some (.lit [] true none)
 | .map none => some .nilMap
 | .nilFunc => some .nilFunc
 | _ => none
def ofScalars : List Value → Option (List AV)
 | [] => some []
 | v :: vs => match ofScalar v, ofScalars vs with | some a, some b => some (a :: b) | _, _ => none
def ofValue : Value → Option AV
 | .agg cs => match ofScalars cs.toList with | some l => some (.agg l) | none => none
 | .tuple vs => if vs.size = 0 then some (.tuple []) else none
 | v => ofScalar v
def opd : Operand → Option AOpd
 | .tmp t => some (.t t)
 | .const v => match ofValue v with | some a => some (.c a) | none => none
 | .func f => some (.c (.func f [] []))
 | .global _ => none
def opds : List Operand → Option (List AOpd)
 | [] => some []
 | x :: xs => match opd x, opds xs with | some a, some b => some (a :: b) | _, _ => none
def optOpd : Option Operand → Option (Option AOpd)
 | none => some none
 | some x => match opd x with | some a => some (some a) | none => none
section
variable (P : Program) (h : String → Bool)
def isAggT (t : TypeId) : Option Bool :=
 match P.underlying t with
 | some (.struct _) | some (.array _ _) => some true
 | some _ => some false
 | none => none
def sizeT (t : TypeId) : Option Nat :=
 match P.info? t with
 | some i => if i.size = 0 then none else some i.size
 | none => none
def shapeT (t : TypeId) : Option (Option Nat) :=
 match isAggT P t, sizeT P t with
 | some true, some n => some (some n)
 | some false, some 1 => some none
 | _, _ => none
def zeroT (t : TypeId) : Option AV :=
 match P.info? t with
 | some i => match i.zero with | some v => ofValue v | none => none
 | none => none
def zeroCellsT (t : TypeId) : Option (List AV) :=
 match zeroT P t, sizeT P t with
 | some z, some n => if z.cells.length = n ∧ z.cells.all (·.cell) = true then some z.cells else none
 | _, _ => none
mutual
def plainT : Nat → TypeId → Option (List SK)
 | 0, _ => none
 | d + 1, t =>
  match P.underlying t with
  | some .bool => some [.b]
  | some (.int _) => some [.i]
  | some .string => some [.s]
  | some (.struct fs) => if P.stoodInHeld t then none else plainFields d fs.toList 0
  | some (.array n e) =>
   match plainT d e, P.info? e with
   | some ks, some i => if i.size = ks.length then some (List.replicate n ks).flatten else none
   | _, _ => none
  | _ => none
def plainFields : Nat → List Field → Nat → Option (List SK)
 | 0, _, _ => none
 | _ + 1, [], _ => some []
 | d + 1, f :: fs, n =>
  if f.name = "_" ∨ f.offset ≠ n then none else
  match plainT d f.type, P.info? f.type with
  | some ks, some i => if i.size = ks.length then (match plainFields d fs (n + ks.length) with | some r => some (ks ++ r) | none => none) else none
  | _, _ => none
end
def depthT : Nat := 60
def eqT (t : TypeId) : Option EqTy :=
 match plainT P depthT t, isAggT P t with
 | some [k], some false => some (.one k)
 | some ks, some true => if P.eqGuardType P.depth t then none else some (.agg ks)
 | _, _ => none
def fieldT (s : TypeId) (f : Nat) : Option Field :=
 match P.underlying s with
 | some (.struct fs) =>
  match fs[f]? with
  | some f => match sizeT P f.type with | some _ => some f | none => none
  | none => none
 | _ => none
def fieldsOk (t : TypeId) : Bool :=
 match P.underlying t with
 | some (.struct fs) => fs.toList.all fun f => (P.info? f.type).isSome
 | some (.array _ e) => (P.info? e).isSome
 | _ => false
def partsBuild (t : TypeId) : List (Nat × Operand) → Option (List (Nat × Nat × AOpd))
 | [] => some []
 | (i, x) :: rest =>
  let place : Option (Nat × Nat) := match P.underlying t with
   | some (.struct fs) => match fs[i]? with | some f => (match sizeT P f.type with | some n => some (f.offset, n) | none => none) | none => none
   | some (.array n e) => if i < n then (match sizeT P e with | some m => some (i * m, m) | none => none) else none
   | _ => none
  match place, opd x, partsBuild t rest with
  | some (off, n), some a, some r => some ((off, n, a) :: r)
  | _, _, _ => none
def partsList : Nat → List (Nat × Operand) → Option (List AOpd)
 | _, [] => some []
 | k, (i, x) :: rest => if i = k then (match opd x, partsList (k + 1) rest with | some a, some b => some (a :: b) | _, _ => none) else none
def elemSlice (t : TypeId) : Option (TypeId × Nat) :=
 match P.underlying t with
 | some (.slice e) => match sizeT P e with | some n => some (e, n) | none => none
 | _ => none
def compCall (pos : String) (c : Call) : Option AOp :=
 match c.callee, opds c.args.toList with
 | .value f, some args => match opd f with | some g => some (.call g args) | none => none
 | .builtin .len, some [x] =>
  match c.argTypes[0]? with
  | some t =>
   match P.underlying t with
   | some .string => some (.len 0 x)
   | some (.slice _) => some (.len 1 x)
   | some (.map _ _) => some (.len 2 x)
   | some (.array n _) => some (.mov (.c (.int .i64 n)))
   | _ => none
  | none => none
 | .builtin .append, some [x, y] =>
  match c.argTypes[0]?, c.argTypes[1]? with
  | some t, some u =>
   match elemSlice P t, elemSlice P u, P.info? (match P.underlying t with | some (.slice e) => e | _ => 0) with
   | some (e, sz), some (e', _), some i => if t = u ∧ e = e' ∧ 0 < i.bytes then (match zeroCellsT P e with | some _ => some (if h pos then .apref sz i.bytes x y else .append sz i.bytes x y) | none => none) else none
   | _, _, _ => none
  | _, _ => none
 | .builtin .copy, some [x, y] =>
  match c.argTypes[0]?, c.argTypes[1]? with
  | some t, some u =>
   match elemSlice P t, elemSlice P u with
   | some (e, sz), some (e', _) => if e = e' then some (.copy sz x y) else none
   | _, _ => none
  | _, _ => none
 | .builtin .min, some xs => some (.min xs)
 | .builtin .max, some xs => some (.max xs)
 | _, _ => none
def compOp (pos : String) : Op → Option AOp
 | .move x | .assign x => match opd x with | some a => some (.mov a) | none => none
 | .pick c a b => match opd c, opd a, opd b with | some c, some a, some b => some (.pick c a b) | _, _, _ => none
 | .alloc t => match zeroCellsT P t with | some z => some (.alloc z) | none => none
 | .box t x => match opd x, shapeT P t, sizeT P t with | some a, some _, some n => some (.box n a) | _, _, _ => none
 | .build t parts =>
  match zeroCellsT P t, fieldsOk P t, partsBuild P t parts.toList with
  | some z, true, some ps => some (.build z ps)
  | _, _, _ => none
 | .buildSlice t n parts =>
  match elemSlice P t, partsList 0 parts.toList with
  | some (e, sz), some xs => if xs.length = n ∧ n * sz ≤ 2 ^ 24 then (match zeroCellsT P e with | some _ => some (if (h pos && n != 0) = true then .mkref sz xs else .mklit sz xs) | none => none) else none
  | _, _ => none
 | .load t a => match shapeT P t, opd a with | some sh, some x => some (.load sh x) | _, _ => none
 | .store t a x => match sizeT P t, opd a, opd x with | some n, some a, some x => some (.store n a x) | _, _, _ => none
 | .nilCheck x => match opd x with | some a => some (.nilCheck a) | none => none
 | .binOp op t x y _ =>
  match opd x, opd y with
  | some a, some b =>
   match op with
   | .eql => match eqT P t with | some sh => some (.eql sh false a b) | none => none
   | .neq => match eqT P t with | some sh => some (.eql sh true a b) | none => none
   | op =>
    match P.underlying t with
    | some (.int _) => some (.bin op a b)
    | _ => none
  | _, _ => none
 | .unOp op _ x =>
  match op, opd x with
  | .not, some a => some (.not a)
  | .neg, some a => some (.neg a)
  | _, _ => none
 | .convert s d x =>
  match P.underlying s, P.underlying d, opd x with
  | some (.int _), some (.int k), some a => some (.conv k a)
  | _, _, _ => none
 | .makeFunc fn first cap =>
  match fn, opds first.toList, opds cap.toList with
  | .func f, some a, some b => some (.mkfun f a b)
  | _, _, _ => none
 | .makeMap t none => match P.underlying t with | some (.map _ _) => some .mkmap | _ => none
 | .makeSlice t l c =>
  match elemSlice P t, opd l, opd c with
  | some (e, _), some l, some c =>
   match zeroCellsT P e, P.info? e with
   | some z, some i => if 0 < i.bytes then some (.mkslice z i.bytes l c) else none
   | _, _ => none
  | _, _, _ => none
 | .slice t x lo hi mx =>
  match opd x, optOpd lo, optOpd hi, optOpd mx with
  | some x, some lo, some hi, some mx =>
   match P.underlying t with
   | some (.slice e) => match sizeT P e with | some sz => some (.slicev sz x lo hi mx) | none => none
   | some (.array n e) => match sizeT P e, mx with | some sz, none => some (.slicea n sz x lo hi) | _, _ => none
   | _ => none
  | _, _, _, _ => none
 | .fieldAddr t x f => match fieldT P t f, opd x with | some f, some a => some (.faddr a f.offset) | _, _ => none
 | .field t x f =>
  match fieldT P t f, opd x with
  | some f, some a => match shapeT P f.type with | some sh => some (.field a f.offset sh) | none => none
  | _, _ => none
 | .indexAddr t x i =>
  match opd x, opd i with
  | some x, some i =>
   match P.underlying t with
   | some (.array n e) => match sizeT P e with | some sz => some (.iaddr (some n) sz x i) | none => none
   | some (.slice e) => match sizeT P e with | some sz => some (.iaddr none sz x i) | none => none
   | _ => none
  | _, _ => none
 | .index t x i =>
  match opd x, opd i with
  | some x, some i =>
   match P.underlying t with
   | some .string => some (.sindex x i)
   | some (.array n e) => match sizeT P e, shapeT P e with | some sz, some sh => some (.index n sz sh x i) | _, _ => none
   | _ => none
  | _, _ => none
 | .lookup t m k ok =>
  match opd m, opd k with
  | some m, some k =>
   match P.underlying t with
   | some (.map key elem) => (match eqT P key, zeroT P elem with | some sh, some z => some (.lookup sh ok z m k) | _, _ => none)
   | _ => none
  | _, _ => none
 | .mapUpdate t m k v =>
  match opd m, opd k, opd v with
  | some m, some k, some v =>
   match P.underlying t with
   | some (.map key _) => (match eqT P key with | some sh => some (.mapset sh m k v) | none => none)
   | _ => none
  | _, _, _ => none
 | .range t x =>
  match opd x with
  | some x =>
   match P.underlying t with
   | some .string => some (.srange x)
   | some (.map _ _) => some (.mrange x)
   | _ => none
  | none => none
 | .next x s => match opd x with | some a => if s then some (.snext a) else some (.mnext a) | none => none
 | .entry x => match opd x with | some a => some (.entry a) | none => none
 | .extract x i => match opd x with | some a => some (.ext a i) | none => none
 | .call c => compCall P h pos c
 | _ => none
def compOper (n : Nat) (ops : Array Oper) (o : Oper) : Option AOper :=
 let d : Bool := match o.dst with | some d => decide (d < n) | none => true
 let g : Option (Option (Nat × Bool)) := match o.guard with
  | none => some none
  | some (j, want) => match (ops[j]?).bind (·.dst) with | some t => some (some (t, want)) | none => none
 match compOp P h o.pos o.op, g with
 | some op, some g => if d then some { dst := o.dst, op, guard := g } else none
 | _, _ => none
def compOpers (n : Nat) (ops : Array Oper) : List Oper → Option (List AOper)
 | [] => some []
 | o :: os => match compOper P h n ops o, compOpers n ops os with | some a, some b => some (a :: b) | _, _ => none
def AOpd.tmps : AOpd → List Nat
 | .t n => [n]
 | .c _ => []
def AOp.tmps : AOp → List Nat
 | .mov x | .box _ x | .load _ x | .nilCheck x | .not x | .neg x | .conv _ x | .faddr x _ | .field x _ _ | .srange x | .snext x | .mrange x | .mnext x | .entry x | .ext x _ | .len _ x => x.tmps
 | .pick c a b | .mapset _ c a b => c.tmps ++ a.tmps ++ b.tmps
 | .alloc _ | .mkmap => []
 | .build _ ps => ps.flatMap fun p => p.2.2.tmps
 | .mklit _ xs | .mkref _ xs | .min xs | .max xs => xs.flatMap AOpd.tmps
 | .store _ a b | .bin _ a b | .eql _ _ a b | .append _ _ a b | .apref _ _ a b | .copy _ a b | .mkslice _ _ a b | .iaddr _ _ a b | .index _ _ _ a b | .sindex a b | .lookup _ _ _ a b => a.tmps ++ b.tmps
 | .mkfun _ a b => a.flatMap AOpd.tmps ++ b.flatMap AOpd.tmps
 | .slicev _ x l h m => x.tmps ++ (l.toList ++ h.toList ++ m.toList).flatMap AOpd.tmps
 | .slicea _ _ x l h => x.tmps ++ (l.toList ++ h.toList).flatMap AOpd.tmps
 | .call f xs => f.tmps ++ xs.flatMap AOpd.tmps
def AOper.tmps (o : AOper) : List Nat := o.op.tmps ++ (match o.guard with | some (t, _) => [t] | none => [])
def actPlaces (os : List AOper) : List Nat := (os.zipIdx.filter fun p => p.1.op.acts).map (·.2)
def rankIn (md : Region.Mode) (ops : Array Oper) (i : Nat) : Nat :=
 match ops[i]? with
 | none => 0
 | some o =>
  let j := o.after.toList.foldl (fun m e => if Region.binds md e && decide (m < e.on) then e.on else m) i
  if j = i then i * (ops.size + 1) else j * (ops.size + 1) + 1 + i
def edgesIn (md : Region.Mode) (ops : Array Oper) : Bool :=
 (List.range ops.size).all fun i => ((ops[i]?).map fun o => o.after.toList.all fun e => !Region.binds md e || (decide (e.on < ops.size) && decide (rankIn md ops e.on < rankIn md ops i))).getD false
def edgesOk (ops : Array Oper) : Bool := edgesIn .any ops && edgesIn .text ops && edgesIn .gc ops
def noRF : Code → Bool
 | .seq a b | .cond _ a b => noRF a && noRF b
 | .block _ b | .loop b | .scope b => noRF b
 | .rangeFunc .. => false
 | _ => true
def drawOk (before : Array Nat) (os : List AOper) : Bool :=
 let ps := os.zipIdx
 let acts := actPlaces os
 (ps.all fun (o, i) => ps.all fun (o', j) => i == j || !(o.dst.isSome && o.dst == o'.dst)) &&
 (ps.all fun (o, i) => o.tmps.all fun t => ps.all fun (o', j) => o'.dst != some t || (decide (j < i) && (before.getD i 0).testBit j) || (decide (i < j) && (before.getD j 0).testBit i)) &&
 (acts.all fun i => acts.all fun j => !(decide (i < j)) || (before.getD j 0).testBit i)
def windows (before : Array Nat) (os : List AOper) : List ADOper :=
 let acts := actPlaces os
 os.zipIdx.map fun (o, i) =>
  { o, lo := (acts.filter fun a => (before.getD i 0).testBit a).length, hi := (acts.takeWhile fun a => !(before.getD a 0).testBit i).length }
def comp (n : Nat) : Code → Option ACode
 | .skip | .label _ => some .skip
 | .region _ ops draw =>
  match compOpers P h n ops ops.toList with
  | some os => if draw then (if edgesOk ops && drawOk (Region.before ops) os then some (.dreg (windows (Region.before ops) os)) else none) else some (.reg os)
  | none => none
 | .seq a b => match comp n a, comp n b with | some x, some y => some (.seq x y) | _, _ => none
 | .cond c a b => match opd c, comp n a, comp n b with | some c, some x, some y => some (.cond c x y) | _, _, _ => none
 | .block id b => match comp n b with | some x => some (.block id x) | none => none
 | .loop b => match comp n b with | some x => some (.loop x) | none => none
 | .rangeFunc f ps a b => match opd f, comp n a, comp n b with | some f, some x, some y => if ps.toList.all (fun p => decide (p < n)) && noRF a && noRF b then some (.rangeFunc f ps.toList x y) else none | _, _, _ => none
 | .exit id => some (.jump (.exit id))
 | .ret => some (.jump .ret)
 | .scope b => match comp n b with | some x => some (.scope x) | none => none
 | .goto _ | .refuse _ => none
def compRes : List ResultVar → Option (List ARes)
 | [] => some []
 | .tmp t :: rs => match compRes rs with | some l => some (.tmp t :: l) | none => none
 | .cell a t :: rs => match shapeT P t, compRes rs with | some sh, some l => some (.cell a sh :: l) | _, _ => none
def compFunc (fn : Func) : Option AFunc :=
 match fn.body with
 | none => none
 | some c =>
  match comp P h fn.ntmps c, compRes P fn.results.toList with
  | some b, some rs => if fn.name == "runtime.NumGoroutine" then none else some { ntmps := fn.ntmps, results := rs, body := b }
  | _, _ => none
end
end Go.Am
namespace Go.Am
structure Gh where
 loc : Nat → Option Nat
 lim : Nat → Option Nat
 tok : Nat → Option (Option Addr × Nat × Nat)
 own : Nat → Option Nat
 defs : Nat → Prop
 B0 : Nat
 h0 : Array Obj
 /-- blocks that have no place, and get none; and what they hold -/
 res : Nat → Option (Option (List AV))
structure LitAt (G : Gh) (w : World) (xs : List AV) (tk : Option Nat) (b off sz : Nat) : Prop where
 lim : ∃ L, G.lim b = some L ∧ off + xs.length * sz ≤ L
 own : ∀ t, G.own b = some t → tk = some t
 size : ∀ (i : Nat) (x : AV), xs[i]? = some x → x.cells.length = sz
 cells : ∀ k, k < xs.length * sz → (w.cell? ⟨b, off + k, none⟩).isSome = true
def tkOk (G : Gh) (full : Bool) (tk : Option Nat) (n : Nat) (base : Option Addr) (cap : Nat) : Prop :=
 n ≤ cap ∧ (full = true → cap = n) ∧
 ∀ t, tk = some t → ∃ b m c, G.tok t = some (b, m, c) ∧ n ≤ m ∧ (full = false → m = n → b = base ∧ c = cap)
inductive RelV (G : Gh) (w : World) : AV → Value → Prop where
 | undef (v : Value) : RelV G w .undef v
 | int (k : IntKind) (n : Int) : RelV G w (.int k n) (.int k n)
 | bool (b : Bool) : RelV G w (.bool b) (.bool b)
 | str (s : ByteArray) : RelV G w (.str s) (.string s)
 | func {f first cap first' cap'} (h1 : first'.size = first.length) (h2 : cap'.size = cap.length)
   (h3 : ∀ (i : Nat) (a : AV) (v : Value), first[i]? = some a → first'[i]? = some v → RelV G w a v) (h4 : ∀ (i : Nat) (a : AV) (v : Value), cap[i]? = some a → cap'[i]? = some v → RelV G w a v) :
   RelV G w (.func f first cap) (.func (.func f) first' cap')
 | nilFunc : RelV G w .nilFunc .nilFunc
 | yield {id b} (h : G.loc id = some b) : RelV G w (.yield id) (.func (.yield b) #[] #[])
 | ptr {id off b} (h : G.loc id = some b) : RelV G w (.ptr id off) (.pointer (some ⟨b, off, none⟩))
 | nilPtr : RelV G w .nilPtr (.pointer none)
 | lptr {xs i off tk b o sz} (ht : ∀ t, tk = some t → ∃ p, G.tok t = some p) (hi : i < xs.length) (hl : LitAt G w xs tk b o sz)
   (hc : ∀ (i : Nat) (x : AV) (j : Nat) (c : AV) (u : Value), xs[i]? = some x → x.cells[j]? = some c → w.cell? ⟨b, o + (i * sz + j), none⟩ = some u → RelV G w c u) :
   RelV G w (.lptr xs i off tk) (.pointer (some ⟨b, o + i * sz + off, none⟩))
 | nil {full tk base cap} (ht : tkOk G full tk 0 base cap) (hb : base = none → cap = 0) : RelV G w (.lit [] full tk) (.slice base 0 cap)
 | lit {xs full tk b o sz cap} (ht : tkOk G full tk xs.length (some ⟨b, o, none⟩) cap) (hl : LitAt G w xs tk b o sz)
   (hc : ∀ (i : Nat) (x : AV) (j : Nat) (c : AV) (u : Value), xs[i]? = some x → x.cells[j]? = some c → w.cell? ⟨b, o + (i * sz + j), none⟩ = some u → RelV G w c u) :
   RelV G w (.lit xs full tk) (.slice (some ⟨b, o, none⟩) xs.length cap)
 | ref {id off len sz b base cap} (h : G.loc id = some b) (hb : len ≠ 0 → base = some ⟨b, off, none⟩) (hc : len ≤ cap) (hn : base = none → cap = 0) :
   RelV G w (.ref id off len sz) (.slice base len cap)
 | map {id b} (h : G.loc id = some b) : RelV G w (.map id) (.map (some b))
 | nilMap : RelV G w .nilMap (.map none)
 | agg {cs vs} (h : vs.size = cs.length) (hc : ∀ (i : Nat) (a : AV) (v : Value), cs[i]? = some a → vs[i]? = some v → RelV G w a v) : RelV G w (.agg cs) (.agg vs)
 | tuple {cs vs} (h : vs.size = cs.length) (hc : ∀ (i : Nat) (a : AV) (v : Value), cs[i]? = some a → vs[i]? = some v → RelV G w a v) : RelV G w (.tuple cs) (.tuple vs)
def lsOf : LS → LoopState
 | .ready => .ready
 | .busy => .busy
 | .done => .done
def jumpOf : AJump → Code
 | .ret => .ret
 | .exit id => .exit id
def RelE (G : Gh) (w : World) (n : Nat) (env : Env) (tmps : Array Value) : Prop :=
 tmps.size = n ∧ ∀ t, RelV G w (Env.get env t) (tmps.getD t Go.undef)
def RelBlk (P : Program) (h : String → Bool) (G : Gh) (w : World) : ABlk → Nat → Prop
 | .cells cs, b => ∃ vs T, w.heap[b]? = some (.cells vs T (0, 0)) ∧ cs.length ≤ vs.size ∧ ∀ (i : Nat) (a : AV) (v : Value), cs[i]? = some a → vs[i]? = some v → RelV G w a v
 | .map es, b => ∃ ents, w.heap[b]? = some (.map ents es.length) ∧ ents.size = es.length ∧
   (∀ (i : Nat) (e : MapEntry), ents[i]? = some e → e.born = i) ∧ ∀ (i : Nat) (p : AV × AV) (e : MapEntry), es[i]? = some p → ents[i]? = some e → RelV G w p.1 e.key ∧ RelV G w p.2 e.val
 | .tok _ _ _, _ => False
 | .siter s pos, b => w.heap[b]? = some (.stringIter s pos)
 | .miter m n left last, b => ∃ bm seen stepped, G.loc m = some bm ∧ w.heap[b]? = some (.mapIter (some bm) n seen stepped) ∧
   left = (List.range n).filter (fun i => !seen.contains i) ∧ seen.back? = last ∧ (seen.isEmpty = false → stepped = n)
 | .loop st pend env ps a c, b => ∃ l n, w.heap[b]? = some (.loop l) ∧ l.state = lsOf st ∧ l.pending = pend.map jumpOf ∧ l.params.toList = ps ∧
   comp P h n l.assign = some a ∧ comp P h n l.body = some c ∧ (∀ p ∈ ps, p < n) ∧ RelE G w n env l.tmps ∧ noRF l.assign = true ∧ noRF l.body = true
 | .dead, _ => True
def marker : Obj := .deferred none
structure RelS (P : Program) (h : String → Bool) (G : Gh) (w : World) (σ : St) : Prop where
 lt : ∀ id b, G.loc id = some b → id < σ.length
 blk : ∀ id b x, G.loc id = some b → σ[id]? = some x → RelBlk P h G w x b
 inj : ∀ i j b, G.loc i = some b → G.loc j = some b → i = j
 fresh : ∀ id b, G.loc id = some b → G.B0 ≤ b ∧ b < w.heap.size ∧ G.lim b = none ∧ ¬ G.defs b
 lim : ∀ b L, G.lim b = some L → ∃ vs T fr, w.heap[b]? = some (.cells vs T fr) ∧ L ≤ vs.size ∧ (b < G.B0 → G.h0[G.B0 + b]? = some marker)
 tok : ∀ t b n c, G.tok t = some (b, n, c) → ∃ sz ex, σ[t]? = some (.tok sz n ex) ∧ n ≤ c ∧ (ex = false → c = n) ∧
  (ex = true → ∃ bb vs T, b = some ⟨bb, 0, none⟩ ∧ G.own bb = some t ∧ G.lim bb = some (n * sz) ∧ G.B0 ≤ bb ∧
   w.heap[bb]? = some (.cells vs T (0, 0)) ∧ c * sz ≤ vs.size)
 own : ∀ b t, G.own b = some t → b < w.heap.size ∧ ∃ p, G.tok t = some p
 defs : ∀ r, G.defs r → w.heap[r]? = some (.deferred (some [])) ∧ G.B0 ≤ r ∧ G.lim r = none
 base : ∀ b, b < G.B0 → w.heap[b]? = G.h0[b]?
 size : G.B0 ≤ w.heap.size
 res : ∀ id r, G.res id = some r → G.loc id = none ∧ id < σ.length ∧ ∀ cs, r = some cs → σ[id]? = some (.cells cs)
structure Evo (G : Gh) (w : World) (G' : Gh) (w' : World) : Prop where
 loc : ∀ id b, G.loc id = some b → G'.loc id = some b
 lim : ∀ b L, G.lim b = some L → ∃ L', G'.lim b = some L' ∧ L ≤ L' ∧ ∀ k, k < L → w'.cell? ⟨b, k, none⟩ = w.cell? ⟨b, k, none⟩
 tok : ∀ t b n c, G.tok t = some (b, n, c) → ∃ b' n' c', G'.tok t = some (b', n', c') ∧ n ≤ n' ∧ (n' = n → b' = b ∧ c' = c)
 own : ∀ b L t, G.lim b = some L → G'.own b = some t → G.own b = some t
 defs : ∀ r, G.defs r → G'.defs r
 B0 : G'.B0 = G.B0
 h0 : G'.h0 = G.h0
 os : w'.os = w.os
 tape : w'.tape = w.tape
 output : w'.output = w.output
 size : w.heap.size ≤ w'.heap.size
 res : ∀ id r, G.res id = some r → G'.res id = some r
theorem Evo.refl (G : Gh) (w : World) : Evo G w G w :=
 ⟨fun _ _ h => h, fun b L h => ⟨L, h, Nat.le_refl _, fun _ _ => rfl⟩, fun t b n c h => ⟨b, n, c, h, Nat.le_refl _, fun _ => ⟨rfl, rfl⟩⟩,
  fun _ _ _ _ h => h, fun _ h => h, rfl, rfl, rfl, rfl, rfl, Nat.le_refl _, fun _ _ h => h⟩
theorem Evo.trans {G1 w1 G2 w2 G3 w3} (h : Evo G1 w1 G2 w2) (k : Evo G2 w2 G3 w3) : Evo G1 w1 G3 w3 where
 loc id b e := k.loc _ _ (h.loc _ _ e)
 lim b L e := by
  obtain ⟨L2, e2, l2, c2⟩ := h.lim _ _ e
  obtain ⟨L3, e3, l3, c3⟩ := k.lim _ _ e2
  exact ⟨L3, e3, Nat.le_trans l2 l3, fun i hi => (c3 i (Nat.lt_of_lt_of_le hi l2)).trans (c2 i hi)⟩
 tok t b n c e := by
  obtain ⟨b2, n2, c2, e2, l2, q2⟩ := h.tok _ _ _ _ e
  obtain ⟨b3, n3, c3, e3, l3, q3⟩ := k.tok _ _ _ _ e2
  refine ⟨b3, n3, c3, e3, Nat.le_trans l2 l3, fun hn => ?_⟩
  have : n2 = n := by omega
  obtain ⟨a1, a2⟩ := q2 this
  obtain ⟨a3, a4⟩ := q3 (by omega)
  exact ⟨a3.trans a1, a4.trans a2⟩
 own b L t e e3 := by
  obtain ⟨L2, e2, _, _⟩ := h.lim _ _ e
  exact h.own _ _ _ e (k.own _ _ _ e2 e3)
 defs r e := k.defs _ (h.defs _ e)
 B0 := k.B0.trans h.B0
 h0 := k.h0.trans h.h0
 os := k.os.trans h.os
 tape := k.tape.trans h.tape
 output := k.output.trans h.output
 size := Nat.le_trans h.size k.size
 res id r e := k.res _ _ (h.res _ _ e)
theorem tkOk.mono {G w G' w' full tk n base cap} (he : Evo G w G' w') (h : tkOk G full tk n base cap) : tkOk G' full tk n base cap := by
 obtain ⟨h1, h2, h3⟩ := h
 refine ⟨h1, h2, fun t ht => ?_⟩
 obtain ⟨b, m, c, e1, e2, e3⟩ := h3 t ht
 obtain ⟨b', m', c', e1', l, q⟩ := he.tok _ _ _ _ e1
 refine ⟨b', m', c', e1', Nat.le_trans e2 l, fun hf hm => ?_⟩
 have : m = n := by omega
 obtain ⟨q1, q2⟩ := q (by omega)
 obtain ⟨r1, r2⟩ := e3 hf this
 exact ⟨q1.trans r1, q2.trans r2⟩
theorem LitAt.cellOf {G w xs tk b o sz} (h : LitAt G w xs tk b o sz) {i : Nat} {x : AV} {j : Nat} {c : AV} (hx : xs[i]? = some x) (hc : x.cells[j]? = some c) :
  i * sz + j < xs.length * sz := by
 have hi : i < xs.length := (List.getElem?_eq_some_iff.1 hx).1
 have hj : j < sz := by rw [← h.size i x hx]; exact (List.getElem?_eq_some_iff.1 hc).1
 calc i * sz + j < i * sz + sz := by omega
  _ = (i + 1) * sz := by rw [Nat.add_mul]; omega
  _ ≤ xs.length * sz := Nat.mul_le_mul_right _ hi
theorem LitAt.mono {G w G' w' xs tk b o sz} (he : Evo G w G' w') (h : LitAt G w xs tk b o sz) : LitAt G' w' xs tk b o sz := by
 obtain ⟨L, hL, hle⟩ := h.lim
 obtain ⟨L', hL', hle', hcell⟩ := he.lim _ _ hL
 refine ⟨⟨L', hL', by omega⟩, fun t ht => h.own t (he.own _ _ _ hL ht), h.size, fun k hk => ?_⟩
 rw [hcell _ (by omega)]
 exact h.cells k hk
theorem LitAt.same {G w G' w' xs tk b o sz} (he : Evo G w G' w') (h : LitAt G w xs tk b o sz) {i : Nat} {x : AV} {j : Nat} {c : AV} {u : Value} (hx : xs[i]? = some x) (hc : x.cells[j]? = some c)
  (hu : w'.cell? ⟨b, o + (i * sz + j), none⟩ = some u) : w.cell? ⟨b, o + (i * sz + j), none⟩ = some u := by
 obtain ⟨L, hL, hle⟩ := h.lim
 obtain ⟨L', hL', hle', hcell⟩ := he.lim _ _ hL
 have := h.cellOf hx hc
 rw [← hcell _ (by omega)]
 exact hu
theorem RelV.mono {G w G' w' a v} (he : Evo G w G' w') (h : RelV G w a v) : RelV G' w' a v := by
 induction h with
 | undef v => exact .undef v
 | int k n => exact .int k n
 | bool b => exact .bool b
 | str s => exact .str s
 | func h1 h2 _ _ h3 h4 => exact .func h1 h2 h3 h4
 | nilFunc => exact .nilFunc
 | yield h => exact .yield (he.loc _ _ h)
 | ptr h => exact .ptr (he.loc _ _ h)
 | nilPtr => exact .nilPtr
 | lptr ht hi hl _ ih =>
  refine .lptr (fun t e => ?_) hi (hl.mono he) fun i x j c u hx hc hu => ih i x j c u hx hc (hl.same he hx hc hu)
  obtain ⟨⟨b, n, c⟩, hp⟩ := ht t e
  obtain ⟨b', n', c', e', _⟩ := he.tok _ _ _ _ hp
  exact ⟨_, e'⟩
 | nil ht hb => exact .nil (ht.mono he) hb
 | lit ht hl _ ih => exact .lit (ht.mono he) (hl.mono he) fun i x j c u hx hc hu => ih i x j c u hx hc (hl.same he hx hc hu)
 | ref h hb hc hn => exact .ref (he.loc _ _ h) hb hc hn
 | map h => exact .map (he.loc _ _ h)
 | nilMap => exact .nilMap
 | agg h _ ih => exact .agg h ih
 | tuple h _ ih => exact .tuple h ih
theorem RelE.mono {G w G' w' n env tmps} (he : Evo G w G' w') (h : RelE G w n env tmps) : RelE G' w' n env tmps :=
 ⟨h.1, fun t => (h.2 t).mono he⟩
theorem RelBlk.mono {P h G w G' w' x b} (he : Evo G w G' w') (hb : w'.heap[b]? = w.heap[b]?) (hx : RelBlk P h G w x b) : RelBlk P h G' w' x b := by
 cases x with
 | cells cs =>
  obtain ⟨vs, T, e, l, r⟩ := hx
  exact ⟨vs, T, hb.trans e, l, fun i a v h1 h2 => (r i a v h1 h2).mono he⟩
 | map es =>
  obtain ⟨ents, e, l, q, r⟩ := hx
  exact ⟨ents, hb.trans e, l, q, fun i p e h1 h2 => ⟨(r i p e h1 h2).1.mono he, (r i p e h1 h2).2.mono he⟩⟩
 | tok _ _ _ => exact hx
 | siter s pos => exact hb.trans hx
 | miter m n left last =>
  obtain ⟨bm, seen, stepped, h1, h2, h3⟩ := hx
  exact ⟨bm, seen, stepped, he.loc _ _ h1, hb.trans h2, h3⟩
 | loop st pend env ps a c =>
  obtain ⟨l, n, h1, h2, h3, h4, h5, h6, h7, h8, h9⟩ := hx
  exact ⟨l, n, hb.trans h1, h2, h3, h4, h5, h6, h7, h8.mono he, h9⟩
 | dead => trivial
end Go.Am
