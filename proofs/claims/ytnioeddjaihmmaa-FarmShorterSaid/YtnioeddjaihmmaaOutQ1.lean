/- A part of the proofs: an abstract machine, or what functions come to on it. -/
import GoSem.Dispatch
set_option linter.unusedVariables false
set_option linter.unusedSimpArgs false
set_option linter.defProp false
namespace Go.Am
inductive AV where
 | undef
 | int (k : IntKind) (n : Int)
 | bool (b : Bool)
 | str (s : ByteArray)
 | func (f : FuncId) (first cap : List AV)
 | nilFunc
 | yield (id : Nat)
 | ptr (id off : Nat)
 | nilPtr
 /-- into the i-th element of a list, of the token's block -/
 | lptr (xs : List AV) (i off : Nat) (tk : Option Nat)
 /-- a slice that reads az a list; 'full': its capacity is its length; 'tk': the token of its block, if it is known to have one -/
 | lit (xs : List AV) (full : Bool) (tk : Option Nat)
 | ref (id off len sz : Nat)
 | map (id : Nat)
 | nilMap
 | agg (cells : List AV)
 | tuple (vs : List AV)
 deriving Inhabited
def AV.cells : AV → List AV
 | .agg cs => cs
 | v => [v]
def AV.cell : AV → Bool
 | .undef | .agg _ | .tuple _ => false
 | _ => true
inductive SK where
 | i | b | s
 deriving DecidableEq, Repr, Inhabited
inductive EqTy where
 | one (k : SK)
 | agg (ks : List SK)
 deriving DecidableEq, Repr, Inhabited
abbrev Env := List (Nat × AV)
def Env.get : Env → Nat → AV
 | [], _ => .undef
 | (k, v) :: e, t => if k = t then v else Env.get e t
def Env.put (e : Env) (d : Option Nat) (v : AV) : Env :=
 match d with
 | some d => (d, v) :: e
 | none => e
inductive AOpd where
 | t (n : Nat)
 | c (v : AV)
 deriving Inhabited
def AOpd.ev (e : Env) : AOpd → AV
 | .t n => Env.get e n
 | .c v => v
inductive AOp where
 | mov (x : AOpd)
 | pick (c a b : AOpd)
 | alloc (zero : List AV)
 | box (n : Nat) (x : AOpd)
 | build (zero : List AV) (parts : List (Nat × Nat × AOpd))
 | mklit (sz : Nat) (xs : List AOpd)
 | mkref (sz : Nat) (xs : List AOpd)
 | load (sh : Option Nat) (x : AOpd)
 | store (n : Nat) (a x : AOpd)
 | nilCheck (x : AOpd)
 | bin (op : BinOp) (x y : AOpd)
 | eql (sh : EqTy) (neg : Bool) (x y : AOpd)
 | not (x : AOpd)
 | neg (x : AOpd)
 | conv (k : IntKind) (x : AOpd)
 | mkfun (f : FuncId) (first cap : List AOpd)
 | mkmap
 | mkslice (zero : List AV) (bytes : Nat) (l c : AOpd)
 | slicev (sz : Nat) (x : AOpd) (lo hi mx : Option AOpd)
 | slicea (n sz : Nat) (x : AOpd) (lo hi : Option AOpd)
 | faddr (x : AOpd) (off : Nat)
 | field (x : AOpd) (off : Nat) (sh : Option Nat)
 | iaddr (arr : Option Nat) (sz : Nat) (x i : AOpd)
 | index (len sz : Nat) (sh : Option Nat) (x i : AOpd)
 | sindex (x i : AOpd)
 | lookup (sh : EqTy) (ok : Bool) (zero : AV) (m k : AOpd)
 | mapset (sh : EqTy) (m k v : AOpd)
 | srange (x : AOpd)
 | snext (x : AOpd)
 | mrange (x : AOpd)
 | mnext (x : AOpd)
 | entry (x : AOpd)
 | ext (x : AOpd) (i : Nat)
 /-- of a string (0), a slice (1), a map (2) -/
 | len (k : Nat) (x : AOpd)
 | append (sz bytes : Nat) (x y : AOpd)
 | apref (sz bytes : Nat) (x y : AOpd)
 | copy (sz : Nat) (x y : AOpd)
 | min (xs : List AOpd)
 | max (xs : List AOpd)
 | call (f : AOpd) (args : List AOpd)
 deriving Inhabited
structure AOper where
 dst : Option Nat
 op : AOp
 /-- the temporary that must hold this bool -/
 guard : Option (Nat × Bool)
 deriving Inhabited
structure ADOper where
 o : AOper
 lo : Nat
 hi : Nat
 deriving Inhabited
inductive AJump where
 | ret
 | exit (id : Nat)
 deriving DecidableEq, Repr, Inhabited
inductive ACode where
 | skip
 | reg (ops : List AOper)
 | dreg (ops : List ADOper)
 | seq (a b : ACode)
 | cond (c : AOpd) (a b : ACode)
 | block (id : Nat) (b : ACode)
 | loop (b : ACode)
 | rangeFunc (f : AOpd) (params : List Nat) (assign body : ACode)
 | jump (j : AJump)
 | scope (b : ACode)
 deriving Inhabited
inductive LS where
 | ready | busy | done
 deriving DecidableEq, Repr, Inhabited
inductive ABlk where
 | cells (cs : List AV)
 | map (es : List (AV × AV))
 /-- a token: the size of an element, how many elements the slice has that may grow, and whether its block is no one else's -/
 | tok (sz n : Nat) (excl : Bool)
 | siter (s : ByteArray) (pos : Nat)
 /-- an iterator over a map that had so many entries: the places of those that are to come, and of the last one -/
 | miter (m n : Nat) (left : List Nat) (last : Option Nat)
 | loop (st : LS) (pend : Option AJump) (env : Env) (params : List Nat) (assign body : ACode)
 | dead
 deriving Inhabited
abbrev St := List ABlk
inductive ARes where
 | tmp (t : Nat)
 | cell (t : Nat) (sh : Option Nat)
 deriving Inhabited
structure AFunc where
 ntmps : Nat
 results : List ARes
 body : ACode
 deriving Inhabited
def shaped (sh : Option Nat) (cs : List AV) (off : Nat) : Option AV :=
 match sh with
 | none => cs[off]?
 | some n => if off + n ≤ cs.length then some (.agg ((cs.drop off).take n)) else none
def setCells (cs : List AV) (off : Nat) (vs : List AV) : Option (List AV) :=
 if off + vs.length ≤ cs.length then some (cs.take off ++ vs ++ cs.drop (off + vs.length)) else none
def eqCell : SK → AV → AV → Option Bool
 | .i, .int k a, .int k' b => if k = k' then some (a == b) else none
 | .b, .bool a, .bool b => some (a == b)
 | .s, .str a, .str b => some (a.toList == b.toList)
 | _, _, _ => none
def eqCells : List SK → List AV → List AV → Option Bool
 | [], [], [] => some true
 | k :: ks, a :: x, b :: y =>
  match eqCell k a b, eqCells ks x y with
  | some p, some q => some (p && q)
  | _, _ => none
 | _, _, _ => none
def eqSh : EqTy → AV → AV → Option Bool
 | .one k, x, y => eqCell k x y
 | .agg ks, .agg cs, .agg ds => eqCells ks cs ds
 | _, _, _ => none
def bits (op : BinOp) (k : IntKind) (x y : Int) : Int :=
 let a := BitVec.ofInt k.bits x
 let b := BitVec.ofInt k.bits y
 match op with
 | .and => k.wrap (a &&& b).toNat
 | .or => k.wrap (a ||| b).toNat
 | .xor => k.wrap (a ^^^ b).toNat
 | _ => k.wrap (a &&& ~~~b).toNat
def binInt (op : BinOp) (k : IntKind) (a b : Int) : Option AV :=
 match op with
 | .add => some (.int k (k.wrap (a + b)))
 | .sub => some (.int k (k.wrap (a - b)))
 | .mul => some (.int k (k.wrap (a * b)))
 | .quo => if b = 0 then none else some (.int k (k.wrap (a.tdiv b)))
 | .rem => if b = 0 then none else some (.int k (a.tmod b))
 | .and => some (.int k (bits .and k a b))
 | .or => some (.int k (bits .or k a b))
 | .xor => some (.int k (bits .xor k a b))
 | .andNot => some (.int k (bits .andNot k a b))
 | .lss => some (.bool (decide (a < b)))
 | .leq => some (.bool (decide (a ≤ b)))
 | .gtr => some (.bool (decide (a > b)))
 | .geq => some (.bool (decide (a ≥ b)))
 | _ => none
def binAV (op : BinOp) (x y : AV) : Option AV :=
 match x, y with
 | .int k a, .int k' b =>
  match op with
  | .shl => if b < 0 then none else some (.int k (k.wrap (a * 2 ^ (Nat.min b.toNat k.bits))))
  | .shr => if b < 0 then none else some (.int k (a.fdiv (2 ^ (Nat.min b.toNat k.bits))))
  | op => if k = k' then binInt op k a b else none
 | _, _ => none
def intOf : AV → Option Int
 | .int _ n => some n
 | _ => none
def boundOr (e : Env) (d : Nat) : Option AOpd → Option Int
 | none => some d
 | some x => intOf (x.ev e)
def allCells (n : Nat) (xs : List AV) : Bool := xs.all fun x => x.cells.length == n && x.cells.all (·.cell)
def sized (n : Nat) : AV → Bool
 | .ref _ _ _ sz => sz == n
 | _ => true
def buildCells (e : Env) (cs : List AV) : List (Nat × Nat × AOpd) → Option (List AV)
 | [] => some cs
 | (off, n, x) :: rest =>
  if ((x.ev e).cells.length == n && (x.ev e).cells.all (·.cell)) = true then
   match setCells cs off (x.ev e).cells with
   | some cs => buildCells e cs rest
   | none => none
  else none
def cellsAt (σ : St) (id : Nat) : Option (List AV) :=
 match σ[id]? with
 | some (.cells cs) => some cs
 | _ => none
def chop (sz : Nat) : Nat → List AV → List AV
 | 0, _ => []
 | n + 1, cs => (if sz = 1 ∧ (cs.headD .undef).cell = true then cs.headD .undef else .agg (cs.take sz)) :: chop sz n (cs.drop sz)
def view (σ : St) : AV → Option (List AV)
 | .lit xs _ _ => some xs
 | .ref id off len sz =>
  match cellsAt σ id with
  | some cs => if off + len * sz ≤ cs.length then some (chop sz len (cs.drop off)) else none
  | none => none
 | _ => none
def findKey (sh : EqTy) (k : AV) : List (AV × AV) → Option (Option AV)
 | [] => some none
 | (k', v) :: es =>
  match eqSh sh k k' with
  | some true => some (some v)
  | some false => findKey sh k es
  | none => none
def setKey (sh : EqTy) (k v : AV) : List (AV × AV) → Option (List (AV × AV))
 | [] => some [(k, v)]
 | (k', v') :: es =>
  match eqSh sh k k' with
  | some true => some ((k, v) :: es)
  | some false => (setKey sh k v es).map ((k', v') :: ·)
  | none => none
def lookAV (sh : EqTy) (σ : St) (m k : AV) : Option (Option AV) :=
 match m with
 | .nilMap => if (eqSh sh k k).isSome = true then some none else none
 | .map id =>
  match σ[id]? with
  | some (.map es) => if (eqSh sh k k).isSome = true then findKey sh k es else none
  | _ => none
 | _ => none
def loadAV (sh : Option Nat) (σ : St) : AV → Option AV
 | .ptr id off =>
  match cellsAt σ id with
  | some cs => shaped sh cs off
  | none => none
 | .lptr xs i off _ =>
  match xs[i]? with
  | some x => shaped sh x.cells off
  | none => none
 | _ => none
def storeAV (n : Nat) (σ : St) (a v : AV) : Option St :=
 match a with
 | .ptr id off =>
  if (v.cells.length == n && v.cells.all (·.cell)) = true then
   match cellsAt σ id with
   | some cs =>
    match setCells cs off v.cells with
    | some cs' => some (σ.set id (.cells cs'))
    | none => none
   | none => none
  else none
 | _ => none
def cutFits (sz : Nat) (xs : List AV) (l h : Int) : Bool :=
 decide (l = h) || (match xs[l.toNat]? with | some x => x.cells.length == sz | none => false)
def sliceAV (sz : Nat) (x : AV) (l h : Int) (full : Bool) : Option AV :=
 match x with
 | .lit xs fl tk =>
  if 0 ≤ l ∧ l ≤ h ∧ h ≤ xs.length ∧ cutFits sz xs l h = true then
   some (.lit ((xs.drop l.toNat).take (h.toNat - l.toNat)) (full || (fl && decide (h = xs.length))) tk)
  else none
 | .ref id off len sz' =>
  if 0 ≤ l ∧ l ≤ h ∧ h ≤ len ∧ sz' = sz then some (.ref id (off + l.toNat * sz) (h.toNat - l.toNat) sz) else none
 | _ => none
def lenAV (k : Nat) (σ : St) (x : AV) : Option Nat :=
 match k, x with
 | 0, .str s => some s.size
 | 1, .lit xs _ _ => some xs.length
 | 1, .ref _ _ len _ => some len
 | 2, .nilMap => some 0
 | 2, .map id => match σ[id]? with | some (.map es) => some es.length | _ => none
 | _, _ => none
def room : Nat := 2 ^ 47
def appendAV (sz bytes : Nat) (σ : St) (x y : AV) : Option (AV × St) :=
 match x, view σ y with
 | .lit xs full tk, some ys =>
  if ys.length = 0 then some (.lit xs full tk, σ) else
  if (sized sz y && allCells sz xs && allCells sz ys && decide ((xs.length + ys.length) * bytes ≤ room) && decide (xs.length + ys.length ≤ room)) = true then
   if full = true then some (.lit (xs ++ ys) false (some σ.length), σ ++ [.tok sz (xs.length + ys.length) true])
   else
    match tk with
    | some t =>
     match σ[t]? with
     | some (.tok sz' n _) => if sz' = sz ∧ n = xs.length then some (.lit (xs ++ ys) false (some t), σ.set t (.tok sz (xs.length + ys.length) true)) else none
     | _ => none
    | none => none
  else none
 | _, _ => none
def aprefAV (sz bytes : Nat) (σ : St) (x y : AV) : Option (AV × St) :=
 match x, view σ y with
 | .lit xs full tk, some ys =>
  if ys.length = 0 then some (.lit xs full tk, σ) else
  if (full && sized sz y && allCells sz (xs ++ ys) && decide ((xs.length + ys.length) * bytes ≤ room) && decide (xs.length + ys.length ≤ room)) = true then
   some (.ref σ.length 0 (xs.length + ys.length) sz, σ ++ [.cells ((xs ++ ys).flatMap AV.cells)])
  else none
 | _, _ => none
def copyAV (sz : Nat) (σ : St) (x y : AV) : Option (AV × St) :=
 match x, view σ y with
 | .ref id off len sz', some ys =>
  let zs := ys.take len
  if (decide (sz' = sz) && sized sz y && allCells sz ys) = true then
   match cellsAt σ id with
   | some cs =>
    match setCells cs off (zs.flatMap AV.cells) with
    | some cs' => some (.int .i64 (Nat.min ys.length len), σ.set id (.cells cs'))
    | none => none
   | none => none
  else none
 | _, _ => none
def minFrom (k : IntKind) (a : Int) : List AV → Option AV
 | [] => some (.int k a)
 | .int k' b :: rest => if k' = k then minFrom k (if b < a then b else a) rest else none
 | _ => none
def minAV : List AV → Option AV
 | .int k a :: rest => minFrom k a rest
 | _ => none
def maxFrom (k : IntKind) (a : Int) : List AV → Option AV
 | [] => some (.int k a)
 | .int k' b :: rest => if k' = k then maxFrom k (if b > a then b else a) rest else none
 | _ => none
def maxAV : List AV → Option AV
 | .int k a :: rest => maxFrom k a rest
 | _ => none
def aop (op : AOp) (e : Env) (σ : St) : Option (AV × St) :=
 match op with
 | .mov x => some (x.ev e, σ)
 | .pick c a b => match c.ev e with | .bool true => some (a.ev e, σ) | .bool false => some (b.ev e, σ) | _ => none
 | .alloc zero => some (.ptr σ.length 0, σ ++ [.cells zero])
 | .box n x => if ((x.ev e).cells.length == n && (x.ev e).cells.all (·.cell)) = true then some (.ptr σ.length 0, σ ++ [.cells (x.ev e).cells]) else none
 | .build zero parts => match buildCells e zero parts with | some cs => some (.agg cs, σ) | none => none
 | .mklit sz xs => if allCells sz (xs.map (·.ev e)) = true then some (.lit (xs.map (·.ev e)) true none, σ) else none
 | .mkref sz xs => if allCells sz (xs.map (·.ev e)) = true then some (.ref σ.length 0 xs.length sz, σ ++ [.cells ((xs.map (·.ev e)).flatMap AV.cells)]) else none
 | .load sh x => match loadAV sh σ (x.ev e) with | some v => some (v, σ) | none => none
 | .store n a x => match storeAV n σ (a.ev e) (x.ev e) with | some σ' => some (.tuple [], σ') | none => none
 | .nilCheck x => match x.ev e with | .ptr i o => some (.ptr i o, σ) | .lptr xs i o t => some (.lptr xs i o t, σ) | .func f a b => some (.func f a b, σ) | .yield i => some (.yield i, σ) | _ => none
 | .bin op x y => match binAV op (x.ev e) (y.ev e) with | some v => some (v, σ) | none => none
 | .eql sh neg x y => match eqSh sh (x.ev e) (y.ev e) with | some b => some (.bool (if neg then !b else b), σ) | none => none
 | .not x => match x.ev e with | .bool b => some (.bool !b, σ) | _ => none
 | .neg x => match x.ev e with | .int k n => some (.int k (k.wrap (0 - n)), σ) | _ => none
 | .conv k x => match x.ev e with | .int _ n => some (.int k (k.wrap n), σ) | _ => none
 | .mkfun f first cap => some (.func f (first.map (·.ev e)) (cap.map (·.ev e)), σ)
 | .mkmap => some (.map σ.length, σ ++ [.map []])
 | .mkslice zero bytes l c =>
  match l.ev e, c.ev e with
  | .int _ n, .int _ m => if 0 ≤ n ∧ n = m ∧ n * bytes ≤ room ∧ n ≤ room then some (.ref σ.length 0 n.toNat zero.length, σ ++ [.cells (List.replicate n.toNat zero).flatten]) else none
  | _, _ => none
 | .slicev sz x lo hi mx =>
  match lenAV 1 σ (x.ev e) with
  | none => none
  | some n =>
   match boundOr e 0 lo, boundOr e n hi, mx.map (fun m => intOf (m.ev e)) with
   | some l, some h, none => (match sliceAV sz (x.ev e) l h false with | some v => some (v, σ) | none => none)
   | some l, some h, some (some m) => if m = h ∧ hi.isSome = true then (match sliceAV sz (x.ev e) l h true with | some v => some (v, σ) | none => none) else none
   | _, _, _ => none
 | .slicea n sz x lo hi =>
  match x.ev e, boundOr e 0 lo, boundOr e n hi with
  | .ptr id off, some l, some h => if 0 ≤ l ∧ l ≤ h ∧ h ≤ n then some (.ref id (off + l.toNat * sz) (h.toNat - l.toNat) sz, σ) else none
  | _, _, _ => none
 | .faddr x off => match x.ev e with | .ptr id o => some (.ptr id (o + off), σ) | .lptr xs i o t => some (.lptr xs i (o + off) t, σ) | _ => none
 | .field x off sh => match x.ev e with | .agg cs => (match shaped sh cs off with | some v => some (v, σ) | none => none) | _ => none
 | .iaddr arr sz x i =>
  match intOf (i.ev e), arr, x.ev e with
  | some j, some n, .ptr id off => if 0 ≤ j ∧ j < n then some (.ptr id (off + j.toNat * sz), σ) else none
  | some j, some n, .lptr xs q off t => if 0 ≤ j ∧ j < n then some (.lptr xs q (off + j.toNat * sz) t, σ) else none
  | some j, none, .lit xs _ t =>
   match xs[j.toNat]? with
   | some y => if 0 ≤ j ∧ y.cells.length = sz then some (.lptr xs j.toNat 0 t, σ) else none
   | none => none
  | some j, none, .ref id off len sz' => if 0 ≤ j ∧ j < len ∧ sz' = sz then some (.ptr id (off + j.toNat * sz), σ) else none
  | _, _, _ => none
 | .index n sz sh x i =>
  match intOf (i.ev e), x.ev e with
  | some j, .agg cs => if 0 ≤ j ∧ j < n then (match shaped sh cs (j.toNat * sz) with | some v => some (v, σ) | none => none) else none
  | _, _ => none
 | .sindex x i =>
  match intOf (i.ev e), x.ev e with
  | some j, .str s => if 0 ≤ j then (match s[j.toNat]? with | some b => some (.int .u8 b.toNat, σ) | none => none) else none
  | _, _ => none
 | .lookup sh ok zero m k =>
  match lookAV sh σ (m.ev e) (k.ev e) with
  | some (some v) => some (if ok then .tuple [v, .bool true] else v, σ)
  | some none => some (if ok then .tuple [zero, .bool false] else zero, σ)
  | none => none
 | .mapset sh m k v =>
  match m.ev e with
  | .map id =>
   if (eqSh sh (k.ev e) (k.ev e)).isSome = false then none else
   match σ[id]? with
   | some (.map es) => (match setKey sh (k.ev e) (v.ev e) es with | some es' => some (.tuple [], σ.set id (.map es')) | none => none)
   | _ => none
  | _ => none
 | .srange x => match x.ev e with | .str s => some (.ptr σ.length 0, σ ++ [.siter s 0]) | _ => none
 | .snext x =>
  match x.ev e with
  | .ptr id 0 =>
   match σ[id]? with
   | some (.siter s pos) =>
    if pos < s.size then
     some (.tuple [.bool true, .int .i64 pos, .int .i32 (Utf8.decode s pos).1], σ.set id (.siter s (pos + (Utf8.decode s pos).2)))
    else some (.tuple [.bool false], σ)
   | _ => none
  | _ => none
 | .mrange x =>
  match x.ev e with
  | .map id => (match σ[id]? with | some (.map es) => some (.ptr σ.length 0, σ ++ [.miter id es.length (List.range es.length) none]) | _ => none)
  | _ => none
 | .mnext _ => none
 | .entry x =>
  match x.ev e with
  | .ptr id 0 =>
   match σ[id]? with
   | some (.miter m n _ (some i)) =>
    match σ[m]? with
    | some (.map es) =>
     if es.length = n then
      match es[i]? with
      | some (k, v) => some (.tuple [k, v], σ)
      | none => none
     else none
    | _ => none
   | _ => none
  | _ => none
 | .ext x i => match x.ev e with | .tuple vs => (match vs[i]? with | some v => some (v, σ) | none => none) | _ => none
 | .len k x => match lenAV k σ (x.ev e) with | some n => some (.int .i64 n, σ) | none => none
 | .append sz bytes x y => appendAV sz bytes σ (x.ev e) (y.ev e)
 | .apref sz bytes x y => aprefAV sz bytes σ (x.ev e) (y.ev e)
 | .copy sz x y => copyAV sz σ (x.ev e) (y.ev e)
 | .min xs => match minAV (xs.map (·.ev e)) with | some v => some (v, σ) | none => none
 | .max xs => match maxAV (xs.map (·.ev e)) with | some v => some (v, σ) | none => none
 | .call _ _ => none
mutual
def okV (m : Nat) : AV → Prop
 | .func _ first cap => okVs m first ∧ okVs m cap
 | .yield id | .ptr id _ | .ref id _ _ _ | .map id => id < m
 | .lptr xs _ _ tk | .lit xs _ tk => (∀ t, tk = some t → t < m) ∧ okVs m xs
 | .agg cs => okVs m cs
 | .tuple vs => okVs m vs
 | _ => True
def okVs (m : Nat) : List AV → Prop
 | [] => True
 | v :: vs => okV m v ∧ okVs m vs
end
def okBlk (m : Nat) : ABlk → Prop
 | .cells cs => okVs m cs
 | .map es => ∀ p ∈ es, okV m p.1 ∧ okV m p.2
 | .tok _ _ _ | .siter _ _ | .dead => True
 | .miter id _ _ _ => id < m
 | .loop _ _ _ _ _ _ => False
mutual
def snap (σ : St) (m : Nat) : Nat → AV → Option AV
 | d, .func f first cap => match snaps σ m d first, snaps σ m d cap with | some a, some b => some (.func f a b) | _, _ => none
 | _, .yield id => if id < m then some (.yield id) else none
 | _, .ptr id off => if id < m then some (.ptr id off) else none
 | _, .map id => if id < m then some (.map id) else none
 | 0, .ref id off len sz => if id < m then some (.ref id off len sz) else none
 | d + 1, .ref id off len sz =>
  if id < m then some (.ref id off len sz) else
  match view σ (.ref id off len sz) with
  | some xs => if (decide (0 < sz) && allCells sz xs) = true then (match snaps σ m d xs with | some ys => some (.lit ys false none) | none => none) else none
  | none => none
 | d, .lit xs full tk =>
  match snaps σ m d xs with
  | some ys => some (.lit ys full (tk.filter (· < m)))
  | none => none
 | d, .agg cs => match snaps σ m d cs with | some ys => some (.agg ys) | none => none
 | d, .tuple vs => match snaps σ m d vs with | some ys => some (.tuple ys) | none => none
 | d, .lptr xs i off tk => match snaps σ m d xs with | some ys => some (.lptr ys i off (tk.filter (· < m))) | none => none
 | _, v => some v
termination_by d v => (d, SizeOf.sizeOf v)
def snaps (σ : St) (m : Nat) : Nat → List AV → Option (List AV)
 | _, [] => some []
 | d, v :: vs => match snap σ m d v, snaps σ m d vs with | some a, some b => some (a :: b) | _, _ => none
termination_by d vs => (d, SizeOf.sizeOf vs)
end
structure Out where
 j : Option AJump
 env : Env
 σ : St
 v : AV
structure ARead where
 lo : Nat
 hi : Nat
 op : AOp
 env : Env
 v : AV
inductive Task where
 | code (c : ACode) (env : Env) (σ : St)
 | ops (os : List AOper) (env : Env) (σ : St)
 | dops (os : List ADOper) (env : Env) (σ : St) (next : Nat) (hist : List St) (reads : List ARead)
 | call (f : FuncId) (args : List AV) (σ : St)
 | callv (f : AV) (args : List AV) (σ : St)
 | chain (az : List ACode) (env : Env) (σ : St)
def AOper.wanted (o : AOper) (env : Env) : Option Bool :=
 match o.guard with
 | none => some true
 | some (t, want) =>
  match Env.get env t with
  | .bool b => some (b == want)
  | .tuple [] => some false
  | _ => none
def allocsOf (os : List ADOper) : List ABlk :=
 os.filterMap fun o => match o.o.op with | .alloc z => some (.cells z) | _ => none
def ARead.ok (r : ARead) (hist : List St) : Prop :=
 ∀ j s, r.lo ≤ j → j ≤ r.hi → hist[j]? = some s → aop r.op r.env s = some (r.v, s)
def AOp.reads : AOp → Bool
 | .load .. | .lookup .. | .len .. | .slicev .. | .entry _ => true
 | _ => false
def AOp.allocs : AOp → Bool
 | .alloc _ => true
 | _ => false
def AOp.calls : AOp → Bool
 | .call .. | .mnext _ => true
 | _ => false
def AOp.acts : AOp → Bool
 | .store .. | .append .. | .apref .. | .mkref .. | .copy .. | .box .. | .mkmap | .mkslice .. | .mapset .. | .srange _ | .snext _ | .mrange _ | .mnext _ | .call .. => true
 | _ => false
def argsEnv : Nat → List AV → Env
 | _, [] => []
 | k, v :: vs => (k, v) :: argsEnv (k + 1) vs
def resAV (env : Env) (σ : St) : List ARes → Option (List AV)
 | [] => some []
 | .tmp t :: rs => (resAV env σ rs).map (Env.get env t :: ·)
 | .cell t sh :: rs =>
  match loadAV sh σ (Env.get env t), resAV env σ rs with
  | some v, some vs => some (v :: vs)
  | _, _ => none
def resOf (rs : List ARes) (env : Env) (σ : St) : Option AV :=
 match resAV env σ rs with
 | some [v] => some v
 | some vs => some (.tuple vs)
 | none => none
def blkKept (σ σ' : St) (m i : Nat) : Prop :=
 σ'[i]? = σ[i]? ∨ (∃ b, σ'[i]? = some b ∧ okBlk m b) ∨
  ∃ st pe st' pe' env ps a b, σ[i]? = some (.loop st pe env ps a b) ∧ σ'[i]? = some (.loop st' pe' env ps a b)
mutual
def clr : AV → AV
 | .func f a b => .func f (clrs a) (clrs b)
 | .lptr xs i off tk => .lptr (clrs xs) i off tk
 | .lit xs full tk => .lit (clrs xs) (full && tk.isSome) tk
 | .agg cs => .agg (clrs cs)
 | .tuple vs => .tuple (clrs vs)
 | .undef => .undef
 | .int k n => .int k n
 | .bool b => .bool b
 | .str s => .str s
 | .nilFunc => .nilFunc
 | .yield i => .yield i
 | .ptr i o => .ptr i o
 | .nilPtr => .nilPtr
 | .ref i o l s => .ref i o l s
 | .map i => .map i
 | .nilMap => .nilMap
def clrs : List AV → List AV
 | [] => []
 | v :: vs => clr v :: clrs vs
end
def Leave (σ σ' : St) (v : AV) (Q : Out → Prop) : Prop :=
 Q ⟨none, [], σ', v⟩ ∨
 ∃ d v' v'', snap σ' σ.length d v = some v' ∧ (v'' = v' ∨ v'' = clr v') ∧ (∀ i, i < σ.length → blkKept σ σ' σ.length i) ∧ σ.length ≤ σ'.length ∧ Q ⟨none, [], σ'.take σ.length, v''⟩
def Trims (σ : St) (env' : Env) (σ' : St) (env'' : Env) (m : Nat) : Prop :=
 σ.length ≤ m ∧ m ≤ σ'.length ∧ (∀ p ∈ env'', p.2 = Env.get env' p.1 ∧ okV m p.2) ∧
 ∀ i, i < m → (i < σ.length ∧ blkKept σ σ' m i) ∨ ∃ b, σ'[i]? = some b ∧ okBlk m b
def bindPs (env : Env) : List Nat → List AV → Env
 | p :: ps, v :: vs => bindPs (Env.put env (some p) v) ps vs
 | _, _ => env
mutual
def Scal : AV → Prop
 | .int _ _ | .bool _ | .str _ => True
 | .lit [] _ none => True
 | .agg cs => Scals cs
 | .tuple vs => Scals vs
 | _ => False
def Scals : List AV → Prop
 | [] => True
 | v :: vs => Scal v ∧ Scals vs
end
def Thin (σ : St) (m : Nat) (v v' : AV) : Prop := (v' = v ∧ okV m v) ∨ ∃ d v1, snap σ m d v = some v1 ∧ (v' = v1 ∨ v' = clr v1)
def Thins (σ : St) (m : Nat) : List AV → List AV → Prop
 | [], [] => True
 | a :: az, b :: bs => Thin σ m a b ∧ Thins σ m az bs
 | _, _ => False
def ThinE (σ : St) (m : Nat) (env : Env) : Env → Prop
 | [] => True
 | (t, v) :: e => Thin σ m (Env.get env t) v ∧ ThinE σ m env e
def ThinB (σ : St) (env' : Env) (σ' : St) (m i : Nat) (b : ABlk) : Prop :=
 (i < σ.length ∧ blkKept σ σ' m i ∧ σ'[i]? = some b) ∨ (σ'[i]? = some b ∧ okBlk m b) ∨
  ∃ cs cs', σ'[i]? = some (.cells cs) ∧ b = .cells cs' ∧ Thins σ' m cs cs' ∧ (σ.length ≤ i ∨ ∃ t off, Env.get env' t = .ptr i off)
def Trims2 (σ : St) (env' : Env) (σ' : St) (env'' : Env) (σ'' : St) : Prop :=
 σ.length ≤ σ''.length ∧ σ''.length ≤ σ'.length ∧ ThinE σ' σ''.length env' env'' ∧ ∀ i, i < σ''.length → ∃ b, σ''[i]? = some b ∧ ThinB σ env' σ' σ''.length i b
mutual
def noTok (t : Nat) : AV → Prop
 | .func _ first cap => noToks t first ∧ noToks t cap
 | .lptr xs _ _ tk | .lit xs _ tk => tk ≠ some t ∧ noToks t xs
 | .agg cs => noToks t cs
 | .tuple vs => noToks t vs
 | _ => True
def noToks (t : Nat) : List AV → Prop
 | [] => True
 | v :: vs => noTok t v ∧ noToks t vs
end
def noTokB (t : Nat) : ABlk → Prop
 | .cells cs => noToks t cs
 | .map es => ∀ p ∈ es, noTok t p.1 ∧ noTok t p.2
 | .loop _ _ _ _ _ _ => False
 | _ => True
def seqs : List ACode → ACode → ACode
 | [], c => c
 | a :: az, c => .seq a (seqs az c)
def Thaws (n0 : Nat) (env : Env) (σ : St) (env' : Env) (σ' : St) : Prop :=
 ∃ t p xs sz, n0 ≤ t ∧ allCells sz xs = true ∧ σ[t]? = some (.tok sz xs.length true) ∧ env = (p, .lit xs false (some t)) :: env.tail ∧ noToks t xs ∧ (∀ q ∈ env.tail, noTok t q.2) ∧ (∀ i b, i ≠ t → σ[i]? = some b → noTokB t b) ∧
  env' = (p, .ref t 0 xs.length sz) :: env.tail ∧ σ' = σ.set t (.cells (xs.flatMap AV.cells))
inductive Run (T : FuncId → Option AFunc) : Task → (Out → Prop) → Prop where
 | mono {t Q R} (h : Run T t R) (hq : ∀ o, R o → Q o) : Run T t Q
 | skip {env σ Q} (h : Q ⟨none, env, σ, .undef⟩) : Run T (.code .skip env σ) Q
 | jump {j env σ Q} (h : Q ⟨some j, env, σ, .undef⟩) : Run T (.code (.jump j) env σ) Q
 | seq {a b env σ Q R} (h : Run T (.code a env σ) R) (h1 : ∀ o, R o → o.j = none → Run T (.code b o.env o.σ) Q) (h2 : ∀ o, R o → o.j ≠ none → Q o) :
   Run T (.code (.seq a b) env σ) Q
 | cond {c x y env σ Q} (b : Bool) (hc : c.ev env = .bool b) (h : Run T (.code (if b then x else y) env σ) Q) : Run T (.code (.cond c x y) env σ) Q
 | block {id b env σ Q R} (h : Run T (.code b env σ) R) (h1 : ∀ o, R o → Q (if o.j = some (.exit id) then { o with j := none } else o)) :
   Run T (.code (.block id b) env σ) Q
 | loop {b env σ Q R} (h : Run T (.code b env σ) R) (h1 : ∀ o, R o → o.j = none → Run T (.code (.loop b) o.env o.σ) Q) (h2 : ∀ o, R o → o.j ≠ none → Q o) :
   Run T (.code (.loop b) env σ) Q
 | scope {b env σ Q} (h : Run T (.code b env σ) Q) : Run T (.code (.scope b) env σ) Q
 | reg {os env σ Q} (h : Run T (.ops os env σ) Q) : Run T (.code (.reg os) env σ) Q
 | dreg {os env σ Q} (h : Run T (.dops os env (σ ++ allocsOf os) σ.length [σ ++ allocsOf os] []) Q) : Run T (.code (.dreg os) env σ) Q
 | rangeFunc {f g first cap ps a b env σ Q R} (hf : f.ev env = .func g first cap)
   (h : Run T (.call g (first ++ [.yield σ.length] ++ cap) (σ ++ [.loop .ready none env ps a b])) R)
   (h1 : ∀ o, R o → ∃ st pend env' ps' a' b', o.σ[σ.length]? = some (.loop st pend env' ps' a' b') ∧ st ≠ .busy ∧ Q ⟨pend, env, o.σ.set σ.length .dead, .undef⟩) :
   Run T (.code (.rangeFunc f ps a b) env σ) Q
 /-- What the code has made and nobody needs is forgotten. -/
 | trim {c env σ Q R} (h : Run T (.code c env σ) R) (h1 : ∀ o, R o → ∃ env' m, Trims σ o.env o.σ env' m ∧ Q ⟨o.j, env', o.σ.take m, o.v⟩) : Run T (.code c env σ) Q
 | trim2 {c env σ Q R} (h : Run T (.code c env σ) R) (h1 : ∀ o, R o → Q o ∨ ∃ env'' σ'', Trims2 σ o.env o.σ env'' σ'' ∧ Q ⟨o.j, env'', σ'', o.v⟩) : Run T (.code c env σ) Q
 /-- A call that needs nothing of the state. -/
 | frame {f args args0 σ Q R} (hf : okVs 0 args) (h0 : args0 = args ∨ args0 = clrs args) (h : Run T (.call f args0 []) R) (h1 : ∀ o, R o → o.σ = [] ∧ Q ⟨none, [], σ, o.v⟩) : Run T (.call f args σ) Q
 | frameS {f args args0 as1 d σ Q R} (hf : snaps σ 0 d args = some as1) (h0 : args0 = as1 ∨ args0 = clrs as1) (h : Run T (.call f args0 []) R) (h1 : ∀ o, R o → o.σ = [] ∧ Scal o.v ∧ Q ⟨none, [], σ, o.v⟩) : Run T (.call f args σ) Q
 | chainNil {env σ Q} (h : Q ⟨none, env, σ, .undef⟩) : Run T (.chain [] env σ) Q
 | chainCons {a az env σ Q R} (h : Run T (.code a env σ) R) (h1 : ∀ o, R o → o.j = none → Run T (.chain az o.env o.σ) Q) (h2 : ∀ o, R o → o.j ≠ none → Q o) : Run T (.chain (a :: az) env σ) Q
 | chain {a0 az c env σ Q R} {S : Env → St → Prop} (h : Run T (.chain (a0 :: az) env σ) R) (h1 : ∀ o, R o → o.j ≠ none → Q o)
   (h2 : ∀ o, R o → o.j = none → ∃ env1 σ1 env2 σ2, Trims2 σ o.env o.σ env1 σ1 ∧ ((env2 = env1 ∧ σ2 = σ1) ∨ Thaws σ.length env1 σ1 env2 σ2) ∧ S env2 σ2)
   (h3 : ∀ env2 σ2, S env2 σ2 → Run T (.code c env2 σ2) Q) : Run T (.code (seqs (a0 :: az) c) env σ) Q
 /-- A full slice is given a token. -/
 | ghost {c env σ Q} (t sz : Nat) (xs : List AV) (ht : Env.get env t = .lit xs true none)
   (h : Run T (.code c ((t, .lit xs false (some σ.length)) :: env) (σ ++ [.tok sz xs.length false])) Q) : Run T (.code c env σ) Q
 /-- An environment stands for what it has at each temporary. -/
 | reenv {c env env' σ Q} (he : ∀ t, Env.get env t = Env.get env' t) (h : Run T (.code c env' σ) Q) : Run T (.code c env σ) Q
 /-- Less may be known of the temporaries. -/
 | weak {c env env' σ Q} (he : ∀ t, Env.get env' t = .undef ∨ Env.get env' t = Env.get env t ∨ Env.get env' t = clr (Env.get env t)) (h : Run T (.code c env' σ) Q) : Run T (.code c env σ) Q
 | reops {os env env' σ Q} (he : ∀ t, Env.get env t = Env.get env' t) (h : Run T (.ops os env' σ) Q) : Run T (.ops os env σ) Q
 | nil {env σ Q} (h : Q ⟨none, env, σ, .undef⟩) : Run T (.ops [] env σ) Q
 | off {o os env σ Q} (hw : o.wanted env = some false) (h : Run T (.ops os (Env.put env o.dst (.tuple [])) σ) Q) : Run T (.ops (o :: os) env σ) Q
 | step {o os env σ v σ' Q} (hw : o.wanted env = some true) (ha : aop o.op env σ = some (v, σ')) (h : Run T (.ops os (Env.put env o.dst v) σ') Q) :
   Run T (.ops (o :: os) env σ) Q
 | stepc {o os env σ f args Q R} (hw : o.wanted env = some true) (ho : o.op = .call f args) (hc : Run T (.callv (f.ev env) (args.map (·.ev env)) σ) R)
   (h : ∀ r, R r → Run T (.ops os (Env.put env o.dst r.v) r.σ) Q) : Run T (.ops (o :: os) env σ) Q
 | stepm {o os env σ x id m n es left last Q} (hw : o.wanted env = some true) (ho : o.op = .mnext x) (hx : x.ev env = .ptr id 0) (hl : σ[id]? = some (.miter m n left last))
   (he : σ[m]? = some (.map es)) (hn : es.length = n)
   (h0 : left = [] → Run T (.ops os (Env.put env o.dst (.tuple [.bool false])) σ) Q)
   (h1 : ∀ i k v, i ∈ left → es[i]? = some (k, v) → Run T (.ops os (Env.put env o.dst (.tuple [.bool true, k, v])) (σ.set id (.miter m n (left.filter (· ≠ i)) (some i)))) Q) :
   Run T (.ops (o :: os) env σ) Q
 | dnil {env σ next hist reads Q} (hr : ∀ r ∈ reads, ARead.ok r hist) (h : Q ⟨none, env, σ, .undef⟩) : Run T (.dops [] env σ next hist reads) Q
 | doff {o os env σ next hist reads Q} (hw : o.o.wanted env = some false)
   (h : Run T (.dops os (Env.put env o.o.dst (.tuple [])) σ (if o.o.op.allocs then next + 1 else next) (if o.o.op.acts then hist ++ [σ] else hist) reads) Q) :
   Run T (.dops (o :: os) env σ next hist reads) Q
 | dalloc {o os env σ next hist reads z Q} (hw : o.o.wanted env = some true) (ho : o.o.op = .alloc z)
   (h : Run T (.dops os (Env.put env o.o.dst (.ptr next 0)) σ (next + 1) hist reads) Q) : Run T (.dops (o :: os) env σ next hist reads) Q
 | dpure {o os env σ next hist reads v Q} (hw : o.o.wanted env = some true) (hk : (o.o.op.acts || o.o.op.allocs || o.o.op.reads) = false) (ha : aop o.o.op env σ = some (v, σ))
   (h : Run T (.dops os (Env.put env o.o.dst v) σ next hist reads) Q) : Run T (.dops (o :: os) env σ next hist reads) Q
 | dread {o os env σ next hist reads v Q} (hw : o.o.wanted env = some true) (hk : o.o.op.reads = true) (ha : aop o.o.op env σ = some (v, σ))
   (h : Run T (.dops os (Env.put env o.o.dst v) σ next hist (⟨o.lo, o.hi, o.o.op, env, v⟩ :: reads)) Q) : Run T (.dops (o :: os) env σ next hist reads) Q
 | dact {o os env σ next hist reads v σ' Q} (hw : o.o.wanted env = some true) (hk : o.o.op.acts = true) (ha : aop o.o.op env σ = some (v, σ'))
   (h : Run T (.dops os (Env.put env o.o.dst v) σ' next (hist ++ [σ']) reads) Q) : Run T (.dops (o :: os) env σ next hist reads) Q
 | dcall {o os env σ next hist reads f args v σ' Q} (hw : o.o.wanted env = some true) (ho : o.o.op = .call f args)
   (hc : Run T (.callv (f.ev env) (args.map (·.ev env)) σ) fun r => r.v = v ∧ r.σ = σ')
   (h : Run T (.dops os (Env.put env o.o.dst v) σ' next (hist ++ [σ']) reads) Q) : Run T (.dops (o :: os) env σ next hist reads) Q
 | callf {f first cap args σ Q} (h : Run T (.call f (first ++ args ++ cap) σ) Q) : Run T (.callv (.func f first cap) args σ) Q
 | round {id args σ env ps a b Q R S} (hl : σ[id]? = some (.loop .ready none env ps a b)) (hn : ps.length = args.length)
   (h : Run T (.code a (bindPs env ps args) σ) R)
   (h0 : ∀ o, R o → o.j = none ∧ o.σ[id]? = some (.loop .ready none env ps a b))
   (h1 : ∀ o, R o → Run T (.code b o.env (o.σ.set id (.loop .busy none env ps a b))) S)
   (h2 : ∀ o, S o → o.σ[id]? = some (.loop .busy none env ps a b) ∧
    Q ⟨none, [], o.σ.set id (.loop (if o.j = none then .ready else .done) o.j env ps a b), .bool (decide (o.j = none))⟩) :
   Run T (.callv (.yield id) args σ) Q
 | call {f args σ af Q R} (hf : T f = some af) (hn : args.length ≤ af.ntmps) (h : Run T (.code af.body (argsEnv 0 args) σ) R)
   (h1 : ∀ o, R o → (o.j = none ∨ o.j = some .ret) ∧ ∃ v, resOf af.results o.env o.σ = some v ∧ Leave σ o.σ v Q) : Run T (.call f args σ) Q
def top : Nat := 2 ^ 60
def Env.has : Env → Nat → Bool
 | [], _ => false
 | (k, _) :: e, t => if k = t then true else Env.has e t
def Env.tidyTo (acc : Env) : Env → Env
 | [] => acc
 | (k, v) :: e => if Env.has acc k then Env.tidyTo acc e else Env.tidyTo (acc ++ [(k, v)]) e
def Env.tidy (e : Env) : Env := Env.tidyTo [] e
def touch (q : AOp) (e : Env) : Nat :=
 match q with
 | .store _ a _ => match a.ev e with | .ptr id _ => id | _ => top
 | .mapset _ m _ _ => match m.ev e with | .map id => id | _ => top
 | .copy _ x _ => match x.ev e with | .ref id _ _ _ => id | _ => top
 | .snext x => match x.ev e with | .ptr id _ => id | _ => top
 | .append _ _ x _ => match x.ev e with | .lit _ false (some t) => t | _ => top
 | _ => top
mutual
def okVB (m : Nat) : Nat → AV → Bool
 | 0, _ => false
 | d + 1, v =>
  match v with
  | .func _ a b => okVBs m d a && okVBs m d b
  | .yield id | .ptr id _ | .ref id _ _ _ | .map id => decide (id < m)
  | .lptr xs _ _ tk | .lit xs _ tk => (match tk with | some t => decide (t < m) | none => true) && okVBs m d xs
  | .agg cs => okVBs m d cs
  | .tuple vs => okVBs m d vs
  | _ => true
def okVBs (m : Nat) : Nat → List AV → Bool
 | 0, _ => false
 | _ + 1, [] => true
 | d + 1, v :: vs => okVB m d v && okVBs m d vs
end
def okBlkB (m : Nat) : ABlk → Bool
 | .cells cs => okVBs m 10000 cs
 | .map es => es.all fun p => okVB m 10000 p.1 && okVB m 10000 p.2
 | .miter id _ _ _ => decide (id < m)
 | _ => true
def keptB (m : Nat) : List ABlk → Nat → Nat → Bool
 | [], _, _ => true
 | b :: bs, i, lo => if i < m then (decide (i < lo) || okBlkB m b) && keptB m bs (i + 1) lo else true
mutual
def snapF (σ : St) (m : Nat) : Nat → Nat → AV → Option AV
 | 0, _, _ => none
 | k + 1, d, v =>
  match v with
  | .func f first cap => match snapsF σ m k d first, snapsF σ m k d cap with | some a, some b => some (.func f a b) | _, _ => none
  | .yield id => if id < m then some (.yield id) else none
  | .ptr id off => if id < m then some (.ptr id off) else none
  | .map id => if id < m then some (.map id) else none
  | .ref id off len sz =>
   if id < m then some (.ref id off len sz) else
   match d with
   | 0 => none
   | d + 1 =>
    match view σ (.ref id off len sz) with
    | some xs => if (decide (0 < sz) && allCells sz xs) = true then (match snapsF σ m k d xs with | some ys => some (.lit ys false none) | none => none) else none
    | none => none
  | .lit xs full tk => match snapsF σ m k d xs with | some ys => some (.lit ys full (tk.filter (· < m))) | none => none
  | .agg cs => match snapsF σ m k d cs with | some ys => some (.agg ys) | none => none
  | .tuple vs => match snapsF σ m k d vs with | some ys => some (.tuple ys) | none => none
  | .lptr xs i off tk => match snapsF σ m k d xs with | some ys => some (.lptr ys i off (tk.filter (· < m))) | none => none
  | .undef => some .undef
  | .int k n => some (.int k n)
  | .bool b => some (.bool b)
  | .str s => some (.str s)
  | .nilFunc => some .nilFunc
  | .nilPtr => some .nilPtr
  | .nilMap => some .nilMap
def snapsF (σ : St) (m : Nat) : Nat → Nat → List AV → Option (List AV)
 | 0, _, _ => none
 | _ + 1, _, [] => some []
 | k + 1, d, v :: vs => match snapF σ m k d v, snapsF σ m k d vs with | some a, some b => some (a :: b) | _, _ => none
end
mutual
def eqVF : Nat → AV → AV → Bool
 | 0, _, _ => false
 | k + 1, a, b =>
  match a, b with
  | .undef, .undef | .nilFunc, .nilFunc | .nilPtr, .nilPtr | .nilMap, .nilMap => true
  | .int k n, .int l m => decide (k = l) && decide (n = m)
  | .bool x, .bool y => x == y
  | .str x, .str y => decide (x = y)
  | .func f a b, .func g c d => decide (f = g) && eqVsF k a c && eqVsF k b d
  | .yield i, .yield j | .map i, .map j => decide (i = j)
  | .ptr i o, .ptr j p => decide (i = j) && decide (o = p)
  | .lptr xs i o t, .lptr ys j p u => eqVsF k xs ys && decide (i = j) && decide (o = p) && decide (t = u)
  | .lit xs f t, .lit ys g u => eqVsF k xs ys && (f == g) && decide (t = u)
  | .ref a b c d, .ref e f g h => decide (a = e) && decide (b = f) && decide (c = g) && decide (d = h)
  | .agg xs, .agg ys => eqVsF k xs ys
  | .tuple xs, .tuple ys => eqVsF k xs ys
  | _, _ => false
def eqVsF : Nat → List AV → List AV → Bool
 | 0, _, _ => false
 | _ + 1, [], [] => true
 | k + 1, a :: x, b :: y => eqVF k a b && eqVsF k x y
 | _ + 1, _, _ => false
end
def readOk (r : ARead) : List St → Nat → Bool
 | [], _ => true
 | s :: ss, j =>
  (if decide (r.lo ≤ j) && decide (j ≤ r.hi) then (match aop r.op r.env s with | some (v, _) => eqVF 100000 v r.v | none => false) else true) && readOk r ss (j + 1)
def fMov (x : AOpd) (e : Env) (σ : St) : Option (AV × St) := some (x.ev e, σ)
def fPick (c a b : AOpd) (e : Env) (σ : St) : Option (AV × St) := match c.ev e with | .bool true => some (a.ev e, σ) | .bool false => some (b.ev e, σ) | _ => none
def fAlloc (zero : List AV) (σ : St) : Option (AV × St) := some (.ptr σ.length 0, σ ++ [.cells zero])
def fBox (n : Nat) (v : AV) (σ : St) : Option (AV × St) := if (v.cells.length == n && v.cells.all (·.cell)) = true then some (.ptr σ.length 0, σ ++ [.cells v.cells]) else none
def fBuild (zero : List AV) (parts : List (Nat × Nat × AOpd)) (e : Env) (σ : St) : Option (AV × St) := match buildCells e zero parts with | some cs => some (.agg cs, σ) | none => none
def fMklit (sz : Nat) (vs : List AV) (σ : St) : Option (AV × St) := if allCells sz vs = true then some (.lit vs true none, σ) else none
def fLoad (sh : Option Nat) (σ : St) (v : AV) : Option (AV × St) := match loadAV sh σ v with | some v => some (v, σ) | none => none
def fStore (n : Nat) (σ : St) (a v : AV) : Option (AV × St) := match storeAV n σ a v with | some σ' => some (.tuple [], σ') | none => none
def fAdd (σ : St) (x y : AV) : Option (AV × St) := match x, y with | .int k a, .int k' b => if k = k' then some (.int k (k.wrap (a + b)), σ) else none | _, _ => none
def fSub (σ : St) (x y : AV) : Option (AV × St) := match x, y with | .int k a, .int k' b => if k = k' then some (.int k (k.wrap (a - b)), σ) else none | _, _ => none
def fMul (σ : St) (x y : AV) : Option (AV × St) := match x, y with | .int k a, .int k' b => if k = k' then some (.int k (k.wrap (a * b)), σ) else none | _, _ => none
def fLss (σ : St) (x y : AV) : Option (AV × St) := match x, y with | .int k a, .int k' b => if k = k' then some (.bool (decide (a < b)), σ) else none | _, _ => none
def fLeq (σ : St) (x y : AV) : Option (AV × St) := match x, y with | .int k a, .int k' b => if k = k' then some (.bool (decide (a ≤ b)), σ) else none | _, _ => none
def fGtr (σ : St) (x y : AV) : Option (AV × St) := match x, y with | .int k a, .int k' b => if k = k' then some (.bool (decide (a > b)), σ) else none | _, _ => none
def fGeq (σ : St) (x y : AV) : Option (AV × St) := match x, y with | .int k a, .int k' b => if k = k' then some (.bool (decide (a ≥ b)), σ) else none | _, _ => none
def fBinR (op : BinOp) (σ : St) (x y : AV) : Option (AV × St) := match binAV op x y with | some v => some (v, σ) | none => none
def fBin (op : BinOp) (σ : St) (x y : AV) : Option (AV × St) :=
 match op with
 | .add => fAdd σ x y
 | .sub => fSub σ x y
 | .mul => fMul σ x y
 | .lss => fLss σ x y
 | .leq => fLeq σ x y
 | .gtr => fGtr σ x y
 | .geq => fGeq σ x y
 | op => fBinR op σ x y
def fEql (sh : EqTy) (neg : Bool) (σ : St) (x y : AV) : Option (AV × St) := match eqSh sh x y with | some b => some (.bool (if neg then !b else b), σ) | none => none
def fNot (σ : St) (x : AV) : Option (AV × St) := match x with | .bool b => some (.bool !b, σ) | _ => none
def fFaddr (off : Nat) (σ : St) (x : AV) : Option (AV × St) := match x with | .ptr id o => some (.ptr id (o + off), σ) | .lptr xs i o t => some (.lptr xs i (o + off) t, σ) | _ => none
def fField (off : Nat) (sh : Option Nat) (σ : St) (x : AV) : Option (AV × St) := match x with | .agg cs => (match shaped sh cs off with | some v => some (v, σ) | none => none) | _ => none
def fExt (i : Nat) (σ : St) (x : AV) : Option (AV × St) := match x with | .tuple vs => (match vs[i]? with | some v => some (v, σ) | none => none) | _ => none
def fLen (k : Nat) (σ : St) (x : AV) : Option (AV × St) := match lenAV k σ x with | some n => some (.int .i64 n, σ) | none => none
def fNil (σ : St) (x : AV) : Option (AV × St) := match x with | .ptr i o => some (.ptr i o, σ) | .lptr xs i o t => some (.lptr xs i o t, σ) | .func f a b => some (.func f a b, σ) | .yield i => some (.yield i, σ) | _ => none
def aopF (op : AOp) (e : Env) (σ : St) : Option (AV × St) :=
 match op with
 | .mov x => fMov x e σ
 | .pick c a b => fPick c a b e σ
 | .alloc z => fAlloc z σ
 | .box n x => fBox n (x.ev e) σ
 | .build z ps => fBuild z ps e σ
 | .mklit n xs => fMklit n (xs.map (·.ev e)) σ
 | .load sh x => fLoad sh σ (x.ev e)
 | .store n a x => fStore n σ (a.ev e) (x.ev e)
 | .nilCheck x => fNil σ (x.ev e)
 | .bin op x y => fBin op σ (x.ev e) (y.ev e)
 | .eql sh n x y => fEql sh n σ (x.ev e) (y.ev e)
 | .not x => fNot σ (x.ev e)
 | .faddr x o => fFaddr o σ (x.ev e)
 | .field x o sh => fField o sh σ (x.ev e)
 | .ext x i => fExt i σ (x.ev e)
 | .len k x => fLen k σ (x.ev e)
 | .append sz b x y => appendAV sz b σ (x.ev e) (y.ev e)
 | op => aop op e σ
section
variable (callv : AV → List AV → St → Option (AV × St × Nat))
def execOps : List AOper → Env → St → Nat → Option (Env × St × Nat)
 | [], e, σ, lo => some (e, σ, lo)
 | o :: os, e, σ, lo =>
  match o.wanted e with
  | some true =>
   match o.op with
   | .call f args =>
    match callv (f.ev e) (args.map (·.ev e)) σ with
    | some (v, σ', l) => execOps os (Env.put e o.dst v) σ' (Nat.min lo l)
    | none => none
   | op =>
    match aopF op e σ with
    | some (v, σ') => execOps os (Env.put e o.dst v) σ' (Nat.min lo (touch op e))
    | none => none
  | some false => execOps os (Env.put e o.dst (.tuple [])) σ lo
  | none => none
def execD : List ADOper → Env → St → Nat → List St → List ARead → Nat → Option (Env × St × Nat)
 | [], e, σ, _, hist, reads, lo => if reads.all (fun r => readOk r hist 0) = true then some (e, σ, lo) else none
 | d :: ds, e, σ, next, hist, reads, lo =>
  match d.o.wanted e with
  | some true =>
   match d.o.op with
   | .call f args =>
    match callv (f.ev e) (args.map (·.ev e)) σ with
    | some (v, σ', l) => execD ds (Env.put e d.o.dst v) σ' next (hist ++ [σ']) reads (Nat.min lo l)
    | none => none
   | .alloc _ => execD ds (Env.put e d.o.dst (.ptr next 0)) σ (next + 1) hist reads lo
   | op =>
    match aopF op e σ with
    | some (v, σ') =>
     if op.acts = true then execD ds (Env.put e d.o.dst v) σ' next (hist ++ [σ']) reads (Nat.min lo (touch op e))
     else if op.reads = true then execD ds (Env.put e d.o.dst v) σ next hist (⟨d.lo, d.hi, op, e, v⟩ :: reads) lo
     else execD ds (Env.put e d.o.dst v) σ next hist reads lo
    | none => none
  | some false => execD ds (Env.put e d.o.dst (.tuple [])) σ (if d.o.op.allocs then next + 1 else next) (if d.o.op.acts then hist ++ [σ] else hist) reads lo
  | none => none
end
def isRet : Option AJump → Bool
 | none | some .ret => true
 | _ => false
section
variable (T : FuncId → Option AFunc) (M : FuncId → List AV → Option AV) (E : ACode → Env → St → Option (Option AJump × Env × St × Nat))
def callE (f : FuncId) (args : List AV) (σ : St) : Option (AV × St × Nat) :=
 match M f args with
 | some v => some (v, σ, top)
 | none =>
 match T f with
 | some af =>
  if args.length ≤ af.ntmps then
   match E af.body (argsEnv 0 args) σ with
   | some (j, e, σ1, lo) =>
    if isRet j = true then
     match resOf af.results e σ1 with
     | some v =>
      match snapF σ1 σ.length 100000 20 v with
      | some v' => if keptB σ.length σ1 0 lo = true then some (v', σ1.take σ.length, lo) else some (v, σ1, lo)
      | none => some (v, σ1, lo)
     | none => none
    else none
   | none => none
  else none
 | none => none
def callV (f : AV) (args : List AV) (σ : St) : Option (AV × St × Nat) :=
 match f with
 | .func f first cap => callE T M E f (first ++ args ++ cap) σ
 | .yield id =>
  match σ[id]? with
  | some (.loop .ready none env ps a b) =>
   if ps.length = args.length then
    match E a (bindPs env ps args) σ with
    | some (none, e1, σ1, l1) =>
     match σ1[id]? with
     | some (.loop .ready none _ _ _ _) =>
      match E b e1 (σ1.set id (.loop .busy none env ps a b)) with
      | some (j, _, σ2, l2) =>
       match σ2[id]? with
       | some (.loop .busy none _ _ _ _) =>
        match j with
        | none => some (.bool true, σ2.set id (.loop .ready none env ps a b), Nat.min id (Nat.min l1 l2))
        | some j => some (.bool false, σ2.set id (.loop .done (some j) env ps a b), Nat.min id (Nat.min l1 l2))
       | _ => none
      | none => none
     | _ => none
    | _ => none
   else none
  | _ => none
 | _ => none
end
def exitJ (id : Nat) : Option AJump → Option AJump
 | some (.exit i) => if i = id then none else some (.exit i)
 | j => j
abbrev Res := Option (Option AJump × Env × St × Nat)
def eReg (r : Option (Env × St × Nat)) : Res := match r with | some (e', σ', lo) => some (none, e', σ', lo) | none => none
def eLow (lo : Nat) (r : Res) : Res := match r with | some (j, e2, σ2, l2) => some (j, e2, σ2, Nat.min lo l2) | none => none
def eSeq (E : ACode → Env → St → Res) (b : ACode) (r : Res) : Res :=
 match r with
 | some (none, e1, σ1, lo) => eLow lo (E b e1 σ1)
 | r => r
def eLoop (E : ACode → Env → St → Res) (b : ACode) (r : Res) : Res :=
 match r with
 | some (none, e1, σ1, lo) => eLow lo (E (.loop b) (Env.tidy e1) σ1)
 | r => r
def eCond (x : AV) (r q : Res) : Res := match x with | .bool true => r | .bool false => q | _ => none
def eBlock (id : Nat) (r : Res) : Res := match r with | some (j, e1, σ1, lo) => some (exitJ id j, e1, σ1, lo) | none => none
def eRangeEnd (e : Env) (n : Nat) (r : Option (AV × St × Nat)) : Res :=
 match r with
 | some (_, σ1, lo) =>
  match σ1[n]? with
  | some (.loop .ready pend _ _ _ _) => some (pend, e, σ1.set n .dead, lo)
  | some (.loop .done pend _ _ _ _) => some (pend, e, σ1.set n .dead, lo)
  | _ => none
 | none => none
def eRange (T : FuncId → Option AFunc) (M : FuncId → List AV → Option AV) (E : ACode → Env → St → Res) (f : AV) (ps : List Nat) (a b : ACode) (e : Env) (σ : St) : Res :=
 match f with
 | .func g first cap => eRangeEnd e σ.length (callE T M E g (first ++ [.yield σ.length] ++ cap) (σ ++ [.loop .ready none e ps a b]))
 | _ => none
def execStep (T : FuncId → Option AFunc) (M : FuncId → List AV → Option AV) (E : ACode → Env → St → Res) (c : ACode) (e : Env) (σ : St) : Res :=
 match c with
 | .skip => some (none, e, σ, top)
 | .jump j => some (some j, e, σ, top)
 | .reg os => eReg (execOps (callV T M E) os e σ top)
 | .dreg ds => eReg (execD (callV T M E) ds e (σ ++ allocsOf ds) σ.length [σ ++ allocsOf ds] [] top)
 | .seq a b => eSeq E b (E a e σ)
 | .cond c a b => eCond (c.ev e) (E a e σ) (E b e σ)
 | .block id b => eBlock id (E b e σ)
 | .loop b => eLoop E b (E b e σ)
 | .scope b => E b e σ
 | .rangeFunc f ps a b => eRange T M E (f.ev e) ps a b e σ
def exec (T : FuncId → Option AFunc) (M : FuncId → List AV → Option AV) : Nat → ACode → Env → St → Res
 | 0 => fun _ _ _ => none
 | k + 1 => execStep T M (exec T M k)
end Go.Am
namespace Go.Am.Room
def a2 : AFunc := ⟨1, [],
 .reg [⟨some 0,.call (.c (.func 1 [] [])) [],none⟩]⟩
def a3 : AFunc := ⟨87, [.tmp 6],
 .seq (.reg [⟨some 3,.box 7 (.t 0),none⟩,⟨some 6,.mov (.c (.bool false)),none⟩])
 (.seq (.reg [⟨some 18,.load (some 7) (.t 3),none⟩,⟨some 19,.call (.c (.func 15 [] [])) [.t 18],none⟩,⟨some 17,.mov (.t 19),none⟩,⟨some 20,.ext (.t 17) 0,none⟩,⟨some 21,.ext (.t 17) 1,none⟩,⟨some 22,.ext (.t 17) 2,none⟩,⟨some 7,.mov (.t 20),none⟩,⟨some 8,.mov (.t 21),none⟩,⟨some 9,.mov (.t 22),none⟩])
 (.seq (.reg [⟨some 24,.load (some 7) (.t 3),none⟩,⟨some 25,.call (.c (.func 16 [] [])) [.t 24],none⟩,⟨some 23,.mov (.t 25),none⟩,⟨some 26,.ext (.t 23) 0,none⟩,⟨some 27,.ext (.t 23) 1,none⟩,⟨some 28,.ext (.t 23) 2,none⟩,⟨some 10,.mov (.t 26),none⟩,⟨some 11,.mov (.t 27),none⟩,⟨some 12,.mov (.t 28),none⟩])
 (.seq (.seq (.reg [⟨some 29,.mov (.t 7),none⟩,⟨some 30,.mov (.t 10),none⟩,⟨some 31,.eql (.one .i) true (.t 29) (.t 30),none⟩,⟨some 32,.mov (.t 31),none⟩,⟨some 33,.mov (.t 8),(some (32, false))⟩,⟨some 34,.mov (.t 11),(some (32, false))⟩,⟨some 35,.eql (.one .i) true (.t 33) (.t 34),(some (32, false))⟩,⟨some 36,.pick (.t 32) (.c (.bool true)) (.t 35),none⟩,⟨some 37,.mov (.t 36),none⟩,⟨some 38,.mov (.t 9),(some (37, false))⟩,⟨some 39,.mov (.t 12),(some (37, false))⟩,⟨some 40,.eql (.one .i) true (.t 38) (.t 39),(some (37, false))⟩,⟨some 41,.pick (.t 37) (.c (.bool true)) (.t 40),none⟩])
 (.cond (.t 41) (.seq (.reg [⟨some 6,.mov (.c (.bool false)),none⟩])
 (.jump .ret))
 .skip))
 (.seq (.reg [⟨some 43,.load (some 7) (.t 3),none⟩,⟨some 44,.mov (.t 1),none⟩,⟨some 45,.mov (.t 2),none⟩,⟨some 46,.call (.c (.func 17 [] [])) [.t 43,.t 44,.t 45],none⟩,⟨some 42,.mov (.t 46),none⟩,⟨some 47,.ext (.t 42) 0,none⟩,⟨some 48,.ext (.t 42) 1,none⟩,⟨some 13,.alloc [.int .i64 0, .int .i64 0],none⟩,⟨none,.store 2 (.t 13) (.t 47),none⟩,⟨some 9,.mov (.t 48),none⟩])
 (.seq (.reg [⟨some 50,.load (some 7) (.t 3),none⟩,⟨some 51,.mov (.t 1),none⟩,⟨some 52,.mov (.t 2),none⟩,⟨some 53,.call (.c (.func 18 [] [])) [.t 50,.t 51,.t 52],none⟩,⟨some 49,.mov (.t 53),none⟩,⟨some 54,.ext (.t 49) 0,none⟩,⟨some 55,.ext (.t 49) 1,none⟩,⟨some 14,.alloc [.int .i64 0, .int .i64 0],none⟩,⟨none,.store 2 (.t 14) (.t 54),none⟩,⟨some 12,.mov (.t 55),none⟩])
 (.seq (.seq (.reg [⟨some 56,.load (some 2) (.t 13),none⟩,⟨some 57,.load (some 2) (.t 14),none⟩,⟨some 58,.eql (.agg [.i, .i]) true (.t 56) (.t 57),none⟩,⟨some 59,.mov (.t 58),none⟩,⟨some 60,.mov (.t 9),(some (59, false))⟩,⟨some 61,.mov (.t 12),(some (59, false))⟩,⟨some 62,.eql (.one .i) true (.t 60) (.t 61),(some (59, false))⟩,⟨some 63,.pick (.t 59) (.c (.bool true)) (.t 62),none⟩])
 (.cond (.t 63) (.seq (.reg [⟨some 6,.mov (.c (.bool false)),none⟩])
 (.jump .ret))
 .skip))
 (.seq (.reg [⟨some 65,.load (some 7) (.t 3),none⟩,⟨some 66,.mov (.t 1),none⟩,⟨some 67,.call (.c (.func 19 [] [])) [.t 65,.t 66],none⟩,⟨some 64,.mov (.t 67),none⟩,⟨some 68,.ext (.t 64) 0,none⟩,⟨some 69,.ext (.t 64) 1,none⟩,⟨some 15,.mov (.t 68),none⟩,⟨some 9,.mov (.t 69),none⟩])
 (.seq (.reg [⟨some 71,.load (some 7) (.t 3),none⟩,⟨some 72,.mov (.t 1),none⟩,⟨some 73,.call (.c (.func 20 [] [])) [.t 71,.t 72],none⟩,⟨some 70,.mov (.t 73),none⟩,⟨some 74,.ext (.t 70) 0,none⟩,⟨some 75,.ext (.t 70) 1,none⟩,⟨some 16,.mov (.t 74),none⟩,⟨some 12,.mov (.t 75),none⟩])
 (.seq (.reg [⟨some 76,.mov (.t 15),none⟩,⟨some 77,.mov (.t 16),none⟩,⟨some 78,.call (.c (.func 21 [] [])) [.t 76,.t 77],none⟩,⟨some 79,.mov (.t 78),none⟩,⟨some 80,.mov (.t 9),(some (79, true))⟩,⟨some 81,.mov (.t 12),(some (79, true))⟩,⟨some 82,.eql (.one .i) false (.t 80) (.t 81),(some (79, true))⟩,⟨some 83,.pick (.t 79) (.t 82) (.c (.bool false)),none⟩,⟨some 84,.mov (.t 83),none⟩,⟨some 85,.call (.c (.func 22 [] [])) [],(some (84, true))⟩,⟨some 86,.pick (.t 84) (.t 85) (.c (.bool false)),none⟩,⟨some 6,.mov (.t 86),none⟩])
 (.jump .ret))))))))))⟩
def a4 : AFunc := ⟨111, [.tmp 6],
 .seq (.reg [⟨some 3,.box 7 (.t 0),none⟩,⟨some 6,.mov (.c (.bool false)),none⟩])
 (.seq (.reg [⟨some 18,.load (some 7) (.t 3),none⟩,⟨some 19,.mov (.t 1),none⟩,⟨some 20,.mov (.t 2),none⟩,⟨some 21,.call (.c (.func 23 [] [])) [.t 18,.t 19,.t 20],none⟩,⟨some 17,.mov (.t 21),none⟩,⟨some 22,.ext (.t 17) 0,none⟩,⟨some 23,.ext (.t 17) 1,none⟩,⟨some 7,.mov (.t 22),none⟩,⟨some 8,.mov (.t 23),none⟩])
 (.seq (.reg [⟨some 25,.load (some 7) (.t 3),none⟩,⟨some 26,.mov (.t 1),none⟩,⟨some 27,.mov (.t 2),none⟩,⟨some 28,.call (.c (.func 24 [] [])) [.t 25,.t 26,.t 27],none⟩,⟨some 24,.mov (.t 28),none⟩,⟨some 29,.ext (.t 24) 0,none⟩,⟨some 30,.ext (.t 24) 1,none⟩,⟨some 9,.mov (.t 29),none⟩,⟨some 10,.mov (.t 30),none⟩])
 (.seq (.seq (.reg [⟨some 31,.mov (.t 7),none⟩,⟨some 32,.mov (.t 9),none⟩,⟨some 33,.eql (.one .i) true (.t 31) (.t 32),none⟩,⟨some 34,.mov (.t 33),none⟩,⟨some 35,.mov (.t 8),(some (34, false))⟩,⟨some 36,.mov (.t 10),(some (34, false))⟩,⟨some 37,.eql (.one .i) true (.t 35) (.t 36),(some (34, false))⟩,⟨some 38,.pick (.t 34) (.c (.bool true)) (.t 37),none⟩])
 (.cond (.t 38) (.seq (.reg [⟨some 6,.mov (.c (.bool false)),none⟩])
 (.jump .ret))
 .skip))
 (.seq (.reg [⟨some 40,.load (some 7) (.t 3),none⟩,⟨some 41,.mov (.t 1),none⟩,⟨some 42,.call (.c (.func 25 [] [])) [.t 40,.t 41],none⟩,⟨some 39,.mov (.t 42),none⟩,⟨some 43,.ext (.t 39) 0,none⟩,⟨some 44,.ext (.t 39) 1,none⟩,⟨some 45,.ext (.t 39) 2,none⟩,⟨some 11,.mov (.t 43),none⟩,⟨some 12,.mov (.t 44),none⟩,⟨some 8,.mov (.t 45),none⟩])
 (.seq (.reg [⟨some 47,.load (some 7) (.t 3),none⟩,⟨some 48,.mov (.t 1),none⟩,⟨some 49,.call (.c (.func 26 [] [])) [.t 47,.t 48],none⟩,⟨some 46,.mov (.t 49),none⟩,⟨some 50,.ext (.t 46) 0,none⟩,⟨some 51,.ext (.t 46) 1,none⟩,⟨some 52,.ext (.t 46) 2,none⟩,⟨some 13,.mov (.t 50),none⟩,⟨some 14,.mov (.t 51),none⟩,⟨some 10,.mov (.t 52),none⟩])
 (.seq (.seq (.reg [⟨some 53,.mov (.t 11),none⟩,⟨some 54,.mov (.t 13),none⟩,⟨some 55,.call (.c (.func 21 [] [])) [.t 53,.t 54],none⟩,⟨some 56,.not (.t 55),none⟩,⟨some 57,.mov (.t 56),none⟩,⟨some 58,.mov (.t 12),(some (57, false))⟩,⟨some 59,.mov (.t 14),(some (57, false))⟩,⟨some 60,.call (.c (.func 21 [] [])) [.t 58,.t 59],(some (57, false))⟩,⟨some 61,.not (.t 60),(some (57, false))⟩,⟨some 62,.pick (.t 57) (.c (.bool true)) (.t 61),none⟩,⟨some 63,.mov (.t 62),none⟩,⟨some 64,.mov (.t 8),(some (63, false))⟩,⟨some 65,.mov (.t 10),(some (63, false))⟩,⟨some 66,.eql (.one .i) true (.t 64) (.t 65),(some (63, false))⟩,⟨some 67,.pick (.t 63) (.c (.bool true)) (.t 66),none⟩])
 (.cond (.t 67) (.seq (.reg [⟨some 6,.mov (.c (.bool false)),none⟩])
 (.jump .ret))
 .skip))
 (.seq (.reg [⟨some 69,.load (some 7) (.t 3),none⟩,⟨some 70,.mov (.t 1),none⟩,⟨some 71,.call (.c (.func 27 [] [])) [.t 69,.t 70],none⟩,⟨some 68,.mov (.t 71),none⟩,⟨some 72,.ext (.t 68) 0,none⟩,⟨some 73,.ext (.t 68) 1,none⟩,⟨some 7,.mov (.t 72),none⟩,⟨some 8,.mov (.t 73),none⟩])
 (.seq (.reg [⟨some 75,.load (some 7) (.t 3),none⟩,⟨some 76,.mov (.t 1),none⟩,⟨some 77,.call (.c (.func 28 [] [])) [.t 75,.t 76],none⟩,⟨some 74,.mov (.t 77),none⟩,⟨some 78,.ext (.t 74) 0,none⟩,⟨some 79,.ext (.t 74) 1,none⟩,⟨some 9,.mov (.t 78),none⟩,⟨some 10,.mov (.t 79),none⟩])
 (.seq (.seq (.reg [⟨some 80,.mov (.t 7),none⟩,⟨some 81,.mov (.t 9),none⟩,⟨some 82,.eql (.one .i) true (.t 80) (.t 81),none⟩,⟨some 83,.mov (.t 82),none⟩,⟨some 84,.mov (.t 8),(some (83, false))⟩,⟨some 85,.mov (.t 10),(some (83, false))⟩,⟨some 86,.eql (.one .i) true (.t 84) (.t 85),(some (83, false))⟩,⟨some 87,.pick (.t 83) (.c (.bool true)) (.t 86),none⟩])
 (.cond (.t 87) (.seq (.reg [⟨some 6,.mov (.c (.bool false)),none⟩])
 (.jump .ret))
 .skip))
 (.seq (.reg [⟨some 89,.load (some 7) (.t 3),none⟩,⟨some 90,.mov (.t 2),none⟩,⟨some 91,.call (.c (.func 29 [] [])) [.t 89,.t 90],none⟩,⟨some 88,.mov (.t 91),none⟩,⟨some 92,.ext (.t 88) 0,none⟩,⟨some 93,.ext (.t 88) 1,none⟩,⟨some 15,.alloc [.int .i64 0, .int .i64 0],none⟩,⟨none,.store 2 (.t 15) (.t 92),none⟩,⟨some 8,.mov (.t 93),none⟩])
 (.seq (.reg [⟨some 95,.load (some 7) (.t 3),none⟩,⟨some 96,.mov (.t 2),none⟩,⟨some 97,.call (.c (.func 30 [] [])) [.t 95,.t 96],none⟩,⟨some 94,.mov (.t 97),none⟩,⟨some 98,.ext (.t 94) 0,none⟩,⟨some 99,.ext (.t 94) 1,none⟩,⟨some 16,.alloc [.int .i64 0, .int .i64 0],none⟩,⟨none,.store 2 (.t 16) (.t 98),none⟩,⟨some 10,.mov (.t 99),none⟩])
 (.seq (.reg [⟨some 100,.load (some 2) (.t 15),none⟩,⟨some 101,.load (some 2) (.t 16),none⟩,⟨some 102,.eql (.agg [.i, .i]) false (.t 100) (.t 101),none⟩,⟨some 103,.mov (.t 102),none⟩,⟨some 104,.mov (.t 8),(some (103, true))⟩,⟨some 105,.mov (.t 10),(some (103, true))⟩,⟨some 106,.eql (.one .i) false (.t 104) (.t 105),(some (103, true))⟩,⟨some 107,.pick (.t 103) (.t 106) (.c (.bool false)),none⟩,⟨some 108,.mov (.t 107),none⟩,⟨some 109,.call (.c (.func 22 [] [])) [],(some (108, true))⟩,⟨some 110,.pick (.t 108) (.t 109) (.c (.bool false)),none⟩,⟨some 6,.mov (.t 110),none⟩])
 (.jump .ret)))))))))))))⟩
def a5 : AFunc := ⟨67, [.tmp 6],
 .seq (.reg [⟨some 3,.box 7 (.t 0),none⟩,⟨some 6,.mov (.c (.bool false)),none⟩])
 (.seq (.reg [⟨some 16,.load (some 7) (.t 3),none⟩,⟨some 17,.mov (.t 1),none⟩,⟨some 18,.mov (.t 2),none⟩,⟨some 19,.call (.c (.func 31 [] [])) [.t 16,.t 17,.t 18],none⟩,⟨some 15,.mov (.t 19),none⟩,⟨some 20,.ext (.t 15) 0,none⟩,⟨some 21,.ext (.t 15) 1,none⟩,⟨some 22,.ext (.t 15) 2,none⟩,⟨some 7,.mov (.t 20),none⟩,⟨some 8,.mov (.t 21),none⟩,⟨some 9,.mov (.t 22),none⟩])
 (.seq (.reg [⟨some 24,.load (some 7) (.t 3),none⟩,⟨some 25,.mov (.t 1),none⟩,⟨some 26,.mov (.t 2),none⟩,⟨some 27,.call (.c (.func 32 [] [])) [.t 24,.t 25,.t 26],none⟩,⟨some 23,.mov (.t 27),none⟩,⟨some 28,.ext (.t 23) 0,none⟩,⟨some 29,.ext (.t 23) 1,none⟩,⟨some 30,.ext (.t 23) 2,none⟩,⟨some 10,.mov (.t 28),none⟩,⟨some 11,.mov (.t 29),none⟩,⟨some 12,.mov (.t 30),none⟩])
 (.seq (.seq (.reg [⟨some 31,.mov (.t 7),none⟩,⟨some 32,.mov (.t 10),none⟩,⟨some 33,.call (.c (.func 21 [] [])) [.t 31,.t 32],none⟩,⟨some 34,.not (.t 33),none⟩,⟨some 35,.mov (.t 34),none⟩,⟨some 36,.mov (.t 8),(some (35, false))⟩,⟨some 37,.mov (.t 11),(some (35, false))⟩,⟨some 38,.call (.c (.func 21 [] [])) [.t 36,.t 37],(some (35, false))⟩,⟨some 39,.not (.t 38),(some (35, false))⟩,⟨some 40,.pick (.t 35) (.c (.bool true)) (.t 39),none⟩,⟨some 41,.mov (.t 40),none⟩,⟨some 42,.mov (.t 9),(some (41, false))⟩,⟨some 43,.mov (.t 12),(some (41, false))⟩,⟨some 44,.eql (.one .i) true (.t 42) (.t 43),(some (41, false))⟩,⟨some 45,.pick (.t 41) (.c (.bool true)) (.t 44),none⟩])
 (.cond (.t 45) (.seq (.reg [⟨some 6,.mov (.c (.bool false)),none⟩])
 (.jump .ret))
 .skip))
 (.seq (.reg [⟨some 47,.load (some 7) (.t 3),none⟩,⟨some 48,.call (.c (.func 33 [] [])) [.t 47],none⟩,⟨some 46,.mov (.t 48),none⟩,⟨some 49,.ext (.t 46) 0,none⟩,⟨some 50,.ext (.t 46) 1,none⟩,⟨some 13,.mov (.t 49),none⟩,⟨some 9,.mov (.t 50),none⟩])
 (.seq (.reg [⟨some 52,.load (some 7) (.t 3),none⟩,⟨some 53,.call (.c (.func 34 [] [])) [.t 52],none⟩,⟨some 51,.mov (.t 53),none⟩,⟨some 54,.ext (.t 51) 0,none⟩,⟨some 55,.ext (.t 51) 1,none⟩,⟨some 14,.mov (.t 54),none⟩,⟨some 12,.mov (.t 55),none⟩])
 (.seq (.reg [⟨some 56,.mov (.t 13),none⟩,⟨some 57,.mov (.t 14),none⟩,⟨some 58,.call (.c (.func 21 [] [])) [.t 56,.t 57],none⟩,⟨some 59,.mov (.t 58),none⟩,⟨some 60,.mov (.t 9),(some (59, true))⟩,⟨some 61,.mov (.t 12),(some (59, true))⟩,⟨some 62,.eql (.one .i) false (.t 60) (.t 61),(some (59, true))⟩,⟨some 63,.pick (.t 59) (.t 62) (.c (.bool false)),none⟩,⟨some 64,.mov (.t 63),none⟩,⟨some 65,.call (.c (.func 22 [] [])) [],(some (64, true))⟩,⟨some 66,.pick (.t 64) (.t 65) (.c (.bool false)),none⟩,⟨some 6,.mov (.t 66),none⟩])
 (.jump .ret)))))))⟩
def a6 : AFunc := ⟨164, [.tmp 0],
 .seq (.reg [⟨some 0,.mov (.c (.bool false)),none⟩])
 (.seq (.reg [⟨some 23,.call (.c (.func 35 [] [])) [(.c (.lit [] true none))],none⟩,⟨some 24,.call (.c (.func 36 [] [])) [(.c (.int .i64 1)), (.c (.int .i64 3)), (.c (.int .i64 2))],none⟩,⟨some 25,.mklit 3 [.t 24],none⟩,⟨some 26,.call (.c (.func 35 [] [])) [.t 25],none⟩,⟨some 1,.alloc [.lit [] true none, .int .i64 0, .int .i64 0, .int .i64 0, .int .i64 0, .lit [] true none, .lit [] true none],none⟩,⟨some 2,.alloc [.lit [] true none, .int .i64 0, .int .i64 0, .int .i64 0, .int .i64 0, .lit [] true none, .lit [] true none],none⟩,⟨none,.store 7 (.t 1) (.t 23),none⟩,⟨none,.store 7 (.t 2) (.t 26),none⟩])
 (.seq (.reg [⟨some 28,.load (some 7) (.t 1),none⟩,⟨some 29,.call (.c (.func 17 [] [])) [(.t 28), (.c (.int .i64 0)), (.c (.int .i64 4))],none⟩,⟨some 27,.mov (.t 29),none⟩,⟨some 30,.ext (.t 27) 0,none⟩,⟨some 31,.ext (.t 27) 1,none⟩,⟨some 3,.alloc [.int .i64 0, .int .i64 0],none⟩,⟨none,.store 2 (.t 3) (.t 30),none⟩,⟨some 4,.mov (.t 31),none⟩])
 (.seq (.reg [⟨some 33,.load (some 7) (.t 1),none⟩,⟨some 34,.call (.c (.func 17 [] [])) [(.t 33), (.c (.int .i64 2)), (.c (.int .i64 4))],none⟩,⟨some 32,.mov (.t 34),none⟩,⟨some 35,.ext (.t 32) 0,none⟩,⟨some 36,.ext (.t 32) 1,none⟩,⟨some 5,.alloc [.int .i64 0, .int .i64 0],none⟩,⟨none,.store 2 (.t 5) (.t 35),none⟩,⟨some 6,.mov (.t 36),none⟩])
 (.seq (.reg [⟨some 38,.load (some 7) (.t 1),none⟩,⟨some 39,.call (.c (.func 23 [] [])) [(.t 38), (.c (.int .i64 0)), (.c (.int .i64 5))],none⟩,⟨some 37,.mov (.t 39),none⟩,⟨some 40,.ext (.t 37) 0,none⟩,⟨some 41,.ext (.t 37) 1,none⟩,⟨some 7,.mov (.t 40),none⟩,⟨some 8,.mov (.t 41),none⟩])
 (.seq (.reg [⟨some 43,.load (some 7) (.t 1),none⟩,⟨some 44,.call (.c (.func 25 [] [])) [(.t 43), (.c (.int .i64 1))],none⟩,⟨some 42,.mov (.t 44),none⟩,⟨some 45,.ext (.t 42) 0,none⟩,⟨some 46,.ext (.t 42) 1,none⟩,⟨some 47,.ext (.t 42) 2,none⟩,⟨some 9,.mov (.t 45),none⟩,⟨some 10,.mov (.t 46),none⟩,⟨some 11,.mov (.t 47),none⟩])
 (.seq (.reg [⟨some 49,.load (some 7) (.t 1),none⟩,⟨some 50,.call (.c (.func 27 [] [])) [(.t 49), (.c (.int .i64 1))],none⟩,⟨some 48,.mov (.t 50),none⟩,⟨some 51,.ext (.t 48) 0,none⟩,⟨some 52,.ext (.t 48) 1,none⟩,⟨some 12,.mov (.t 51),none⟩,⟨some 13,.mov (.t 52),none⟩])
 (.seq (.reg [⟨some 54,.load (some 7) (.t 1),none⟩,⟨some 55,.call (.c (.func 31 [] [])) [(.t 54), (.c (.int .i64 4)), (.c (.int .i64 30))],none⟩,⟨some 53,.mov (.t 55),none⟩,⟨some 56,.ext (.t 53) 0,none⟩,⟨some 57,.ext (.t 53) 1,none⟩,⟨some 58,.ext (.t 53) 2,none⟩,⟨some 14,.mov (.t 56),none⟩,⟨some 15,.mov (.t 57),none⟩,⟨some 16,.mov (.t 58),none⟩])
 (.seq (.reg [⟨some 60,.load (some 7) (.t 2),none⟩,⟨some 61,.call (.c (.func 29 [] [])) [(.t 60), (.c (.int .i64 3))],none⟩,⟨some 59,.mov (.t 61),none⟩,⟨some 62,.ext (.t 59) 0,none⟩,⟨some 63,.ext (.t 59) 1,none⟩,⟨some 17,.alloc [.int .i64 0, .int .i64 0],none⟩,⟨none,.store 2 (.t 17) (.t 62),none⟩,⟨some 18,.mov (.t 63),none⟩])
 (.seq (.reg [⟨some 65,.load (some 7) (.t 1),none⟩,⟨some 66,.call (.c (.func 19 [] [])) [(.t 65), (.c (.int .i64 1))],none⟩,⟨some 64,.mov (.t 66),none⟩,⟨some 67,.ext (.t 64) 0,none⟩,⟨some 68,.ext (.t 64) 1,none⟩,⟨some 19,.mov (.t 67),none⟩,⟨some 20,.mov (.t 68),none⟩])
 (.seq (.reg [⟨some 70,.load (some 7) (.t 2),none⟩,⟨some 71,.call (.c (.func 33 [] [])) [.t 70],none⟩,⟨some 69,.mov (.t 71),none⟩,⟨some 72,.ext (.t 69) 0,none⟩,⟨some 73,.ext (.t 69) 1,none⟩,⟨some 21,.mov (.t 72),none⟩,⟨some 22,.mov (.t 73),none⟩])
 (.seq (.dreg [⟨⟨some 74,.mov (.t 4),none⟩, 0, 0⟩,⟨⟨some 75,.eql (.one .i) false (.t 74) (.c (.int .i64 0)),none⟩, 0, 0⟩,⟨⟨some 76,.mov (.t 75),none⟩, 0, 0⟩,⟨⟨some 77,.mov (.t 6),(some (76, true))⟩, 0, 0⟩,⟨⟨some 78,.eql (.one .i) false (.t 77) (.c (.int .i64 0)),(some (76, true))⟩, 0, 0⟩,⟨⟨some 79,.pick (.t 76) (.t 78) (.c (.bool false)),none⟩, 0, 0⟩,⟨⟨some 80,.mov (.t 79),none⟩, 0, 0⟩,⟨⟨some 81,.mov (.t 8),(some (80, true))⟩, 0, 0⟩,⟨⟨some 82,.eql (.one .i) false (.t 81) (.c (.int .i64 0)),(some (80, true))⟩, 0, 0⟩,⟨⟨some 83,.pick (.t 80) (.t 82) (.c (.bool false)),none⟩, 0, 0⟩,⟨⟨some 84,.mov (.t 83),none⟩, 0, 0⟩,⟨⟨some 85,.mov (.t 11),(some (84, true))⟩, 0, 0⟩,⟨⟨some 86,.eql (.one .i) false (.t 85) (.c (.int .i64 0)),(some (84, true))⟩, 0, 0⟩,⟨⟨some 87,.pick (.t 84) (.t 86) (.c (.bool false)),none⟩, 0, 0⟩,⟨⟨some 88,.mov (.t 87),none⟩, 0, 0⟩,⟨⟨some 89,.mov (.t 13),(some (88, true))⟩, 0, 0⟩,⟨⟨some 90,.eql (.one .i) false (.t 89) (.c (.int .i64 0)),(some (88, true))⟩, 0, 0⟩,⟨⟨some 91,.pick (.t 88) (.t 90) (.c (.bool false)),none⟩, 0, 0⟩,⟨⟨some 92,.mov (.t 91),none⟩, 0, 0⟩,⟨⟨some 93,.mov (.t 16),(some (92, true))⟩, 0, 0⟩,⟨⟨some 94,.eql (.one .i) false (.t 93) (.c (.int .i64 0)),(some (92, true))⟩, 0, 0⟩,⟨⟨some 95,.pick (.t 92) (.t 94) (.c (.bool false)),none⟩, 0, 0⟩,⟨⟨some 96,.mov (.t 95),none⟩, 0, 0⟩,⟨⟨some 97,.mov (.t 18),(some (96, true))⟩, 0, 0⟩,⟨⟨some 98,.eql (.one .i) false (.t 97) (.c (.int .i64 0)),(some (96, true))⟩, 0, 0⟩,⟨⟨some 99,.pick (.t 96) (.t 98) (.c (.bool false)),none⟩, 0, 0⟩,⟨⟨some 100,.mov (.t 99),none⟩, 0, 0⟩,⟨⟨some 101,.mov (.t 20),(some (100, true))⟩, 0, 0⟩,⟨⟨some 102,.eql (.one .i) false (.t 101) (.c (.int .i64 0)),(some (100, true))⟩, 0, 0⟩,⟨⟨some 103,.pick (.t 100) (.t 102) (.c (.bool false)),none⟩, 0, 0⟩,⟨⟨some 104,.mov (.t 103),none⟩, 0, 0⟩,⟨⟨some 105,.mov (.t 22),(some (104, true))⟩, 0, 0⟩,⟨⟨some 106,.eql (.one .i) false (.t 105) (.c (.int .i64 0)),(some (104, true))⟩, 0, 0⟩,⟨⟨some 107,.pick (.t 104) (.t 106) (.c (.bool false)),none⟩, 0, 0⟩,⟨⟨some 108,.mov (.t 107),none⟩, 0, 0⟩,⟨⟨some 109,.load (some 2) (.t 3),(some (108, true))⟩, 0, 1⟩,⟨⟨some 110,.call (.c (.func 37 [] [])) [(.c (.int .i64 6)), (.c (.int .i64 8))],(some (108, true))⟩, 0, 1⟩,⟨⟨some 111,.eql (.agg [.i, .i]) false (.t 109) (.t 110),(some (108, true))⟩, 1, 1⟩,⟨⟨some 112,.pick (.t 108) (.t 111) (.c (.bool false)),none⟩, 1, 1⟩,⟨⟨some 113,.mov (.t 112),none⟩, 1, 1⟩,⟨⟨some 114,.load (some 2) (.t 5),(some (113, true))⟩, 1, 2⟩,⟨⟨some 115,.call (.c (.func 37 [] [])) [(.c (.int .i64 4)), (.c (.int .i64 8))],(some (113, true))⟩, 1, 2⟩,⟨⟨some 116,.eql (.agg [.i, .i]) false (.t 114) (.t 115),(some (113, true))⟩, 2, 2⟩,⟨⟨some 117,.pick (.t 113) (.t 116) (.c (.bool false)),none⟩, 2, 2⟩,⟨⟨some 118,.mov (.t 117),none⟩, 2, 2⟩,⟨⟨some 119,.mov (.t 7),(some (118, true))⟩, 2, 2⟩,⟨⟨some 120,.eql (.one .i) false (.t 119) (.c (.int .i64 0)),(some (118, true))⟩, 2, 2⟩,⟨⟨some 121,.pick (.t 118) (.t 120) (.c (.bool false)),none⟩, 2, 2⟩,⟨⟨some 122,.mov (.t 121),none⟩, 2, 2⟩,⟨⟨some 123,.mov (.t 9),(some (122, true))⟩, 2, 2⟩,⟨⟨some 124,.len 1 (.t 123),(some (122, true))⟩, 2, 2⟩,⟨⟨some 125,.eql (.one .i) false (.t 124) (.c (.int .i64 0)),(some (122, true))⟩, 2, 2⟩,⟨⟨some 126,.pick (.t 122) (.t 125) (.c (.bool false)),none⟩, 2, 2⟩,⟨⟨some 127,.mov (.t 126),none⟩, 2, 2⟩,⟨⟨some 128,.mov (.t 10),(some (127, true))⟩, 2, 2⟩,⟨⟨some 129,.mklit 1 [(.c (.int .i64 4)), (.c (.int .i64 5))],(some (127, true))⟩, 2, 2⟩,⟨⟨some 130,.call (.c (.func 21 [] [])) [.t 128,.t 129],(some (127, true))⟩, 2, 3⟩,⟨⟨some 131,.pick (.t 127) (.t 130) (.c (.bool false)),none⟩, 3, 3⟩,⟨⟨some 132,.mov (.t 131),none⟩, 3, 3⟩,⟨⟨some 133,.mov (.t 12),(some (132, true))⟩, 3, 3⟩,⟨⟨some 134,.eql (.one .i) false (.t 133) (.c (.int .i64 5)),(some (132, true))⟩, 3, 3⟩,⟨⟨some 135,.pick (.t 132) (.t 134) (.c (.bool false)),none⟩, 3, 3⟩,⟨⟨some 136,.mov (.t 135),none⟩, 3, 3⟩,⟨⟨some 137,.mov (.t 14),(some (136, true))⟩, 3, 3⟩,⟨⟨some 138,.mklit 1 [(.c (.int .i64 0))],(some (136, true))⟩, 3, 3⟩,⟨⟨some 139,.call (.c (.func 21 [] [])) [.t 137,.t 138],(some (136, true))⟩, 3, 4⟩,⟨⟨some 140,.pick (.t 136) (.t 139) (.c (.bool false)),none⟩, 4, 4⟩,⟨⟨some 141,.mov (.t 140),none⟩, 4, 4⟩,⟨⟨some 142,.mov (.t 15),(some (141, true))⟩, 4, 4⟩,⟨⟨some 143,.len 1 (.t 142),(some (141, true))⟩, 4, 4⟩,⟨⟨some 144,.eql (.one .i) false (.t 143) (.c (.int .i64 0)),(some (141, true))⟩, 4, 4⟩,⟨⟨some 145,.pick (.t 141) (.t 144) (.c (.bool false)),none⟩, 4, 4⟩,⟨⟨some 146,.mov (.t 145),none⟩, 4, 4⟩,⟨⟨some 147,.load (some 2) (.t 17),(some (146, true))⟩, 4, 5⟩,⟨⟨some 148,.call (.c (.func 37 [] [])) [(.c (.int .i64 1)), (.c (.int .i64 2))],(some (146, true))⟩, 4, 5⟩,⟨⟨some 149,.eql (.agg [.i, .i]) false (.t 147) (.t 148),(some (146, true))⟩, 5, 5⟩,⟨⟨some 150,.pick (.t 146) (.t 149) (.c (.bool false)),none⟩, 5, 5⟩,⟨⟨some 151,.mov (.t 150),none⟩, 5, 5⟩,⟨⟨some 152,.mov (.t 19),(some (151, true))⟩, 5, 5⟩,⟨⟨some 153,.mklit 1 [(.c (.int .i64 1)), (.c (.int .i64 2))],(some (151, true))⟩, 5, 5⟩,⟨⟨some 154,.call (.c (.func 21 [] [])) [.t 152,.t 153],(some (151, true))⟩, 5, 6⟩,⟨⟨some 155,.pick (.t 151) (.t 154) (.c (.bool false)),none⟩, 6, 6⟩,⟨⟨some 156,.mov (.t 155),none⟩, 6, 6⟩,⟨⟨some 157,.mov (.t 21),(some (156, true))⟩, 6, 6⟩,⟨⟨some 158,.len 1 (.t 157),(some (156, true))⟩, 6, 6⟩,⟨⟨some 159,.eql (.one .i) false (.t 158) (.c (.int .i64 0)),(some (156, true))⟩, 6, 6⟩,⟨⟨some 160,.pick (.t 156) (.t 159) (.c (.bool false)),none⟩, 6, 6⟩,⟨⟨some 161,.mov (.t 160),none⟩, 6, 6⟩,⟨⟨some 162,.call (.c (.func 22 [] [])) [],(some (161, true))⟩, 6, 7⟩,⟨⟨some 163,.pick (.t 161) (.t 162) (.c (.bool false)),none⟩, 7, 7⟩,⟨⟨some 0,.mov (.t 163),none⟩, 7, 7⟩])
 (.jump .ret))))))))))))⟩
def L7_2 : ACode := .seq (.seq (.reg [⟨some 91,.mov (.t 16),none⟩,⟨some 92,.mov (.t 9),none⟩,⟨some 93,.len 1 (.t 92),none⟩,⟨some 94,.bin .lss (.t 91) (.t 93),none⟩])
 (.cond (.t 94) .skip
 (.jump (.exit 2))))
 (.seq (.block 3 (.seq (.reg [⟨some 97,.mov (.t 8),none⟩,⟨some 98,.mov (.t 9),none⟩,⟨some 99,.mov (.t 16),none⟩,⟨some 100,.iaddr none 1 (.t 98) (.t 99),none⟩,⟨some 101,.load none (.t 100),none⟩,⟨some 102,.mov (.t 13),none⟩,⟨some 103,.call (.c (.func 43 [] [])) [.t 97,.t 101,.t 102],none⟩,⟨some 17,.mov (.t 103),none⟩])
 (.seq (.reg [⟨some 105,.load (some 7) (.t 7),none⟩,⟨some 106,.mov (.t 16),none⟩,⟨some 107,.mov (.t 13),none⟩,⟨some 108,.call (.c (.func 17 [] [])) [.t 105,.t 106,.t 107],none⟩,⟨some 104,.mov (.t 108),none⟩,⟨some 109,.ext (.t 104) 0,none⟩,⟨some 110,.ext (.t 104) 1,none⟩,⟨some 18,.alloc [.int .i64 0, .int .i64 0],none⟩,⟨none,.store 2 (.t 18) (.t 109),none⟩,⟨some 19,.mov (.t 110),none⟩])
 (.seq (.reg [⟨some 112,.load (some 7) (.t 7),none⟩,⟨some 113,.mov (.t 16),none⟩,⟨some 114,.mov (.t 13),none⟩,⟨some 115,.call (.c (.func 23 [] [])) [.t 112,.t 113,.t 114],none⟩,⟨some 111,.mov (.t 115),none⟩,⟨some 116,.ext (.t 111) 0,none⟩,⟨some 117,.ext (.t 111) 1,none⟩,⟨some 20,.mov (.t 116),none⟩,⟨some 21,.mov (.t 117),none⟩])
 (.seq (.reg [⟨some 119,.load (some 7) (.t 7),none⟩,⟨some 120,.mov (.t 16),none⟩,⟨some 121,.call (.c (.func 19 [] [])) [.t 119,.t 120],none⟩,⟨some 118,.mov (.t 121),none⟩,⟨some 122,.ext (.t 118) 0,none⟩,⟨some 123,.ext (.t 118) 1,none⟩,⟨some 22,.mov (.t 122),none⟩,⟨some 23,.mov (.t 123),none⟩])
 (.seq (.reg [⟨some 124,.mov (.t 17),none⟩,⟨some 125,.faddr (.t 7) 1,none⟩,⟨some 126,.load none (.t 125),none⟩,⟨some 127,.bin .geq (.t 124) (.t 126),none⟩,⟨some 128,.mov (.t 127),none⟩,⟨some 129,.mov (.t 17),(some (128, true))⟩,⟨some 130,.mov (.t 12),(some (128, true))⟩,⟨some 131,.bin .add (.t 129) (.t 130),(some (128, true))⟩,⟨some 132,.faddr (.t 7) 2,(some (128, true))⟩,⟨some 133,.load none (.t 132),(some (128, true))⟩,⟨some 134,.bin .leq (.t 131) (.t 133),(some (128, true))⟩,⟨some 135,.pick (.t 128) (.t 134) (.c (.bool false)),none⟩,⟨some 24,.mov (.t 135),none⟩])
 (.seq (.reg [⟨some 136,.mov (.t 19),none⟩,⟨some 137,.eql (.one .i) true (.t 136) (.c (.int .i64 0)),none⟩,⟨some 138,.mov (.t 137),none⟩,⟨some 139,.mov (.t 21),(some (138, false))⟩,⟨some 140,.eql (.one .i) true (.t 139) (.c (.int .i64 0)),(some (138, false))⟩,⟨some 141,.pick (.t 138) (.c (.bool true)) (.t 140),none⟩,⟨some 142,.mov (.t 141),none⟩,⟨some 143,.mov (.t 23),(some (142, false))⟩,⟨some 144,.eql (.one .i) true (.t 143) (.c (.int .i64 0)),(some (142, false))⟩,⟨some 145,.pick (.t 142) (.c (.bool true)) (.t 144),none⟩,⟨some 146,.mov (.t 145),none⟩,⟨some 147,.mov (.t 17),(some (146, false))⟩,⟨some 148,.load (some 2) (.t 18),(some (146, false))⟩,⟨some 149,.call (.c (.func 42 [] [])) [.t 147,.t 148],(some (146, false))⟩,⟨some 150,.not (.t 149),(some (146, false))⟩,⟨some 151,.pick (.t 146) (.c (.bool true)) (.t 150),none⟩,⟨some 152,.mov (.t 151),none⟩,⟨some 153,.mov (.t 22),(some (152, false))⟩,⟨some 154,.mov (.t 9),(some (152, false))⟩,⟨some 155,.mov (.t 16),(some (152, false))⟩,⟨some 156,.iaddr none 1 (.t 154) (.t 155),(some (152, false))⟩,⟨some 157,.load none (.t 156),(some (152, false))⟩,⟨some 158,.call (.c (.func 44 [] [])) [.t 153,.t 157],(some (152, false))⟩,⟨some 159,.not (.t 158),(some (152, false))⟩,⟨some 160,.pick (.t 152) (.c (.bool true)) (.t 159),none⟩,⟨some 161,.mov (.t 160),none⟩,⟨some 162,.mov (.t 24),(some (161, false))⟩,⟨some 163,.mov (.t 162),(some (161, false))⟩,⟨some 164,.mov (.t 20),(some (163, true))⟩,⟨some 165,.eql (.one .i) false (.t 164) (.c (.int .i64 2)),(some (163, true))⟩,⟨some 166,.pick (.t 163) (.t 165) (.c (.bool false)),(some (161, false))⟩,⟨some 167,.pick (.t 161) (.c (.bool true)) (.t 166),none⟩,⟨some 168,.mov (.t 167),none⟩,⟨some 169,.mov (.t 24),(some (168, false))⟩,⟨some 170,.not (.t 169),(some (168, false))⟩,⟨some 171,.mov (.t 170),(some (168, false))⟩,⟨some 172,.mov (.t 20),(some (171, true))⟩,⟨some 173,.eql (.one .i) false (.t 172) (.c (.int .i64 1)),(some (171, true))⟩,⟨some 174,.pick (.t 171) (.t 173) (.c (.bool false)),(some (168, false))⟩,⟨some 175,.pick (.t 168) (.c (.bool true)) (.t 174),none⟩])
 (.cond (.t 175) (.seq (.reg [⟨some 4,.mov (.c (.bool false)),none⟩])
 (.jump .ret))
 .skip))))))))
 (.reg [⟨some 95,.mov (.t 16),none⟩,⟨some 96,.bin .add (.t 95) (.c (.int .i64 1)),none⟩,⟨some 16,.mov (.t 96),none⟩]))
def L7_0 : ACode := .seq (.seq (.reg [⟨some 62,.mov (.t 13),none⟩,⟨some 63,.mov (.t 8),none⟩,⟨some 64,.len 1 (.t 63),none⟩,⟨some 65,.bin .leq (.t 62) (.t 64),none⟩])
 (.cond (.t 65) .skip
 (.jump (.exit 0))))
 (.seq (.block 1 (.seq (.reg [⟨some 69,.load (some 7) (.t 7),none⟩,⟨some 70,.mov (.t 13),none⟩,⟨some 71,.call (.c (.func 29 [] [])) [.t 69,.t 70],none⟩,⟨some 68,.mov (.t 71),none⟩,⟨some 72,.ext (.t 68) 0,none⟩,⟨some 73,.ext (.t 68) 1,none⟩,⟨some 14,.alloc [.int .i64 0, .int .i64 0],none⟩,⟨none,.store 2 (.t 14) (.t 72),none⟩,⟨some 15,.mov (.t 73),none⟩])
 (.seq (.seq (.dreg [⟨⟨some 74,.mov (.t 13),none⟩, 0, 0⟩,⟨⟨some 75,.mov (.t 8),none⟩, 0, 0⟩,⟨⟨some 76,.len 1 (.t 75),none⟩, 0, 0⟩,⟨⟨some 77,.bin .lss (.t 74) (.t 76),none⟩, 0, 0⟩,⟨⟨some 78,.mov (.t 77),none⟩, 0, 0⟩,⟨⟨some 79,.mov (.t 15),(some (78, true))⟩, 0, 0⟩,⟨⟨some 80,.eql (.one .i) true (.t 79) (.c (.int .i64 0)),(some (78, true))⟩, 0, 0⟩,⟨⟨some 81,.mov (.t 80),(some (78, true))⟩, 0, 0⟩,⟨⟨some 82,.mov (.t 8),(some (81, false))⟩, 0, 0⟩,⟨⟨some 83,.mov (.t 13),(some (81, false))⟩, 0, 0⟩,⟨⟨some 84,.iaddr none 1 (.t 82) (.t 83),(some (81, false))⟩, 0, 0⟩,⟨⟨some 85,.load none (.t 84),(some (81, false))⟩, 0, 0⟩,⟨⟨some 86,.load (some 2) (.t 14),(some (81, false))⟩, 0, 0⟩,⟨⟨some 87,.call (.c (.func 42 [] [])) [.t 85,.t 86],(some (81, false))⟩, 0, 1⟩,⟨⟨some 88,.not (.t 87),(some (81, false))⟩, 1, 1⟩,⟨⟨some 89,.pick (.t 81) (.c (.bool true)) (.t 88),(some (78, true))⟩, 1, 1⟩,⟨⟨some 90,.pick (.t 78) (.t 89) (.c (.bool false)),none⟩, 1, 1⟩])
 (.cond (.t 90) (.seq (.reg [⟨some 4,.mov (.c (.bool false)),none⟩])
 (.jump .ret))
 .skip))
 (.seq (.reg [⟨some 16,.mov (.c (.int .i64 0)),none⟩])
 (.block 2 (.loop L7_2))))))
 (.reg [⟨some 66,.mov (.t 13),none⟩,⟨some 67,.bin .add (.t 66) (.c (.int .i64 1)),none⟩,⟨some 13,.mov (.t 67),none⟩]))
def a7 : AFunc := ⟨177, [.tmp 4],
 .seq (.reg [⟨some 2,.box 7 (.t 0),none⟩,⟨some 4,.mov (.c (.bool false)),none⟩])
 (.seq (.seq (.reg [⟨some 25,.load (some 7) (.t 2),none⟩,⟨some 26,.call (.c (.func 38 [] [])) [.t 25],none⟩,⟨some 27,.not (.t 26),none⟩])
 (.cond (.t 27) (.seq (.reg [⟨some 29,.load (some 7) (.t 2),none⟩,⟨some 30,.call (.c (.func 33 [] [])) [.t 29],none⟩,⟨some 28,.mov (.t 30),none⟩,⟨some 31,.ext (.t 28) 0,none⟩,⟨some 32,.ext (.t 28) 1,none⟩,⟨some 5,.mov (.t 31),none⟩,⟨some 6,.mov (.t 32),none⟩])
 (.seq (.reg [⟨some 33,.mov (.t 6),none⟩,⟨some 34,.eql (.one .i) true (.t 33) (.c (.int .i64 0)),none⟩,⟨some 35,.mov (.t 34),none⟩,⟨some 36,.call (.c (.func 22 [] [])) [],(some (35, true))⟩,⟨some 37,.pick (.t 35) (.t 36) (.c (.bool false)),none⟩,⟨some 4,.mov (.t 37),none⟩])
 (.jump .ret)))
 .skip))
 (.seq (.reg [⟨some 39,.load (some 7) (.t 2),none⟩,⟨some 40,.mov (.t 1),none⟩,⟨some 41,.call (.c (.func 39 [] [])) [.t 39,.t 40],none⟩,⟨some 38,.mov (.t 41),none⟩,⟨some 42,.ext (.t 38) 0,none⟩,⟨some 43,.ext (.t 38) 1,none⟩,⟨some 44,.ext (.t 38) 2,none⟩,⟨some 7,.alloc [.lit [] true none, .int .i64 0, .int .i64 0, .int .i64 0, .int .i64 0, .lit [] true none, .lit [] true none],none⟩,⟨none,.store 7 (.t 7) (.t 42),none⟩,⟨some 8,.mov (.t 43),none⟩,⟨some 9,.mov (.t 44),none⟩])
 (.seq (.reg [⟨some 46,.load (some 7) (.t 7),none⟩,⟨some 47,.call (.c (.func 33 [] [])) [.t 46],none⟩,⟨some 45,.mov (.t 47),none⟩,⟨some 48,.ext (.t 45) 0,none⟩,⟨some 49,.ext (.t 45) 1,none⟩,⟨some 10,.mov (.t 48),none⟩,⟨some 11,.mov (.t 49),none⟩])
 (.seq (.seq (.reg [⟨some 50,.mov (.t 11),none⟩,⟨some 51,.eql (.one .i) true (.t 50) (.c (.int .i64 0)),none⟩,⟨some 52,.mov (.t 51),none⟩,⟨some 53,.mov (.t 10),(some (52, false))⟩,⟨some 54,.len 1 (.t 53),(some (52, false))⟩,⟨some 55,.bin .gtr (.t 54) (.c (.int .i64 0)),(some (52, false))⟩,⟨some 56,.pick (.t 52) (.c (.bool true)) (.t 55),none⟩])
 (.cond (.t 56) (.seq (.reg [⟨some 4,.mov (.c (.bool false)),none⟩])
 (.jump .ret))
 .skip))
 (.seq (.dreg [⟨⟨some 57,.faddr (.t 7) 3,none⟩, 0, 1⟩,⟨⟨some 58,.load (some 2) (.t 57),none⟩, 0, 1⟩,⟨⟨some 59,.mov (.t 1),none⟩, 0, 0⟩,⟨⟨some 60,.call (.c (.func 41 [] [])) [(.t 59), (.c (.int .i64 11))],none⟩, 0, 1⟩,⟨⟨some 61,.call (.c (.func 40 [] [])) [.t 58,.t 60],none⟩, 1, 2⟩,⟨⟨some 12,.mov (.t 61),none⟩, 2, 2⟩])
 (.seq (.seq (.reg [⟨some 13,.mov (.c (.int .i64 0)),none⟩])
 (.block 0 (.loop L7_0)))
 (.seq (.reg [⟨some 176,.call (.c (.func 22 [] [])) [],none⟩,⟨some 4,.mov (.t 176),none⟩])
 (.jump .ret))))))))⟩
def L8_0 : ACode := .seq (.seq (.reg [⟨some 106,.mov (.t 18),none⟩,⟨some 107,.mov (.t 12),none⟩,⟨some 108,.len 1 (.t 107),none⟩,⟨some 109,.bin .lss (.t 106) (.t 108),none⟩])
 (.cond (.t 109) .skip
 (.jump (.exit 0))))
 (.seq (.block 1 (.seq (.reg [⟨some 112,.mov (.t 15),none⟩,⟨some 113,.mov (.t 16),none⟩,⟨some 114,.mov (.t 12),none⟩,⟨some 115,.mov (.t 18),none⟩,⟨some 116,.iaddr none 1 (.t 114) (.t 115),none⟩,⟨some 117,.load none (.t 116),none⟩,⟨some 118,.iaddr none 1 (.t 113) (.t 117),none⟩,⟨some 119,.load none (.t 118),none⟩,⟨some 120,.mov (.t 10),none⟩,⟨some 121,.call (.c (.func 43 [] [])) [.t 112,.t 119,.t 120],none⟩,⟨some 19,.mov (.t 121),none⟩])
 (.seq (.reg [⟨some 122,.mov (.t 19),none⟩,⟨some 123,.mov (.t 17),none⟩,⟨some 124,.bin .add (.t 122) (.t 123),none⟩,⟨some 125,.faddr (.t 3) 2,none⟩,⟨some 126,.load none (.t 125),none⟩,⟨some 127,.bin .gtr (.t 124) (.t 126),none⟩,⟨some 128,.mov (.t 127),none⟩,⟨some 129,.mov (.t 19),(some (128, false))⟩,⟨some 130,.faddr (.t 3) 1,(some (128, false))⟩,⟨some 131,.load none (.t 130),(some (128, false))⟩,⟨some 132,.bin .lss (.t 129) (.t 131),(some (128, false))⟩,⟨some 133,.mov (.t 132),(some (128, false))⟩,⟨some 134,.mov (.t 13),(some (133, true))⟩,⟨some 135,.mov (.t 12),(some (133, true))⟩,⟨some 136,.mov (.t 18),(some (133, true))⟩,⟨some 137,.iaddr none 1 (.t 135) (.t 136),(some (133, true))⟩,⟨some 138,.load none (.t 137),(some (133, true))⟩,⟨some 139,.call (.c (.func 44 [] [])) [.t 134,.t 138],(some (133, true))⟩,⟨some 140,.not (.t 139),(some (133, true))⟩,⟨some 141,.pick (.t 133) (.t 140) (.c (.bool false)),(some (128, false))⟩,⟨some 142,.pick (.t 128) (.c (.bool true)) (.t 141),none⟩])
 (.cond (.t 142) (.seq (.reg [⟨some 6,.mov (.c (.bool false)),none⟩])
 (.jump .ret))
 .skip))))
 (.reg [⟨some 110,.mov (.t 18),none⟩,⟨some 111,.bin .add (.t 110) (.c (.int .i64 1)),none⟩,⟨some 18,.mov (.t 111),none⟩]))
def L8_2 : ACode := .seq (.seq (.reg [⟨some 143,.mov (.t 20),none⟩,⟨some 144,.mov (.t 13),none⟩,⟨some 145,.len 1 (.t 144),none⟩,⟨some 146,.bin .lss (.t 143) (.t 145),none⟩])
 (.cond (.t 146) .skip
 (.jump (.exit 2))))
 (.seq (.block 3 (.seq (.dreg [⟨⟨some 150,.load (some 7) (.t 3),none⟩, 0, 0⟩,⟨⟨some 151,.mov (.t 13),none⟩, 0, 0⟩,⟨⟨some 152,.mov (.t 20),none⟩, 0, 0⟩,⟨⟨some 153,.iaddr none 1 (.t 151) (.t 152),none⟩, 0, 0⟩,⟨⟨some 154,.load none (.t 153),none⟩, 0, 0⟩,⟨⟨some 155,.mov (.t 10),none⟩, 0, 0⟩,⟨⟨some 156,.call (.c (.func 17 [] [])) [.t 150,.t 154,.t 155],none⟩, 0, 1⟩,⟨⟨some 149,.mov (.t 156),none⟩, 1, 1⟩,⟨⟨some 157,.ext (.t 149) 0,none⟩, 1, 1⟩,⟨⟨some 158,.ext (.t 149) 1,none⟩, 1, 2⟩,⟨⟨some 21,.alloc [.int .i64 0, .int .i64 0],none⟩, 0, 1⟩,⟨⟨none,.store 2 (.t 21) (.t 157),none⟩, 1, 2⟩,⟨⟨some 22,.mov (.t 158),none⟩, 2, 2⟩])
 (.seq (.reg [⟨some 159,.mov (.t 22),none⟩,⟨some 160,.eql (.one .i) true (.t 159) (.c (.int .i64 0)),none⟩,⟨some 161,.mov (.t 160),none⟩,⟨some 162,.mov (.t 12),(some (161, false))⟩,⟨some 163,.mov (.t 13),(some (161, false))⟩,⟨some 164,.mov (.t 20),(some (161, false))⟩,⟨some 165,.iaddr none 1 (.t 163) (.t 164),(some (161, false))⟩,⟨some 166,.load none (.t 165),(some (161, false))⟩,⟨some 167,.call (.c (.func 44 [] [])) [.t 162,.t 166],(some (161, false))⟩,⟨some 168,.not (.t 167),(some (161, false))⟩,⟨some 169,.pick (.t 161) (.c (.bool true)) (.t 168),none⟩,⟨some 170,.mov (.t 169),none⟩,⟨some 171,.faddr (.t 21) 0,(some (170, false))⟩,⟨some 172,.load none (.t 171),(some (170, false))⟩,⟨some 173,.faddr (.t 3) 1,(some (170, false))⟩,⟨some 174,.load none (.t 173),(some (170, false))⟩,⟨some 175,.bin .geq (.t 172) (.t 174),(some (170, false))⟩,⟨some 176,.pick (.t 170) (.c (.bool true)) (.t 175),none⟩])
 (.cond (.t 176) (.seq (.reg [⟨some 6,.mov (.c (.bool false)),none⟩])
 (.jump .ret))
 .skip))))
 (.reg [⟨some 147,.mov (.t 20),none⟩,⟨some 148,.bin .add (.t 147) (.c (.int .i64 1)),none⟩,⟨some 20,.mov (.t 148),none⟩]))
def a8 : AFunc := ⟨178, [.tmp 6],
 .seq (.reg [⟨some 3,.box 7 (.t 0),none⟩,⟨some 4,.box 2 (.t 1),none⟩,⟨some 6,.mov (.c (.bool false)),none⟩])
 (.seq (.seq (.reg [⟨some 23,.load (some 7) (.t 3),none⟩,⟨some 24,.call (.c (.func 45 [] [])) [.t 23],none⟩,⟨some 25,.not (.t 24),none⟩])
 (.cond (.t 25) (.seq (.reg [⟨some 27,.load (some 7) (.t 3),none⟩,⟨some 28,.call (.c (.func 31 [] [])) [(.t 27), (.c (.int .i64 0)), (.c (.int .i64 0))],none⟩,⟨some 26,.mov (.t 28),none⟩,⟨some 29,.ext (.t 26) 0,none⟩,⟨some 30,.ext (.t 26) 1,none⟩,⟨some 31,.ext (.t 26) 2,none⟩,⟨some 7,.mov (.t 29),none⟩,⟨some 8,.mov (.t 30),none⟩,⟨some 9,.mov (.t 31),none⟩])
 (.seq (.reg [⟨some 32,.mov (.t 9),none⟩,⟨some 33,.eql (.one .i) true (.t 32) (.c (.int .i64 0)),none⟩,⟨some 34,.mov (.t 33),none⟩,⟨some 35,.call (.c (.func 22 [] [])) [],(some (34, true))⟩,⟨some 36,.pick (.t 34) (.t 35) (.c (.bool false)),none⟩,⟨some 6,.mov (.t 36),none⟩])
 (.jump .ret)))
 .skip))
 (.seq (.dreg [⟨⟨some 37,.faddr (.t 4) 0,none⟩, 0, 0⟩,⟨⟨some 38,.load none (.t 37),none⟩, 0, 0⟩,⟨⟨some 39,.conv .i64 (.t 38),none⟩, 0, 0⟩,⟨⟨some 40,.faddr (.t 3) 0,none⟩, 0, 0⟩,⟨⟨some 41,.load none (.t 40),none⟩, 0, 0⟩,⟨⟨some 42,.len 1 (.t 41),none⟩, 0, 0⟩,⟨⟨some 43,.bin .add (.t 42) (.c (.int .i64 1)),none⟩, 0, 0⟩,⟨⟨some 44,.bin .rem (.t 39) (.t 43),none⟩, 0, 0⟩,⟨⟨some 45,.faddr (.t 4) 1,none⟩, 0, 0⟩,⟨⟨some 46,.load none (.t 45),none⟩, 0, 0⟩,⟨⟨some 47,.conv .i64 (.t 46),none⟩, 0, 0⟩,⟨⟨some 48,.bin .rem (.t 47) (.c (.int .i64 401)),none⟩, 0, 0⟩,⟨⟨some 10,.mov (.t 44),none⟩, 0, 0⟩,⟨⟨some 11,.mov (.t 48),none⟩, 0, 0⟩])
 (.seq (.reg [⟨some 50,.load (some 7) (.t 3),none⟩,⟨some 51,.mov (.t 10),none⟩,⟨some 52,.mov (.t 11),none⟩,⟨some 53,.call (.c (.func 31 [] [])) [.t 50,.t 51,.t 52],none⟩,⟨some 49,.mov (.t 53),none⟩,⟨some 54,.ext (.t 49) 0,none⟩,⟨some 55,.ext (.t 49) 1,none⟩,⟨some 56,.ext (.t 49) 2,none⟩,⟨some 12,.mov (.t 54),none⟩,⟨some 13,.mov (.t 55),none⟩,⟨some 14,.mov (.t 56),none⟩])
 (.seq (.seq (.reg [⟨some 57,.mov (.t 14),none⟩,⟨some 58,.eql (.one .i) true (.t 57) (.c (.int .i64 0)),none⟩])
 (.cond (.t 58) (.seq (.reg [⟨some 59,.mov (.t 14),none⟩,⟨some 60,.eql (.one .i) false (.t 59) (.c (.int .i64 9)),none⟩,⟨some 61,.mov (.t 60),none⟩,⟨some 62,.mov (.t 12),(some (61, true))⟩,⟨some 63,.len 1 (.t 62),(some (61, true))⟩,⟨some 64,.eql (.one .i) false (.t 63) (.c (.int .i64 0)),(some (61, true))⟩,⟨some 65,.pick (.t 61) (.t 64) (.c (.bool false)),none⟩,⟨some 66,.mov (.t 65),none⟩,⟨some 67,.mov (.t 13),(some (66, true))⟩,⟨some 68,.len 1 (.t 67),(some (66, true))⟩,⟨some 69,.eql (.one .i) false (.t 68) (.c (.int .i64 0)),(some (66, true))⟩,⟨some 70,.pick (.t 66) (.t 69) (.c (.bool false)),none⟩,⟨some 71,.mov (.t 70),none⟩,⟨some 72,.call (.c (.func 22 [] [])) [],(some (71, true))⟩,⟨some 73,.pick (.t 71) (.t 72) (.c (.bool false)),none⟩,⟨some 6,.mov (.t 73),none⟩])
 (.jump .ret))
 .skip))
 (.seq (.seq (.reg [⟨some 74,.mov (.t 12),none⟩,⟨some 75,.faddr (.t 3) 5,none⟩,⟨some 76,.load none (.t 75),none⟩,⟨some 77,.len 1 (.t 76),none⟩,⟨some 78,.call (.c (.func 46 [] [])) [.t 74,.t 77],none⟩,⟨some 79,.not (.t 78),none⟩,⟨some 80,.mov (.t 79),none⟩,⟨some 81,.mov (.t 13),(some (80, false))⟩,⟨some 82,.faddr (.t 3) 5,(some (80, false))⟩,⟨some 83,.load none (.t 82),(some (80, false))⟩,⟨some 84,.len 1 (.t 83),(some (80, false))⟩,⟨some 85,.call (.c (.func 46 [] [])) [.t 81,.t 84],(some (80, false))⟩,⟨some 86,.not (.t 85),(some (80, false))⟩,⟨some 87,.pick (.t 80) (.c (.bool true)) (.t 86),none⟩,⟨some 88,.mov (.t 87),none⟩,⟨some 89,.load (some 7) (.t 3),(some (88, false))⟩,⟨some 90,.mov (.t 12),(some (88, false))⟩,⟨some 91,.call (.c (.func 47 [] [])) [.t 89,.t 90],(some (88, false))⟩,⟨some 92,.mov (.t 11),(some (88, false))⟩,⟨some 93,.bin .lss (.t 91) (.t 92),(some (88, false))⟩,⟨some 94,.pick (.t 88) (.c (.bool true)) (.t 93),none⟩])
 (.cond (.t 94) (.seq (.reg [⟨some 6,.mov (.c (.bool false)),none⟩])
 (.jump .ret))
 .skip))
 (.seq (.reg [⟨some 96,.load (some 7) (.t 3),none⟩,⟨some 97,.mov (.t 2),none⟩,⟨some 98,.call (.c (.func 48 [] [])) [.t 96,.t 97],none⟩,⟨some 95,.mov (.t 98),none⟩,⟨some 99,.ext (.t 95) 0,none⟩,⟨some 100,.ext (.t 95) 1,none⟩,⟨some 15,.mov (.t 99),none⟩,⟨some 16,.mov (.t 100),none⟩])
 (.seq (.dreg [⟨⟨some 101,.faddr (.t 3) 3,none⟩, 0, 1⟩,⟨⟨some 102,.load (some 2) (.t 101),none⟩, 0, 1⟩,⟨⟨some 103,.mov (.t 2),none⟩, 0, 0⟩,⟨⟨some 104,.call (.c (.func 41 [] [])) [(.t 103), (.c (.int .i64 6))],none⟩, 0, 1⟩,⟨⟨some 105,.call (.c (.func 40 [] [])) [.t 102,.t 104],none⟩, 1, 2⟩,⟨⟨some 17,.mov (.t 105),none⟩, 2, 2⟩])
 (.seq (.seq (.reg [⟨some 18,.mov (.c (.int .i64 0)),none⟩])
 (.block 0 (.loop L8_0)))
 (.seq (.seq (.reg [⟨some 20,.mov (.c (.int .i64 0)),none⟩])
 (.block 2 (.loop L8_2)))
 (.seq (.reg [⟨some 177,.call (.c (.func 22 [] [])) [],none⟩,⟨some 6,.mov (.t 177),none⟩])
 (.jump .ret)))))))))))⟩
def L9_0 : ACode := .seq (.seq (.reg [⟨some 56,.mov (.t 17),none⟩,⟨some 57,.faddr (.t 3) 5,none⟩,⟨some 58,.load none (.t 57),none⟩,⟨some 59,.len 1 (.t 58),none⟩,⟨some 60,.bin .lss (.t 56) (.t 59),none⟩])
 (.cond (.t 60) .skip
 (.jump (.exit 0))))
 (.seq (.block 1 (.seq (.reg [⟨some 63,.mov (.t 2),none⟩,⟨some 64,.conv .i64 (.t 63),none⟩,⟨some 65,.mov (.t 17),none⟩,⟨some 66,.call (.c (.func 50 [] [])) [.t 64,.t 65],none⟩])
 (.cond (.t 66) (.reg [⟨some 67,.mov (.t 16),none⟩,⟨some 68,.mov (.t 17),none⟩,⟨some 69,.mklit 1 [.t 68],none⟩,⟨some 70,.append 1 8 (.t 67) (.t 69),none⟩,⟨some 16,.mov (.t 70),none⟩])
 .skip)))
 (.reg [⟨some 61,.mov (.t 17),none⟩,⟨some 62,.bin .add (.t 61) (.c (.int .i64 1)),none⟩,⟨some 17,.mov (.t 62),none⟩]))
def a9 : AFunc := ⟨143, [.tmp 6],
 .seq (.reg [⟨some 3,.box 7 (.t 0),none⟩,⟨some 4,.box 2 (.t 1),none⟩,⟨some 6,.mov (.c (.bool false)),none⟩])
 (.seq (.seq (.reg [⟨some 20,.load (some 7) (.t 3),none⟩,⟨some 21,.call (.c (.func 45 [] [])) [.t 20],none⟩,⟨some 22,.not (.t 21),none⟩])
 (.cond (.t 22) (.seq (.reg [⟨some 24,.load (some 7) (.t 3),none⟩,⟨some 25,.call (.c (.func 31 [] [])) [(.t 24), (.c (.int .i64 0)), (.c (.int .i64 0))],none⟩,⟨some 23,.mov (.t 25),none⟩,⟨some 26,.ext (.t 23) 0,none⟩,⟨some 27,.ext (.t 23) 1,none⟩,⟨some 28,.ext (.t 23) 2,none⟩,⟨some 7,.mov (.t 26),none⟩,⟨some 8,.mov (.t 27),none⟩,⟨some 9,.mov (.t 28),none⟩])
 (.seq (.reg [⟨some 29,.mov (.t 9),none⟩,⟨some 30,.eql (.one .i) true (.t 29) (.c (.int .i64 0)),none⟩,⟨some 31,.mov (.t 30),none⟩,⟨some 32,.call (.c (.func 22 [] [])) [],(some (31, true))⟩,⟨some 33,.pick (.t 31) (.t 32) (.c (.bool false)),none⟩,⟨some 6,.mov (.t 33),none⟩])
 (.jump .ret)))
 .skip))
 (.seq (.dreg [⟨⟨some 34,.faddr (.t 4) 0,none⟩, 0, 0⟩,⟨⟨some 35,.load none (.t 34),none⟩, 0, 0⟩,⟨⟨some 36,.conv .i64 (.t 35),none⟩, 0, 0⟩,⟨⟨some 37,.faddr (.t 3) 0,none⟩, 0, 0⟩,⟨⟨some 38,.load none (.t 37),none⟩, 0, 0⟩,⟨⟨some 39,.len 1 (.t 38),none⟩, 0, 0⟩,⟨⟨some 40,.bin .add (.t 39) (.c (.int .i64 1)),none⟩, 0, 0⟩,⟨⟨some 41,.bin .rem (.t 36) (.t 40),none⟩, 0, 0⟩,⟨⟨some 42,.faddr (.t 4) 1,none⟩, 0, 0⟩,⟨⟨some 43,.load none (.t 42),none⟩, 0, 0⟩,⟨⟨some 44,.conv .i64 (.t 43),none⟩, 0, 0⟩,⟨⟨some 45,.bin .rem (.t 44) (.c (.int .i64 401)),none⟩, 0, 0⟩,⟨⟨some 10,.mov (.t 41),none⟩, 0, 0⟩,⟨⟨some 11,.mov (.t 45),none⟩, 0, 0⟩])
 (.seq (.reg [⟨some 47,.load (some 7) (.t 3),none⟩,⟨some 48,.mov (.t 10),none⟩,⟨some 49,.mov (.t 11),none⟩,⟨some 50,.call (.c (.func 31 [] [])) [.t 47,.t 48,.t 49],none⟩,⟨some 46,.mov (.t 50),none⟩,⟨some 51,.ext (.t 46) 0,none⟩,⟨some 52,.ext (.t 46) 1,none⟩,⟨some 53,.ext (.t 46) 2,none⟩,⟨some 12,.mov (.t 51),none⟩,⟨some 13,.mov (.t 52),none⟩,⟨some 14,.mov (.t 53),none⟩])
 (.seq (.reg [⟨some 54,.load (some 7) (.t 3),none⟩,⟨some 55,.call (.c (.func 49 [] [])) [(.t 54), (.c (.lit [] true none))],none⟩,⟨some 15,.mov (.t 55),none⟩])
 (.seq (.reg [⟨some 16,.mov (.c (.lit [] true none)),none⟩])
 (.seq (.seq (.reg [⟨some 17,.mov (.c (.int .i64 0)),none⟩])
 (.block 0 (.loop L9_0)))
 (.seq (.reg [⟨some 71,.load (some 7) (.t 3),none⟩,⟨some 72,.mov (.t 15),none⟩,⟨some 73,.mov (.t 16),none⟩,⟨some 74,.mov (.t 10),none⟩,⟨some 75,.mov (.t 11),none⟩,⟨some 76,.call (.c (.func 51 [] [])) [.t 71,.t 72,.t 73,.t 74,.t 75],none⟩,⟨some 18,.mov (.t 76),none⟩])
 (.seq (.seq (.reg [⟨some 77,.mov (.t 14),none⟩,⟨some 78,.eql (.one .i) true (.t 77) (.c (.int .i64 0)),none⟩])
 (.cond (.t 78) (.seq (.reg [⟨some 79,.mov (.t 14),none⟩,⟨some 80,.eql (.one .i) false (.t 79) (.c (.int .i64 9)),none⟩,⟨some 81,.mov (.t 80),none⟩,⟨some 82,.mov (.t 18),(some (81, true))⟩,⟨some 83,.not (.t 82),(some (81, true))⟩,⟨some 84,.pick (.t 81) (.t 83) (.c (.bool false)),none⟩,⟨some 85,.mov (.t 84),none⟩,⟨some 86,.call (.c (.func 22 [] [])) [],(some (85, true))⟩,⟨some 87,.pick (.t 85) (.t 86) (.c (.bool false)),none⟩,⟨some 6,.mov (.t 87),none⟩])
 (.jump .ret))
 .skip))
 (.seq (.seq (.reg [⟨some 88,.mov (.t 12),none⟩,⟨some 89,.faddr (.t 3) 5,none⟩,⟨some 90,.load none (.t 89),none⟩,⟨some 91,.len 1 (.t 90),none⟩,⟨some 92,.call (.c (.func 46 [] [])) [.t 88,.t 91],none⟩,⟨some 93,.not (.t 92),none⟩,⟨some 94,.mov (.t 93),none⟩,⟨some 95,.load (some 7) (.t 3),(some (94, false))⟩,⟨some 96,.mov (.t 15),(some (94, false))⟩,⟨some 97,.mov (.t 12),(some (94, false))⟩,⟨some 98,.mov (.t 10),(some (94, false))⟩,⟨some 99,.mov (.t 11),(some (94, false))⟩,⟨some 100,.call (.c (.func 51 [] [])) [.t 95,.t 96,.t 97,.t 98,.t 99],(some (94, false))⟩,⟨some 101,.not (.t 100),(some (94, false))⟩,⟨some 102,.pick (.t 94) (.c (.bool true)) (.t 101),none⟩,⟨some 103,.mov (.t 102),none⟩,⟨some 104,.mov (.t 13),(some (103, false))⟩,⟨some 105,.load (some 7) (.t 3),(some (103, false))⟩,⟨some 106,.mov (.t 15),(some (103, false))⟩,⟨some 107,.mov (.t 12),(some (103, false))⟩,⟨some 108,.mov (.t 10),(some (103, false))⟩,⟨some 109,.call (.c (.func 52 [] [])) [.t 105,.t 106,.t 107,.t 108],(some (103, false))⟩,⟨some 110,.call (.c (.func 21 [] [])) [.t 104,.t 109],(some (103, false))⟩,⟨some 111,.not (.t 110),(some (103, false))⟩,⟨some 112,.pick (.t 103) (.c (.bool true)) (.t 111),none⟩])
 (.cond (.t 112) (.seq (.reg [⟨some 6,.mov (.c (.bool false)),none⟩])
 (.jump .ret))
 .skip))
 (.seq (.reg [⟨some 113,.load (some 7) (.t 3),none⟩,⟨some 114,.mov (.t 15),none⟩,⟨some 115,.mov (.t 16),none⟩,⟨some 116,.mov (.t 10),none⟩,⟨some 117,.call (.c (.func 52 [] [])) [.t 113,.t 114,.t 115,.t 116],none⟩,⟨some 19,.mov (.t 117),none⟩])
 (.seq (.reg [⟨some 118,.mov (.t 18),none⟩,⟨some 119,.not (.t 118),none⟩,⟨some 120,.mov (.t 119),none⟩,⟨some 121,.mov (.t 19),(some (120, false))⟩,⟨some 122,.len 1 (.t 121),(some (120, false))⟩,⟨some 123,.mov (.t 13),(some (120, false))⟩,⟨some 124,.len 1 (.t 123),(some (120, false))⟩,⟨some 125,.bin .gtr (.t 122) (.t 124),(some (120, false))⟩,⟨some 126,.pick (.t 120) (.c (.bool true)) (.t 125),none⟩,⟨some 127,.mov (.t 126),none⟩,⟨some 128,.mov (.t 19),(some (127, false))⟩,⟨some 129,.len 1 (.t 128),(some (127, false))⟩,⟨some 130,.mov (.t 13),(some (127, false))⟩,⟨some 131,.len 1 (.t 130),(some (127, false))⟩,⟨some 132,.eql (.one .i) false (.t 129) (.t 131),(some (127, false))⟩,⟨some 133,.mov (.t 132),(some (127, false))⟩,⟨some 134,.mov (.t 16),(some (133, true))⟩,⟨some 135,.mov (.t 12),(some (133, true))⟩,⟨some 136,.call (.c (.func 53 [] [])) [.t 134,.t 135],(some (133, true))⟩,⟨some 137,.not (.t 136),(some (133, true))⟩,⟨some 138,.pick (.t 133) (.t 137) (.c (.bool false)),(some (127, false))⟩,⟨some 139,.pick (.t 127) (.c (.bool true)) (.t 138),none⟩,⟨some 140,.mov (.t 139),none⟩,⟨some 141,.call (.c (.func 22 [] [])) [],(some (140, true))⟩,⟨some 142,.pick (.t 140) (.t 141) (.c (.bool false)),none⟩,⟨some 6,.mov (.t 142),none⟩])
 (.jump .ret))))))))))))⟩
def L10_0 : ACode := .seq (.seq (.reg [⟨some 27,.mov (.t 8),none⟩,⟨some 28,.faddr (.t 2) 6,none⟩,⟨some 29,.load none (.t 28),none⟩,⟨some 30,.len 1 (.t 29),none⟩,⟨some 31,.bin .lss (.t 27) (.t 30),none⟩])
 (.cond (.t 31) .skip
 (.jump (.exit 0))))
 (.seq (.block 1 (.seq (.reg [⟨some 34,.mov (.t 1),none⟩,⟨some 35,.conv .i64 (.t 34),none⟩,⟨some 36,.mov (.t 8),none⟩,⟨some 37,.call (.c (.func 50 [] [])) [.t 35,.t 36],none⟩])
 (.cond (.t 37) (.reg [⟨some 38,.mov (.t 7),none⟩,⟨some 39,.mov (.t 8),none⟩,⟨some 40,.mklit 1 [.t 39],none⟩,⟨some 41,.append 1 8 (.t 38) (.t 40),none⟩,⟨some 7,.mov (.t 41),none⟩])
 .skip)))
 (.reg [⟨some 32,.mov (.t 8),none⟩,⟨some 33,.bin .add (.t 32) (.c (.int .i64 1)),none⟩,⟨some 8,.mov (.t 33),none⟩]))
def a10 : AFunc := ⟨74, [.tmp 4],
 .seq (.reg [⟨some 2,.box 7 (.t 0),none⟩,⟨some 4,.mov (.c (.bool false)),none⟩])
 (.seq (.reg [⟨some 10,.load (some 7) (.t 2),none⟩,⟨some 11,.call (.c (.func 33 [] [])) [.t 10],none⟩,⟨some 9,.mov (.t 11),none⟩,⟨some 12,.ext (.t 9) 0,none⟩,⟨some 13,.ext (.t 9) 1,none⟩,⟨some 5,.mov (.t 12),none⟩,⟨some 6,.mov (.t 13),none⟩])
 (.seq (.seq (.reg [⟨some 14,.load (some 7) (.t 2),none⟩,⟨some 15,.call (.c (.func 38 [] [])) [.t 14],none⟩,⟨some 16,.not (.t 15),none⟩])
 (.cond (.t 16) (.seq (.reg [⟨some 17,.mov (.t 6),none⟩,⟨some 18,.eql (.one .i) true (.t 17) (.c (.int .i64 0)),none⟩,⟨some 19,.mov (.t 18),none⟩,⟨some 20,.mov (.t 5),(some (19, true))⟩,⟨some 21,.len 1 (.t 20),(some (19, true))⟩,⟨some 22,.eql (.one .i) false (.t 21) (.c (.int .i64 0)),(some (19, true))⟩,⟨some 23,.pick (.t 19) (.t 22) (.c (.bool false)),none⟩,⟨some 24,.mov (.t 23),none⟩,⟨some 25,.call (.c (.func 22 [] [])) [],(some (24, true))⟩,⟨some 26,.pick (.t 24) (.t 25) (.c (.bool false)),none⟩,⟨some 4,.mov (.t 26),none⟩])
 (.jump .ret))
 .skip))
 (.seq (.reg [⟨some 7,.mov (.c (.lit [] true none)),none⟩])
 (.seq (.seq (.reg [⟨some 8,.mov (.c (.int .i64 0)),none⟩])
 (.block 0 (.loop L10_0)))
 (.seq (.reg [⟨some 42,.mov (.t 6),none⟩,⟨some 43,.eql (.one .i) false (.t 42) (.c (.int .i64 0)),none⟩,⟨some 44,.mov (.t 43),none⟩,⟨some 45,.mov (.t 5),(some (44, true))⟩,⟨some 46,.faddr (.t 2) 6,(some (44, true))⟩,⟨some 47,.load none (.t 46),(some (44, true))⟩,⟨some 48,.len 1 (.t 47),(some (44, true))⟩,⟨some 49,.call (.c (.func 46 [] [])) [.t 45,.t 48],(some (44, true))⟩,⟨some 50,.pick (.t 44) (.t 49) (.c (.bool false)),none⟩,⟨some 51,.mov (.t 50),none⟩,⟨some 52,.load (some 7) (.t 2),(some (51, true))⟩,⟨some 53,.mov (.t 5),(some (51, true))⟩,⟨some 54,.call (.c (.func 49 [] [])) [.t 52,.t 53],(some (51, true))⟩,⟨some 55,.len 1 (.t 54),(some (51, true))⟩,⟨some 56,.bin .gtr (.t 55) (.c (.int .i64 0)),(some (51, true))⟩,⟨some 57,.pick (.t 51) (.t 56) (.c (.bool false)),none⟩,⟨some 58,.mov (.t 57),none⟩,⟨some 59,.load (some 7) (.t 2),(some (58, true))⟩,⟨some 60,.mov (.t 7),(some (58, true))⟩,⟨some 61,.call (.c (.func 49 [] [])) [.t 59,.t 60],(some (58, true))⟩,⟨some 62,.len 1 (.t 61),(some (58, true))⟩,⟨some 63,.eql (.one .i) false (.t 62) (.c (.int .i64 0)),(some (58, true))⟩,⟨some 64,.mov (.t 63),(some (58, true))⟩,⟨some 65,.mov (.t 7),(some (64, false))⟩,⟨some 66,.mov (.t 5),(some (64, false))⟩,⟨some 67,.call (.c (.func 53 [] [])) [.t 65,.t 66],(some (64, false))⟩,⟨some 68,.not (.t 67),(some (64, false))⟩,⟨some 69,.pick (.t 64) (.c (.bool true)) (.t 68),(some (58, true))⟩,⟨some 70,.pick (.t 58) (.t 69) (.c (.bool false)),none⟩,⟨some 71,.mov (.t 70),none⟩,⟨some 72,.call (.c (.func 22 [] [])) [],(some (71, true))⟩,⟨some 73,.pick (.t 71) (.t 72) (.c (.bool false)),none⟩,⟨some 4,.mov (.t 73),none⟩])
 (.jump .ret))))))⟩
def L11_0 : ACode := .seq (.seq (.reg [⟨some 64,.mov (.t 10),none⟩,⟨some 65,.faddr (.t 3) 5,none⟩,⟨some 66,.load none (.t 65),none⟩,⟨some 67,.len 1 (.t 66),none⟩,⟨some 68,.bin .lss (.t 64) (.t 67),none⟩])
 (.cond (.t 68) .skip
 (.jump (.exit 0))))
 (.seq (.block 1 (.seq (.reg [⟨some 72,.load (some 7) (.t 3),none⟩,⟨some 73,.mov (.t 10),none⟩,⟨some 74,.mov (.t 8),none⟩,⟨some 75,.call (.c (.func 17 [] [])) [.t 72,.t 73,.t 74],none⟩,⟨some 71,.mov (.t 75),none⟩,⟨some 76,.ext (.t 71) 0,none⟩,⟨some 77,.ext (.t 71) 1,none⟩,⟨some 11,.alloc [.int .i64 0, .int .i64 0],none⟩,⟨none,.store 2 (.t 11) (.t 76),none⟩,⟨some 12,.mov (.t 77),none⟩])
 (.seq (.reg [⟨some 79,.load (some 7) (.t 7),none⟩,⟨some 80,.mov (.t 10),none⟩,⟨some 81,.mov (.t 8),none⟩,⟨some 82,.call (.c (.func 17 [] [])) [.t 79,.t 80,.t 81],none⟩,⟨some 78,.mov (.t 82),none⟩,⟨some 83,.ext (.t 78) 0,none⟩,⟨some 84,.ext (.t 78) 1,none⟩,⟨some 13,.alloc [.int .i64 0, .int .i64 0],none⟩,⟨none,.store 2 (.t 13) (.t 83),none⟩,⟨some 14,.mov (.t 84),none⟩])
 (.seq (.reg [⟨some 86,.load (some 7) (.t 3),none⟩,⟨some 87,.mov (.t 10),none⟩,⟨some 88,.mov (.t 8),none⟩,⟨some 89,.call (.c (.func 23 [] [])) [.t 86,.t 87,.t 88],none⟩,⟨some 85,.mov (.t 89),none⟩,⟨some 90,.ext (.t 85) 0,none⟩,⟨some 91,.ext (.t 85) 1,none⟩,⟨some 15,.mov (.t 90),none⟩,⟨some 16,.mov (.t 91),none⟩])
 (.seq (.reg [⟨some 93,.load (some 7) (.t 7),none⟩,⟨some 94,.mov (.t 10),none⟩,⟨some 95,.mov (.t 8),none⟩,⟨some 96,.call (.c (.func 23 [] [])) [.t 93,.t 94,.t 95],none⟩,⟨some 92,.mov (.t 96),none⟩,⟨some 97,.ext (.t 92) 0,none⟩,⟨some 98,.ext (.t 92) 1,none⟩,⟨some 17,.mov (.t 97),none⟩,⟨some 18,.mov (.t 98),none⟩])
 (.seq (.reg [⟨some 100,.load (some 7) (.t 3),none⟩,⟨some 101,.mov (.t 10),none⟩,⟨some 102,.call (.c (.func 27 [] [])) [.t 100,.t 101],none⟩,⟨some 99,.mov (.t 102),none⟩,⟨some 103,.ext (.t 99) 0,none⟩,⟨some 104,.ext (.t 99) 1,none⟩,⟨some 19,.mov (.t 103),none⟩,⟨some 20,.mov (.t 104),none⟩])
 (.seq (.reg [⟨some 106,.load (some 7) (.t 7),none⟩,⟨some 107,.mov (.t 10),none⟩,⟨some 108,.call (.c (.func 27 [] [])) [.t 106,.t 107],none⟩,⟨some 105,.mov (.t 108),none⟩,⟨some 109,.ext (.t 105) 0,none⟩,⟨some 110,.ext (.t 105) 1,none⟩,⟨some 21,.mov (.t 109),none⟩,⟨some 22,.mov (.t 110),none⟩])
 (.seq (.reg [⟨some 111,.mov (.t 12),none⟩,⟨some 112,.eql (.one .i) true (.t 111) (.c (.int .i64 0)),none⟩,⟨some 113,.mov (.t 112),none⟩,⟨some 114,.mov (.t 14),(some (113, false))⟩,⟨some 115,.eql (.one .i) true (.t 114) (.c (.int .i64 0)),(some (113, false))⟩,⟨some 116,.pick (.t 113) (.c (.bool true)) (.t 115),none⟩,⟨some 117,.mov (.t 116),none⟩,⟨some 118,.mov (.t 16),(some (117, false))⟩,⟨some 119,.eql (.one .i) true (.t 118) (.c (.int .i64 0)),(some (117, false))⟩,⟨some 120,.pick (.t 117) (.c (.bool true)) (.t 119),none⟩,⟨some 121,.mov (.t 120),none⟩,⟨some 122,.mov (.t 18),(some (121, false))⟩,⟨some 123,.eql (.one .i) true (.t 122) (.c (.int .i64 0)),(some (121, false))⟩,⟨some 124,.pick (.t 121) (.c (.bool true)) (.t 123),none⟩,⟨some 125,.mov (.t 124),none⟩,⟨some 126,.load (some 2) (.t 13),(some (125, false))⟩,⟨some 127,.load (some 2) (.t 11),(some (125, false))⟩,⟨some 128,.call (.c (.func 54 [] [])) [.t 126,.t 127],(some (125, false))⟩,⟨some 129,.not (.t 128),(some (125, false))⟩,⟨some 130,.pick (.t 125) (.c (.bool true)) (.t 129),none⟩,⟨some 131,.mov (.t 130),none⟩,⟨some 132,.mov (.t 15),(some (131, false))⟩,⟨some 133,.eql (.one .i) true (.t 132) (.c (.int .i64 0)),(some (131, false))⟩,⟨some 134,.mov (.t 133),(some (131, false))⟩,⟨some 135,.mov (.t 15),(some (134, true))⟩,⟨some 136,.mov (.t 17),(some (134, true))⟩,⟨some 137,.eql (.one .i) true (.t 135) (.t 136),(some (134, true))⟩,⟨some 138,.pick (.t 134) (.t 137) (.c (.bool false)),(some (131, false))⟩,⟨some 139,.pick (.t 131) (.c (.bool true)) (.t 138),none⟩,⟨some 140,.mov (.t 139),none⟩,⟨some 141,.mov (.t 20),(some (140, false))⟩,⟨some 142,.eql (.one .i) false (.t 141) (.c (.int .i64 0)),(some (140, false))⟩,⟨some 143,.mov (.t 142),(some (140, false))⟩,⟨some 144,.mov (.t 22),(some (143, true))⟩,⟨some 145,.eql (.one .i) true (.t 144) (.c (.int .i64 0)),(some (143, true))⟩,⟨some 146,.mov (.t 145),(some (143, true))⟩,⟨some 147,.mov (.t 21),(some (146, false))⟩,⟨some 148,.mov (.t 19),(some (146, false))⟩,⟨some 149,.bin .lss (.t 147) (.t 148),(some (146, false))⟩,⟨some 150,.pick (.t 146) (.c (.bool true)) (.t 149),(some (143, true))⟩,⟨some 151,.pick (.t 143) (.t 150) (.c (.bool false)),(some (140, false))⟩,⟨some 152,.pick (.t 140) (.c (.bool true)) (.t 151),none⟩])
 (.cond (.t 152) (.seq (.reg [⟨some 6,.mov (.c (.bool false)),none⟩])
 (.jump .ret))
 .skip)))))))))
 (.reg [⟨some 69,.mov (.t 10),none⟩,⟨some 70,.bin .add (.t 69) (.c (.int .i64 1)),none⟩,⟨some 10,.mov (.t 70),none⟩]))
def a11 : AFunc := ⟨212, [.tmp 6],
 .seq (.reg [⟨some 3,.box 7 (.t 0),none⟩,⟨some 4,.box 3 (.t 1),none⟩,⟨some 5,.box 2 (.t 2),none⟩,⟨some 6,.mov (.c (.bool false)),none⟩])
 (.seq (.reg [⟨some 34,.load (some 7) (.t 3),none⟩,⟨some 7,.alloc [.lit [] true none, .int .i64 0, .int .i64 0, .int .i64 0, .int .i64 0, .lit [] true none, .lit [] true none],none⟩,⟨none,.store 7 (.t 7) (.t 34),none⟩])
 (.seq (.dreg [⟨⟨some 35,.mklit 3 [],none⟩, 0, 0⟩,⟨⟨some 36,.faddr (.t 3) 6,none⟩, 0, 0⟩,⟨⟨some 37,.load none (.t 36),none⟩, 0, 0⟩,⟨⟨some 38,.append 3 24 (.t 35) (.t 37),none⟩, 0, 1⟩,⟨⟨some 39,.load (some 3) (.t 4),none⟩, 0, 1⟩,⟨⟨some 40,.mklit 3 [.t 39],none⟩, 0, 1⟩,⟨⟨some 41,.append 3 24 (.t 38) (.t 40),none⟩, 1, 2⟩,⟨⟨some 42,.faddr (.t 7) 6,none⟩, 2, 2⟩,⟨⟨none,.store 1 (.t 42) (.t 41),none⟩, 2, 3⟩])
 (.seq (.seq (.reg [⟨some 43,.load (some 7) (.t 3),none⟩,⟨some 44,.call (.c (.func 45 [] [])) [.t 43],none⟩,⟨some 45,.not (.t 44),none⟩,⟨some 46,.mov (.t 45),none⟩,⟨some 47,.load (some 7) (.t 7),(some (46, false))⟩,⟨some 48,.call (.c (.func 45 [] [])) [.t 47],(some (46, false))⟩,⟨some 49,.not (.t 48),(some (46, false))⟩,⟨some 50,.pick (.t 46) (.c (.bool true)) (.t 49),none⟩])
 (.cond (.t 50) (.seq (.reg [⟨some 51,.call (.c (.func 22 [] [])) [],none⟩,⟨some 6,.mov (.t 51),none⟩])
 (.jump .ret))
 .skip))
 (.seq (.dreg [⟨⟨some 52,.faddr (.t 5) 0,none⟩, 0, 0⟩,⟨⟨some 53,.load none (.t 52),none⟩, 0, 0⟩,⟨⟨some 54,.conv .i64 (.t 53),none⟩, 0, 0⟩,⟨⟨some 55,.faddr (.t 3) 0,none⟩, 0, 0⟩,⟨⟨some 56,.load none (.t 55),none⟩, 0, 0⟩,⟨⟨some 57,.len 1 (.t 56),none⟩, 0, 0⟩,⟨⟨some 58,.bin .add (.t 57) (.c (.int .i64 1)),none⟩, 0, 0⟩,⟨⟨some 59,.bin .rem (.t 54) (.t 58),none⟩, 0, 0⟩,⟨⟨some 60,.faddr (.t 5) 1,none⟩, 0, 0⟩,⟨⟨some 61,.load none (.t 60),none⟩, 0, 0⟩,⟨⟨some 62,.conv .i64 (.t 61),none⟩, 0, 0⟩,⟨⟨some 63,.bin .rem (.t 62) (.c (.int .i64 401)),none⟩, 0, 0⟩,⟨⟨some 8,.mov (.t 59),none⟩, 0, 0⟩,⟨⟨some 9,.mov (.t 63),none⟩, 0, 0⟩])
 (.seq (.seq (.reg [⟨some 10,.mov (.c (.int .i64 0)),none⟩])
 (.block 0 (.loop L11_0)))
 (.seq (.reg [⟨some 154,.load (some 7) (.t 3),none⟩,⟨some 155,.mov (.t 8),none⟩,⟨some 156,.mov (.t 9),none⟩,⟨some 157,.call (.c (.func 31 [] [])) [.t 154,.t 155,.t 156],none⟩,⟨some 153,.mov (.t 157),none⟩,⟨some 158,.ext (.t 153) 0,none⟩,⟨some 159,.ext (.t 153) 1,none⟩,⟨some 160,.ext (.t 153) 2,none⟩,⟨some 23,.mov (.t 158),none⟩,⟨some 24,.mov (.t 159),none⟩,⟨some 25,.mov (.t 160),none⟩])
 (.seq (.reg [⟨some 162,.load (some 7) (.t 7),none⟩,⟨some 163,.mov (.t 8),none⟩,⟨some 164,.mov (.t 9),none⟩,⟨some 165,.call (.c (.func 31 [] [])) [.t 162,.t 163,.t 164],none⟩,⟨some 161,.mov (.t 165),none⟩,⟨some 166,.ext (.t 161) 0,none⟩,⟨some 167,.ext (.t 161) 1,none⟩,⟨some 168,.ext (.t 161) 2,none⟩,⟨some 26,.mov (.t 166),none⟩,⟨some 27,.mov (.t 167),none⟩,⟨some 28,.mov (.t 168),none⟩])
 (.seq (.seq (.reg [⟨some 169,.mov (.t 25),none⟩,⟨some 170,.eql (.one .i) false (.t 169) (.c (.int .i64 0)),none⟩,⟨some 171,.mov (.t 170),none⟩,⟨some 172,.mov (.t 28),(some (171, true))⟩,⟨some 173,.eql (.one .i) true (.t 172) (.c (.int .i64 0)),(some (171, true))⟩,⟨some 174,.mov (.t 173),(some (171, true))⟩,⟨some 175,.mov (.t 27),(some (174, false))⟩,⟨some 176,.len 1 (.t 175),(some (174, false))⟩,⟨some 177,.mov (.t 24),(some (174, false))⟩,⟨some 178,.len 1 (.t 177),(some (174, false))⟩,⟨some 179,.bin .gtr (.t 176) (.t 178),(some (174, false))⟩,⟨some 180,.pick (.t 174) (.c (.bool true)) (.t 179),(some (171, true))⟩,⟨some 181,.pick (.t 171) (.t 180) (.c (.bool false)),none⟩])
 (.cond (.t 181) (.seq (.reg [⟨some 6,.mov (.c (.bool false)),none⟩])
 (.jump .ret))
 .skip))
 (.seq (.reg [⟨some 182,.faddr (.t 3) 0,none⟩,⟨some 183,.load none (.t 182),none⟩,⟨some 184,.len 1 (.t 183),none⟩,⟨some 185,.bin .sub (.t 184) (.c (.int .i64 1)),none⟩,⟨some 29,.mov (.t 185),none⟩])
 (.seq (.reg [⟨some 187,.load (some 7) (.t 3),none⟩,⟨some 188,.mov (.t 29),none⟩,⟨some 189,.call (.c (.func 29 [] [])) [.t 187,.t 188],none⟩,⟨some 186,.mov (.t 189),none⟩,⟨some 190,.ext (.t 186) 0,none⟩,⟨some 191,.ext (.t 186) 1,none⟩,⟨some 30,.alloc [.int .i64 0, .int .i64 0],none⟩,⟨none,.store 2 (.t 30) (.t 190),none⟩,⟨some 31,.mov (.t 191),none⟩])
 (.seq (.reg [⟨some 193,.load (some 7) (.t 7),none⟩,⟨some 194,.mov (.t 29),none⟩,⟨some 195,.call (.c (.func 29 [] [])) [.t 193,.t 194],none⟩,⟨some 192,.mov (.t 195),none⟩,⟨some 196,.ext (.t 192) 0,none⟩,⟨some 197,.ext (.t 192) 1,none⟩,⟨some 32,.alloc [.int .i64 0, .int .i64 0],none⟩,⟨none,.store 2 (.t 32) (.t 196),none⟩,⟨some 33,.mov (.t 197),none⟩])
 (.seq (.reg [⟨some 198,.mov (.t 31),none⟩,⟨some 199,.eql (.one .i) false (.t 198) (.c (.int .i64 0)),none⟩,⟨some 200,.mov (.t 199),none⟩,⟨some 201,.mov (.t 33),(some (200, true))⟩,⟨some 202,.eql (.one .i) false (.t 201) (.c (.int .i64 0)),(some (200, true))⟩,⟨some 203,.pick (.t 200) (.t 202) (.c (.bool false)),none⟩,⟨some 204,.mov (.t 203),none⟩,⟨some 205,.load (some 2) (.t 32),(some (204, true))⟩,⟨some 206,.load (some 2) (.t 30),(some (204, true))⟩,⟨some 207,.call (.c (.func 54 [] [])) [.t 205,.t 206],(some (204, true))⟩,⟨some 208,.pick (.t 204) (.t 207) (.c (.bool false)),none⟩,⟨some 209,.mov (.t 208),none⟩,⟨some 210,.call (.c (.func 22 [] [])) [],(some (209, true))⟩,⟨some 211,.pick (.t 209) (.t 210) (.c (.bool false)),none⟩,⟨some 6,.mov (.t 211),none⟩])
 (.jump .ret)))))))))))))⟩
def a12 : AFunc := ⟨153, [.tmp 4],
 .seq (.reg [⟨some 2,.box 7 (.t 0),none⟩,⟨some 3,.box 2 (.t 1),none⟩,⟨some 4,.mov (.c (.bool false)),none⟩])
 (.seq (.seq (.reg [⟨some 16,.load (some 7) (.t 2),none⟩,⟨some 17,.call (.c (.func 45 [] [])) [.t 16],none⟩,⟨some 18,.not (.t 17),none⟩,⟨some 19,.mov (.t 18),none⟩,⟨some 20,.faddr (.t 2) 5,(some (19, false))⟩,⟨some 21,.load none (.t 20),(some (19, false))⟩,⟨some 22,.len 1 (.t 21),(some (19, false))⟩,⟨some 23,.eql (.one .i) false (.t 22) (.c (.int .i64 0)),(some (19, false))⟩,⟨some 24,.pick (.t 19) (.c (.bool true)) (.t 23),none⟩])
 (.cond (.t 24) (.seq (.reg [⟨some 26,.load (some 7) (.t 2),none⟩,⟨some 27,.call (.c (.func 17 [] [])) [(.t 26), (.c (.int .i64 0)), (.c (.int .i64 0))],none⟩,⟨some 25,.mov (.t 27),none⟩,⟨some 28,.ext (.t 25) 0,none⟩,⟨some 29,.ext (.t 25) 1,none⟩,⟨some 5,.alloc [.int .i64 0, .int .i64 0],none⟩,⟨none,.store 2 (.t 5) (.t 28),none⟩,⟨some 6,.mov (.t 29),none⟩])
 (.seq (.reg [⟨some 30,.mov (.t 6),none⟩,⟨some 31,.eql (.one .i) true (.t 30) (.c (.int .i64 0)),none⟩,⟨some 32,.mov (.t 31),none⟩,⟨some 33,.call (.c (.func 22 [] [])) [],(some (32, true))⟩,⟨some 34,.pick (.t 32) (.t 33) (.c (.bool false)),none⟩,⟨some 4,.mov (.t 34),none⟩])
 (.jump .ret)))
 .skip))
 (.seq (.dreg [⟨⟨some 35,.iaddr (some 2) 1 (.t 3) (.c (.int .i64 0)),none⟩, 0, 0⟩,⟨⟨some 36,.load none (.t 35),none⟩, 0, 0⟩,⟨⟨some 37,.conv .i64 (.t 36),none⟩, 0, 0⟩,⟨⟨some 38,.faddr (.t 2) 5,none⟩, 0, 0⟩,⟨⟨some 39,.load none (.t 38),none⟩, 0, 0⟩,⟨⟨some 40,.len 1 (.t 39),none⟩, 0, 0⟩,⟨⟨some 41,.bin .rem (.t 37) (.t 40),none⟩, 0, 0⟩,⟨⟨some 42,.iaddr (some 2) 1 (.t 3) (.c (.int .i64 1)),none⟩, 0, 0⟩,⟨⟨some 43,.load none (.t 42),none⟩, 0, 0⟩,⟨⟨some 44,.conv .i64 (.t 43),none⟩, 0, 0⟩,⟨⟨some 45,.faddr (.t 2) 0,none⟩, 0, 0⟩,⟨⟨some 46,.load none (.t 45),none⟩, 0, 0⟩,⟨⟨some 47,.len 1 (.t 46),none⟩, 0, 0⟩,⟨⟨some 48,.bin .rem (.t 44) (.t 47),none⟩, 0, 0⟩,⟨⟨some 7,.mov (.t 41),none⟩, 0, 0⟩,⟨⟨some 8,.mov (.t 48),none⟩, 0, 0⟩])
 (.seq (.reg [⟨some 50,.load (some 7) (.t 2),none⟩,⟨some 51,.mov (.t 7),none⟩,⟨some 52,.mov (.t 8),none⟩,⟨some 53,.call (.c (.func 17 [] [])) [.t 50,.t 51,.t 52],none⟩,⟨some 49,.mov (.t 53),none⟩,⟨some 54,.ext (.t 49) 0,none⟩,⟨some 55,.ext (.t 49) 1,none⟩,⟨some 9,.alloc [.int .i64 0, .int .i64 0],none⟩,⟨none,.store 2 (.t 9) (.t 54),none⟩,⟨some 10,.mov (.t 55),none⟩])
 (.seq (.reg [⟨some 57,.load (some 7) (.t 2),none⟩,⟨some 58,.mov (.t 7),none⟩,⟨some 59,.mov (.t 8),none⟩,⟨some 60,.bin .add (.t 59) (.c (.int .i64 1)),none⟩,⟨some 61,.call (.c (.func 17 [] [])) [.t 57,.t 58,.t 60],none⟩,⟨some 56,.mov (.t 61),none⟩,⟨some 62,.ext (.t 56) 0,none⟩,⟨some 63,.ext (.t 56) 1,none⟩,⟨some 11,.alloc [.int .i64 0, .int .i64 0],none⟩,⟨none,.store 2 (.t 11) (.t 62),none⟩,⟨some 12,.mov (.t 63),none⟩])
 (.seq (.dreg [⟨⟨some 65,.load (some 7) (.t 2),none⟩, 0, 0⟩,⟨⟨some 66,.mov (.t 7),none⟩, 0, 0⟩,⟨⟨some 67,.faddr (.t 2) 5,none⟩, 0, 0⟩,⟨⟨some 68,.load none (.t 67),none⟩, 0, 0⟩,⟨⟨some 69,.mov (.t 7),none⟩, 0, 0⟩,⟨⟨some 70,.iaddr none 4 (.t 68) (.t 69),none⟩, 0, 0⟩,⟨⟨some 71,.faddr (.t 70) 1,none⟩, 0, 0⟩,⟨⟨some 72,.faddr (.t 71) 0,none⟩, 0, 0⟩,⟨⟨some 73,.load none (.t 72),none⟩, 0, 0⟩,⟨⟨some 74,.call (.c (.func 17 [] [])) [.t 65,.t 66,.t 73],none⟩, 0, 1⟩,⟨⟨some 64,.mov (.t 74),none⟩, 1, 1⟩,⟨⟨some 75,.ext (.t 64) 0,none⟩, 1, 1⟩,⟨⟨some 76,.ext (.t 64) 1,none⟩, 1, 2⟩,⟨⟨some 13,.alloc [.int .i64 0, .int .i64 0],none⟩, 0, 1⟩,⟨⟨none,.store 2 (.t 13) (.t 75),none⟩, 1, 2⟩,⟨⟨some 14,.mov (.t 76),none⟩, 2, 2⟩])
 (.seq (.reg [⟨some 77,.mov (.t 8),none⟩,⟨some 78,.faddr (.t 2) 5,none⟩,⟨some 79,.load none (.t 78),none⟩,⟨some 80,.mov (.t 7),none⟩,⟨some 81,.iaddr none 4 (.t 79) (.t 80),none⟩,⟨some 82,.faddr (.t 81) 1,none⟩,⟨some 83,.faddr (.t 82) 1,none⟩,⟨some 84,.load none (.t 83),none⟩,⟨some 85,.bin .lss (.t 77) (.t 84),none⟩,⟨some 86,.mov (.t 85),none⟩,⟨some 87,.faddr (.t 11) 0,(some (86, false))⟩,⟨some 88,.load none (.t 87),(some (86, false))⟩,⟨some 89,.faddr (.t 9) 0,(some (86, false))⟩,⟨some 90,.load none (.t 89),(some (86, false))⟩,⟨some 91,.bin .gtr (.t 88) (.t 90),(some (86, false))⟩,⟨some 92,.mov (.t 91),(some (86, false))⟩,⟨some 93,.faddr (.t 11) 1,(some (92, true))⟩,⟨some 94,.load none (.t 93),(some (92, true))⟩,⟨some 95,.faddr (.t 9) 1,(some (92, true))⟩,⟨some 96,.load none (.t 95),(some (92, true))⟩,⟨some 97,.bin .gtr (.t 94) (.t 96),(some (92, true))⟩,⟨some 98,.pick (.t 92) (.t 97) (.c (.bool false)),(some (86, false))⟩,⟨some 99,.pick (.t 86) (.c (.bool true)) (.t 98),none⟩,⟨some 15,.mov (.t 99),none⟩])
 (.seq (.dreg [⟨⟨some 100,.mov (.t 10),none⟩, 0, 0⟩,⟨⟨some 101,.eql (.one .i) false (.t 100) (.c (.int .i64 0)),none⟩, 0, 0⟩,⟨⟨some 102,.mov (.t 101),none⟩, 0, 0⟩,⟨⟨some 103,.mov (.t 12),(some (102, true))⟩, 0, 0⟩,⟨⟨some 104,.eql (.one .i) false (.t 103) (.c (.int .i64 0)),(some (102, true))⟩, 0, 0⟩,⟨⟨some 105,.pick (.t 102) (.t 104) (.c (.bool false)),none⟩, 0, 0⟩,⟨⟨some 106,.mov (.t 105),none⟩, 0, 0⟩,⟨⟨some 107,.mov (.t 14),(some (106, true))⟩, 0, 0⟩,⟨⟨some 108,.eql (.one .i) false (.t 107) (.c (.int .i64 0)),(some (106, true))⟩, 0, 0⟩,⟨⟨some 109,.pick (.t 106) (.t 108) (.c (.bool false)),none⟩, 0, 0⟩,⟨⟨some 110,.mov (.t 109),none⟩, 0, 0⟩,⟨⟨some 111,.mov (.t 15),(some (110, true))⟩, 0, 0⟩,⟨⟨some 112,.pick (.t 110) (.t 111) (.c (.bool false)),none⟩, 0, 0⟩,⟨⟨some 113,.mov (.t 112),none⟩, 0, 0⟩,⟨⟨some 114,.faddr (.t 11) 0,(some (113, true))⟩, 0, 0⟩,⟨⟨some 115,.load none (.t 114),(some (113, true))⟩, 0, 0⟩,⟨⟨some 116,.faddr (.t 9) 0,(some (113, true))⟩, 0, 0⟩,⟨⟨some 117,.load none (.t 116),(some (113, true))⟩, 0, 0⟩,⟨⟨some 118,.bin .geq (.t 115) (.t 117),(some (113, true))⟩, 0, 0⟩,⟨⟨some 119,.pick (.t 113) (.t 118) (.c (.bool false)),none⟩, 0, 0⟩,⟨⟨some 120,.mov (.t 119),none⟩, 0, 0⟩,⟨⟨some 121,.faddr (.t 11) 1,(some (120, true))⟩, 0, 0⟩,⟨⟨some 122,.load none (.t 121),(some (120, true))⟩, 0, 0⟩,⟨⟨some 123,.faddr (.t 9) 1,(some (120, true))⟩, 0, 0⟩,⟨⟨some 124,.load none (.t 123),(some (120, true))⟩, 0, 0⟩,⟨⟨some 125,.bin .geq (.t 122) (.t 124),(some (120, true))⟩, 0, 0⟩,⟨⟨some 126,.pick (.t 120) (.t 125) (.c (.bool false)),none⟩, 0, 0⟩,⟨⟨some 127,.mov (.t 126),none⟩, 0, 0⟩,⟨⟨some 128,.faddr (.t 11) 0,(some (127, true))⟩, 0, 0⟩,⟨⟨some 129,.load none (.t 128),(some (127, true))⟩, 0, 0⟩,⟨⟨some 130,.faddr (.t 9) 0,(some (127, true))⟩, 0, 0⟩,⟨⟨some 131,.load none (.t 130),(some (127, true))⟩, 0, 0⟩,⟨⟨some 132,.bin .add (.t 131) (.c (.int .i64 1)),(some (127, true))⟩, 0, 0⟩,⟨⟨some 133,.bin .add (.t 132) (.c (.int .i64 2)),(some (127, true))⟩, 0, 0⟩,⟨⟨some 134,.bin .leq (.t 129) (.t 133),(some (127, true))⟩, 0, 0⟩,⟨⟨some 135,.pick (.t 127) (.t 134) (.c (.bool false)),none⟩, 0, 0⟩,⟨⟨some 136,.mov (.t 135),none⟩, 0, 0⟩,⟨⟨some 137,.faddr (.t 11) 1,(some (136, true))⟩, 0, 0⟩,⟨⟨some 138,.load none (.t 137),(some (136, true))⟩, 0, 0⟩,⟨⟨some 139,.faddr (.t 9) 1,(some (136, true))⟩, 0, 0⟩,⟨⟨some 140,.load none (.t 139),(some (136, true))⟩, 0, 0⟩,⟨⟨some 141,.bin .add (.t 140) (.c (.int .i64 1)),(some (136, true))⟩, 0, 0⟩,⟨⟨some 142,.bin .add (.t 141) (.c (.int .i64 2)),(some (136, true))⟩, 0, 0⟩,⟨⟨some 143,.bin .leq (.t 138) (.t 142),(some (136, true))⟩, 0, 0⟩,⟨⟨some 144,.pick (.t 136) (.t 143) (.c (.bool false)),none⟩, 0, 0⟩,⟨⟨some 145,.mov (.t 144),none⟩, 0, 0⟩,⟨⟨some 146,.load (some 2) (.t 13),(some (145, true))⟩, 0, 1⟩,⟨⟨some 147,.call (.c (.func 37 [] [])) [(.c (.int .i64 0)), (.c (.int .i64 0))],(some (145, true))⟩, 0, 1⟩,⟨⟨some 148,.eql (.agg [.i, .i]) false (.t 146) (.t 147),(some (145, true))⟩, 1, 1⟩,⟨⟨some 149,.pick (.t 145) (.t 148) (.c (.bool false)),none⟩, 1, 1⟩,⟨⟨some 150,.mov (.t 149),none⟩, 1, 1⟩,⟨⟨some 151,.call (.c (.func 22 [] [])) [],(some (150, true))⟩, 1, 2⟩,⟨⟨some 152,.pick (.t 150) (.t 151) (.c (.bool false)),none⟩, 2, 2⟩,⟨⟨some 4,.mov (.t 152),none⟩, 2, 2⟩])
 (.jump .ret))))))))⟩
def L13_0 : ACode := .seq (.seq (.reg [⟨some 85,.mov (.t 14),none⟩,⟨some 86,.mov (.t 9),none⟩,⟨some 87,.len 1 (.t 86),none⟩,⟨some 88,.bin .lss (.t 85) (.t 87),none⟩])
 (.cond (.t 88) .skip
 (.jump (.exit 0))))
 (.seq (.block 1 (.seq (.reg [⟨some 91,.mov (.t 10),none⟩,⟨some 92,.mov (.t 9),none⟩,⟨some 93,.mov (.t 14),none⟩,⟨some 94,.iaddr none 1 (.t 92) (.t 93),none⟩,⟨some 95,.load none (.t 94),none⟩,⟨some 96,.call (.c (.func 44 [] [])) [.t 91,.t 95],none⟩,⟨some 97,.not (.t 96),none⟩,⟨some 98,.mov (.t 97),none⟩,⟨some 99,.mov (.t 13),(some (98, false))⟩,⟨some 100,.eql (.one .i) true (.t 99) (.c (.int .i64 0)),(some (98, false))⟩,⟨some 101,.pick (.t 98) (.c (.bool true)) (.t 100),none⟩,⟨some 102,.mov (.t 101),none⟩,⟨some 103,.mov (.t 9),(some (102, false))⟩,⟨some 104,.mov (.t 14),(some (102, false))⟩,⟨some 105,.iaddr none 1 (.t 103) (.t 104),(some (102, false))⟩,⟨some 106,.load none (.t 105),(some (102, false))⟩,⟨some 107,.mov (.t 12),(some (102, false))⟩,⟨some 108,.bin .gtr (.t 106) (.t 107),(some (102, false))⟩,⟨some 109,.pick (.t 102) (.c (.bool true)) (.t 108),none⟩])
 (.cond (.t 109) (.seq (.reg [⟨some 4,.mov (.c (.bool false)),none⟩])
 (.jump .ret))
 .skip)))
 (.reg [⟨some 89,.mov (.t 14),none⟩,⟨some 90,.bin .add (.t 89) (.c (.int .i64 1)),none⟩,⟨some 14,.mov (.t 90),none⟩]))
def L13_2 : ACode := .seq (.seq (.reg [⟨some 110,.mov (.t 15),none⟩,⟨some 111,.faddr (.t 2) 0,none⟩,⟨some 112,.load none (.t 111),none⟩,⟨some 113,.len 1 (.t 112),none⟩,⟨some 114,.bin .leq (.t 110) (.t 113),none⟩])
 (.cond (.t 114) .skip
 (.jump (.exit 2))))
 (.seq (.block 3 (.seq (.reg [⟨some 118,.load (some 7) (.t 2),none⟩,⟨some 119,.mov (.t 8),none⟩,⟨some 120,.mov (.t 15),none⟩,⟨some 121,.call (.c (.func 23 [] [])) [.t 118,.t 119,.t 120],none⟩,⟨some 117,.mov (.t 121),none⟩,⟨some 122,.ext (.t 117) 0,none⟩,⟨some 123,.ext (.t 117) 1,none⟩,⟨some 16,.mov (.t 122),none⟩,⟨some 17,.mov (.t 123),none⟩])
 (.seq (.reg [⟨some 124,.mov (.t 17),none⟩,⟨some 125,.eql (.one .i) true (.t 124) (.c (.int .i64 0)),none⟩,⟨some 126,.mov (.t 125),none⟩,⟨some 127,.mov (.t 16),(some (126, false))⟩,⟨some 128,.eql (.one .i) false (.t 127) (.c (.int .i64 1)),(some (126, false))⟩,⟨some 129,.mov (.t 9),(some (126, false))⟩,⟨some 130,.mov (.t 15),(some (126, false))⟩,⟨some 131,.call (.c (.func 44 [] [])) [.t 129,.t 130],(some (126, false))⟩,⟨some 132,.eql (.one .b) true (.t 128) (.t 131),(some (126, false))⟩,⟨some 133,.pick (.t 126) (.c (.bool true)) (.t 132),none⟩,⟨some 134,.mov (.t 133),none⟩,⟨some 135,.mov (.t 16),(some (134, false))⟩,⟨some 136,.eql (.one .i) false (.t 135) (.c (.int .i64 2)),(some (134, false))⟩,⟨some 137,.mov (.t 10),(some (134, false))⟩,⟨some 138,.mov (.t 15),(some (134, false))⟩,⟨some 139,.call (.c (.func 44 [] [])) [.t 137,.t 138],(some (134, false))⟩,⟨some 140,.eql (.one .b) false (.t 136) (.t 139),(some (134, false))⟩,⟨some 141,.pick (.t 134) (.c (.bool true)) (.t 140),none⟩])
 (.cond (.t 141) (.seq (.reg [⟨some 4,.mov (.c (.bool false)),none⟩])
 (.jump .ret))
 .skip))))
 (.reg [⟨some 115,.mov (.t 15),none⟩,⟨some 116,.bin .add (.t 115) (.c (.int .i64 1)),none⟩,⟨some 15,.mov (.t 116),none⟩]))
def a13 : AFunc := ⟨143, [.tmp 4],
 .seq (.reg [⟨some 2,.box 7 (.t 0),none⟩,⟨some 4,.mov (.c (.bool false)),none⟩])
 (.seq (.seq (.reg [⟨some 18,.load (some 7) (.t 2),none⟩,⟨some 19,.call (.c (.func 45 [] [])) [.t 18],none⟩,⟨some 20,.not (.t 19),none⟩,⟨some 21,.mov (.t 20),none⟩,⟨some 22,.faddr (.t 2) 5,(some (21, false))⟩,⟨some 23,.load none (.t 22),(some (21, false))⟩,⟨some 24,.len 1 (.t 23),(some (21, false))⟩,⟨some 25,.eql (.one .i) false (.t 24) (.c (.int .i64 0)),(some (21, false))⟩,⟨some 26,.pick (.t 21) (.c (.bool true)) (.t 25),none⟩])
 (.cond (.t 26) (.seq (.reg [⟨some 28,.load (some 7) (.t 2),none⟩,⟨some 29,.call (.c (.func 25 [] [])) [(.t 28), (.c (.int .i64 0))],none⟩,⟨some 27,.mov (.t 29),none⟩,⟨some 30,.ext (.t 27) 0,none⟩,⟨some 31,.ext (.t 27) 1,none⟩,⟨some 32,.ext (.t 27) 2,none⟩,⟨some 5,.mov (.t 30),none⟩,⟨some 6,.mov (.t 31),none⟩,⟨some 7,.mov (.t 32),none⟩])
 (.seq (.reg [⟨some 33,.mov (.t 7),none⟩,⟨some 34,.eql (.one .i) true (.t 33) (.c (.int .i64 0)),none⟩,⟨some 35,.mov (.t 34),none⟩,⟨some 36,.call (.c (.func 22 [] [])) [],(some (35, true))⟩,⟨some 37,.pick (.t 35) (.t 36) (.c (.bool false)),none⟩,⟨some 4,.mov (.t 37),none⟩])
 (.jump .ret)))
 .skip))
 (.seq (.reg [⟨some 38,.mov (.t 1),none⟩,⟨some 39,.conv .i64 (.t 38),none⟩,⟨some 40,.faddr (.t 2) 5,none⟩,⟨some 41,.load none (.t 40),none⟩,⟨some 42,.len 1 (.t 41),none⟩,⟨some 43,.bin .rem (.t 39) (.t 42),none⟩,⟨some 8,.mov (.t 43),none⟩])
 (.seq (.reg [⟨some 45,.load (some 7) (.t 2),none⟩,⟨some 46,.mov (.t 8),none⟩,⟨some 47,.call (.c (.func 25 [] [])) [.t 45,.t 46],none⟩,⟨some 44,.mov (.t 47),none⟩,⟨some 48,.ext (.t 44) 0,none⟩,⟨some 49,.ext (.t 44) 1,none⟩,⟨some 50,.ext (.t 44) 2,none⟩,⟨some 9,.mov (.t 48),none⟩,⟨some 10,.mov (.t 49),none⟩,⟨some 11,.mov (.t 50),none⟩])
 (.seq (.reg [⟨some 52,.load (some 7) (.t 2),none⟩,⟨some 53,.mov (.t 8),none⟩,⟨some 54,.call (.c (.func 27 [] [])) [.t 52,.t 53],none⟩,⟨some 51,.mov (.t 54),none⟩,⟨some 55,.ext (.t 51) 0,none⟩,⟨some 56,.ext (.t 51) 1,none⟩,⟨some 12,.mov (.t 55),none⟩,⟨some 13,.mov (.t 56),none⟩])
 (.seq (.seq (.reg [⟨some 57,.mov (.t 11),none⟩,⟨some 58,.eql (.one .i) true (.t 57) (.c (.int .i64 0)),none⟩,⟨some 59,.mov (.t 58),none⟩,⟨some 60,.mov (.t 9),(some (59, false))⟩,⟨some 61,.faddr (.t 2) 0,(some (59, false))⟩,⟨some 62,.load none (.t 61),(some (59, false))⟩,⟨some 63,.len 1 (.t 62),(some (59, false))⟩,⟨some 64,.bin .add (.t 63) (.c (.int .i64 1)),(some (59, false))⟩,⟨some 65,.call (.c (.func 46 [] [])) [.t 60,.t 64],(some (59, false))⟩,⟨some 66,.not (.t 65),(some (59, false))⟩,⟨some 67,.pick (.t 59) (.c (.bool true)) (.t 66),none⟩,⟨some 68,.mov (.t 67),none⟩,⟨some 69,.mov (.t 10),(some (68, false))⟩,⟨some 70,.faddr (.t 2) 0,(some (68, false))⟩,⟨some 71,.load none (.t 70),(some (68, false))⟩,⟨some 72,.len 1 (.t 71),(some (68, false))⟩,⟨some 73,.bin .add (.t 72) (.c (.int .i64 1)),(some (68, false))⟩,⟨some 74,.call (.c (.func 46 [] [])) [.t 69,.t 73],(some (68, false))⟩,⟨some 75,.not (.t 74),(some (68, false))⟩,⟨some 76,.pick (.t 68) (.c (.bool true)) (.t 75),none⟩,⟨some 77,.mov (.t 76),none⟩,⟨some 78,.mov (.t 13),(some (77, false))⟩,⟨some 79,.eql (.one .i) true (.t 78) (.c (.int .i64 0)),(some (77, false))⟩,⟨some 80,.mov (.t 79),(some (77, false))⟩,⟨some 81,.mov (.t 13),(some (80, true))⟩,⟨some 82,.eql (.one .i) true (.t 81) (.c (.int .i64 9)),(some (80, true))⟩,⟨some 83,.pick (.t 80) (.t 82) (.c (.bool false)),(some (77, false))⟩,⟨some 84,.pick (.t 77) (.c (.bool true)) (.t 83),none⟩])
 (.cond (.t 84) (.seq (.reg [⟨some 4,.mov (.c (.bool false)),none⟩])
 (.jump .ret))
 .skip))
 (.seq (.seq (.reg [⟨some 14,.mov (.c (.int .i64 0)),none⟩])
 (.block 0 (.loop L13_0)))
 (.seq (.seq (.reg [⟨some 15,.mov (.c (.int .i64 0)),none⟩])
 (.block 2 (.loop L13_2)))
 (.seq (.reg [⟨some 142,.call (.c (.func 22 [] [])) [],none⟩,⟨some 4,.mov (.t 142),none⟩])
 (.jump .ret)))))))))⟩
def L14_0 : ACode := .seq (.seq (.reg [⟨some 68,.mov (.t 10),none⟩,⟨some 69,.faddr (.t 3) 5,none⟩,⟨some 70,.load none (.t 69),none⟩,⟨some 71,.len 1 (.t 70),none⟩,⟨some 72,.bin .lss (.t 68) (.t 71),none⟩])
 (.cond (.t 72) .skip
 (.jump (.exit 0))))
 (.seq (.block 1 (.seq (.reg [⟨some 76,.load (some 7) (.t 3),none⟩,⟨some 77,.mov (.t 10),none⟩,⟨some 78,.call (.c (.func 27 [] [])) [.t 76,.t 77],none⟩,⟨some 75,.mov (.t 78),none⟩,⟨some 79,.ext (.t 75) 0,none⟩,⟨some 80,.ext (.t 75) 1,none⟩,⟨some 11,.mov (.t 79),none⟩,⟨some 12,.mov (.t 80),none⟩])
 (.seq (.reg [⟨some 82,.load (some 7) (.t 7),none⟩,⟨some 83,.mov (.t 10),none⟩,⟨some 84,.call (.c (.func 27 [] [])) [.t 82,.t 83],none⟩,⟨some 81,.mov (.t 84),none⟩,⟨some 85,.ext (.t 81) 0,none⟩,⟨some 86,.ext (.t 81) 1,none⟩,⟨some 13,.mov (.t 85),none⟩,⟨some 14,.mov (.t 86),none⟩])
 (.seq (.reg [⟨some 88,.load (some 7) (.t 3),none⟩,⟨some 89,.mov (.t 10),none⟩,⟨some 90,.mov (.t 8),none⟩,⟨some 91,.call (.c (.func 23 [] [])) [.t 88,.t 89,.t 90],none⟩,⟨some 87,.mov (.t 91),none⟩,⟨some 92,.ext (.t 87) 0,none⟩,⟨some 93,.ext (.t 87) 1,none⟩,⟨some 15,.mov (.t 92),none⟩,⟨some 16,.mov (.t 93),none⟩])
 (.seq (.reg [⟨some 95,.load (some 7) (.t 7),none⟩,⟨some 96,.mov (.t 10),none⟩,⟨some 97,.mov (.t 8),none⟩,⟨some 98,.call (.c (.func 23 [] [])) [.t 95,.t 96,.t 97],none⟩,⟨some 94,.mov (.t 98),none⟩,⟨some 99,.ext (.t 94) 0,none⟩,⟨some 100,.ext (.t 94) 1,none⟩,⟨some 17,.mov (.t 99),none⟩,⟨some 18,.mov (.t 100),none⟩])
 (.seq (.reg [⟨some 101,.mov (.t 12),none⟩,⟨some 102,.eql (.one .i) false (.t 101) (.c (.int .i64 0)),none⟩,⟨some 103,.mov (.t 102),none⟩,⟨some 104,.mov (.t 14),(some (103, true))⟩,⟨some 105,.eql (.one .i) true (.t 104) (.c (.int .i64 0)),(some (103, true))⟩,⟨some 106,.mov (.t 105),(some (103, true))⟩,⟨some 107,.mov (.t 13),(some (106, false))⟩,⟨some 108,.mov (.t 11),(some (106, false))⟩,⟨some 109,.bin .lss (.t 107) (.t 108),(some (106, false))⟩,⟨some 110,.pick (.t 106) (.c (.bool true)) (.t 109),(some (103, true))⟩,⟨some 111,.pick (.t 103) (.t 110) (.c (.bool false)),none⟩,⟨some 112,.mov (.t 111),none⟩,⟨some 113,.mov (.t 16),(some (112, false))⟩,⟨some 114,.eql (.one .i) true (.t 113) (.c (.int .i64 0)),(some (112, false))⟩,⟨some 115,.pick (.t 112) (.c (.bool true)) (.t 114),none⟩,⟨some 116,.mov (.t 115),none⟩,⟨some 117,.mov (.t 18),(some (116, false))⟩,⟨some 118,.eql (.one .i) true (.t 117) (.c (.int .i64 0)),(some (116, false))⟩,⟨some 119,.pick (.t 116) (.c (.bool true)) (.t 118),none⟩,⟨some 120,.mov (.t 119),none⟩,⟨some 121,.mov (.t 15),(some (120, false))⟩,⟨some 122,.eql (.one .i) false (.t 121) (.c (.int .i64 1)),(some (120, false))⟩,⟨some 123,.mov (.t 122),(some (120, false))⟩,⟨some 124,.mov (.t 17),(some (123, true))⟩,⟨some 125,.eql (.one .i) true (.t 124) (.c (.int .i64 1)),(some (123, true))⟩,⟨some 126,.pick (.t 123) (.t 125) (.c (.bool false)),(some (120, false))⟩,⟨some 127,.pick (.t 120) (.c (.bool true)) (.t 126),none⟩])
 (.cond (.t 127) (.seq (.reg [⟨some 6,.mov (.c (.bool false)),none⟩])
 (.jump .ret))
 .skip)))))))
 (.reg [⟨some 73,.mov (.t 10),none⟩,⟨some 74,.bin .add (.t 73) (.c (.int .i64 1)),none⟩,⟨some 10,.mov (.t 74),none⟩]))
def a14 : AFunc := ⟨173, [.tmp 6],
 .seq (.reg [⟨some 3,.box 7 (.t 0),none⟩,⟨some 4,.box 2 (.t 1),none⟩,⟨some 5,.box 2 (.t 2),none⟩,⟨some 6,.mov (.c (.bool false)),none⟩])
 (.seq (.seq (.reg [⟨some 25,.load (some 7) (.t 3),none⟩,⟨some 26,.call (.c (.func 45 [] [])) [.t 25],none⟩,⟨some 27,.not (.t 26),none⟩])
 (.cond (.t 27) (.seq (.reg [⟨some 28,.call (.c (.func 22 [] [])) [],none⟩,⟨some 6,.mov (.t 28),none⟩])
 (.jump .ret))
 .skip))
 (.seq (.reg [⟨some 29,.load (some 7) (.t 3),none⟩,⟨some 7,.alloc [.lit [] true none, .int .i64 0, .int .i64 0, .int .i64 0, .int .i64 0, .lit [] true none, .lit [] true none],none⟩,⟨none,.store 7 (.t 7) (.t 29),none⟩])
 (.seq (.reg [⟨some 30,.faddr (.t 3) 3,none⟩,⟨some 31,.faddr (.t 30) 0,none⟩,⟨some 32,.load none (.t 31),none⟩,⟨some 33,.faddr (.t 3) 3,none⟩,⟨some 34,.faddr (.t 33) 0,none⟩,⟨some 35,.load none (.t 34),none⟩,⟨some 36,.faddr (.t 3) 3,none⟩,⟨some 37,.faddr (.t 36) 1,none⟩,⟨some 38,.load none (.t 37),none⟩,⟨some 39,.iaddr (some 2) 1 (.t 4) (.c (.int .i64 0)),none⟩,⟨some 40,.load none (.t 39),none⟩,⟨some 41,.conv .i64 (.t 40),none⟩,⟨some 42,.bin .rem (.t 41) (.c (.int .i64 4)),none⟩,⟨some 43,.bin .sub (.t 38) (.t 42),none⟩,⟨some 44,.max [.t 35,.t 43],none⟩,⟨some 45,.call (.c (.func 37 [] [])) [.t 32,.t 44],none⟩,⟨some 46,.faddr (.t 7) 3,none⟩,⟨none,.store 2 (.t 46) (.t 45),none⟩])
 (.seq (.reg [⟨some 47,.faddr (.t 3) 1,none⟩,⟨some 48,.load none (.t 47),none⟩,⟨some 49,.iaddr (some 2) 1 (.t 4) (.c (.int .i64 1)),none⟩,⟨some 50,.load none (.t 49),none⟩,⟨some 51,.conv .i64 (.t 50),none⟩,⟨some 52,.bin .rem (.t 51) (.c (.int .i64 4)),none⟩,⟨some 53,.bin .sub (.t 48) (.t 52),none⟩,⟨some 54,.max [(.c (.int .i64 0)), (.t 53)],none⟩,⟨some 55,.faddr (.t 7) 1,none⟩,⟨none,.store 1 (.t 55) (.t 54),none⟩])
 (.seq (.dreg [⟨⟨some 56,.faddr (.t 5) 0,none⟩, 0, 0⟩,⟨⟨some 57,.load none (.t 56),none⟩, 0, 0⟩,⟨⟨some 58,.conv .i64 (.t 57),none⟩, 0, 0⟩,⟨⟨some 59,.faddr (.t 3) 0,none⟩, 0, 0⟩,⟨⟨some 60,.load none (.t 59),none⟩, 0, 0⟩,⟨⟨some 61,.len 1 (.t 60),none⟩, 0, 0⟩,⟨⟨some 62,.bin .add (.t 61) (.c (.int .i64 1)),none⟩, 0, 0⟩,⟨⟨some 63,.bin .rem (.t 58) (.t 62),none⟩, 0, 0⟩,⟨⟨some 64,.faddr (.t 5) 1,none⟩, 0, 0⟩,⟨⟨some 65,.load none (.t 64),none⟩, 0, 0⟩,⟨⟨some 66,.conv .i64 (.t 65),none⟩, 0, 0⟩,⟨⟨some 67,.bin .rem (.t 66) (.c (.int .i64 401)),none⟩, 0, 0⟩,⟨⟨some 8,.mov (.t 63),none⟩, 0, 0⟩,⟨⟨some 9,.mov (.t 67),none⟩, 0, 0⟩])
 (.seq (.seq (.reg [⟨some 10,.mov (.c (.int .i64 0)),none⟩])
 (.block 0 (.loop L14_0)))
 (.seq (.reg [⟨some 129,.load (some 7) (.t 3),none⟩,⟨some 130,.mov (.t 8),none⟩,⟨some 131,.mov (.t 9),none⟩,⟨some 132,.call (.c (.func 31 [] [])) [.t 129,.t 130,.t 131],none⟩,⟨some 128,.mov (.t 132),none⟩,⟨some 133,.ext (.t 128) 0,none⟩,⟨some 134,.ext (.t 128) 1,none⟩,⟨some 135,.ext (.t 128) 2,none⟩,⟨some 19,.mov (.t 133),none⟩,⟨some 20,.mov (.t 134),none⟩,⟨some 21,.mov (.t 135),none⟩])
 (.seq (.reg [⟨some 137,.load (some 7) (.t 7),none⟩,⟨some 138,.mov (.t 8),none⟩,⟨some 139,.mov (.t 9),none⟩,⟨some 140,.call (.c (.func 31 [] [])) [.t 137,.t 138,.t 139],none⟩,⟨some 136,.mov (.t 140),none⟩,⟨some 141,.ext (.t 136) 0,none⟩,⟨some 142,.ext (.t 136) 1,none⟩,⟨some 143,.ext (.t 136) 2,none⟩,⟨some 22,.mov (.t 141),none⟩,⟨some 23,.mov (.t 142),none⟩,⟨some 24,.mov (.t 143),none⟩])
 (.seq (.reg [⟨some 144,.mov (.t 21),none⟩,⟨some 145,.eql (.one .i) false (.t 144) (.c (.int .i64 0)),none⟩,⟨some 146,.mov (.t 145),none⟩,⟨some 147,.mov (.t 24),(some (146, true))⟩,⟨some 148,.eql (.one .i) false (.t 147) (.c (.int .i64 0)),(some (146, true))⟩,⟨some 149,.pick (.t 146) (.t 148) (.c (.bool false)),none⟩,⟨some 150,.mov (.t 149),none⟩,⟨some 151,.mov (.t 23),(some (150, true))⟩,⟨some 152,.len 1 (.t 151),(some (150, true))⟩,⟨some 153,.mov (.t 20),(some (150, true))⟩,⟨some 154,.len 1 (.t 153),(some (150, true))⟩,⟨some 155,.bin .leq (.t 152) (.t 154),(some (150, true))⟩,⟨some 156,.pick (.t 150) (.t 155) (.c (.bool false)),none⟩,⟨some 157,.mov (.t 156),none⟩,⟨some 158,.mov (.t 21),(some (157, false))⟩,⟨some 159,.eql (.one .i) false (.t 158) (.c (.int .i64 9)),(some (157, false))⟩,⟨some 160,.mov (.t 159),(some (157, false))⟩,⟨some 161,.mov (.t 24),(some (160, true))⟩,⟨some 162,.eql (.one .i) false (.t 161) (.c (.int .i64 0)),(some (160, true))⟩,⟨some 163,.mov (.t 162),(some (160, true))⟩,⟨some 164,.mov (.t 24),(some (163, false))⟩,⟨some 165,.mov (.t 21),(some (163, false))⟩,⟨some 166,.eql (.one .i) false (.t 164) (.t 165),(some (163, false))⟩,⟨some 167,.pick (.t 163) (.c (.bool true)) (.t 166),(some (160, true))⟩,⟨some 168,.pick (.t 160) (.t 167) (.c (.bool false)),(some (157, false))⟩,⟨some 169,.pick (.t 157) (.c (.bool true)) (.t 168),none⟩,⟨some 170,.mov (.t 169),none⟩,⟨some 171,.call (.c (.func 22 [] [])) [],(some (170, true))⟩,⟨some 172,.pick (.t 170) (.t 171) (.c (.bool false)),none⟩,⟨some 6,.mov (.t 172),none⟩])
 (.jump .ret))))))))))⟩
def a15 : AFunc := ⟨67, [.tmp 2, .tmp 3, .tmp 4],
 .seq (.reg [⟨some 1,.box 7 (.t 0),none⟩,⟨some 2,.mov (.c (.int .i64 0)),none⟩,⟨some 3,.mov (.c (.int .i64 0)),none⟩,⟨some 4,.mov (.c (.int .i64 0)),none⟩])
 (.seq (.seq (.reg [⟨some 5,.faddr (.t 1) 0,none⟩,⟨some 6,.load none (.t 5),none⟩,⟨some 7,.len 1 (.t 6),none⟩,⟨some 8,.mklit 1 [.t 7],none⟩,⟨some 9,.call (.c (.func 55 [] [])) [(.c (.int .i64 1)), (.c (.int .i64 7)), (.t 8)],none⟩])
 (.cond (.t 9) (.seq (.reg [⟨some 2,.mov (.c (.int .i64 1)),none⟩,⟨some 3,.mov (.c (.int .i64 0)),none⟩,⟨some 4,.mov (.c (.int .i64 3)),none⟩])
 (.jump .ret))
 .skip))
 (.seq (.seq (.reg [⟨some 11,.faddr (.t 1) 0,none⟩,⟨some 12,.load none (.t 11),none⟩,⟨some 13,.call (.c (.func 56 [] [])) [(.t 12), (.c (.func 57 [] []))],none⟩,⟨some 10,.mov (.t 13),none⟩,⟨some 14,.ext (.t 10) 0,none⟩,⟨some 15,.ext (.t 10) 1,none⟩,⟨some 3,.mov (.t 14),none⟩,⟨some 4,.mov (.t 15),none⟩])
 (.seq (.reg [⟨some 16,.mov (.t 4),none⟩,⟨some 17,.eql (.one .i) true (.t 16) (.c (.int .i64 0)),none⟩])
 (.cond (.t 17) (.seq (.reg [⟨some 18,.mov (.t 3),none⟩,⟨some 19,.mov (.t 4),none⟩,⟨some 2,.mov (.c (.int .i64 1)),none⟩,⟨some 3,.mov (.t 18),none⟩,⟨some 4,.mov (.t 19),none⟩])
 (.jump .ret))
 .skip)))
 (.seq (.seq (.reg [⟨some 20,.faddr (.t 1) 3,none⟩,⟨some 21,.load (some 2) (.t 20),none⟩,⟨some 22,.call (.c (.func 58 [] [])) [(.t 21), (.c (.int .i64 0)), (.c (.int .i64 9))],none⟩,⟨some 4,.mov (.t 22),none⟩])
 (.block 0 (.seq (.reg [⟨some 24,.faddr (.t 1) 1,none⟩,⟨some 25,.load none (.t 24),none⟩,⟨some 26,.faddr (.t 1) 2,none⟩,⟨some 27,.load none (.t 26),none⟩,⟨some 28,.mklit 1 [.t 25,.t 27],none⟩,⟨some 29,.call (.c (.func 55 [] [])) [(.c (.int .i64 0)), (.c (.int .i64 30)), (.t 28)],none⟩,⟨some 23,.mov (.t 29),none⟩])
 (.cond (.t 23) (.seq (.reg [⟨some 2,.mov (.c (.int .i64 2)),none⟩,⟨some 3,.mov (.c (.int .i64 0)),none⟩,⟨some 4,.mov (.c (.int .i64 7)),none⟩])
 (.jump .ret))
 (.seq (.reg [⟨some 31,.mov (.t 4),none⟩,⟨some 32,.eql (.one .i) true (.t 31) (.c (.int .i64 0)),none⟩,⟨some 30,.mov (.t 32),none⟩])
 (.cond (.t 30) (.seq (.reg [⟨some 33,.mov (.t 4),none⟩,⟨some 2,.mov (.c (.int .i64 2)),none⟩,⟨some 3,.mov (.c (.int .i64 0)),none⟩,⟨some 4,.mov (.t 33),none⟩])
 (.jump .ret))
 (.seq (.reg [⟨some 35,.faddr (.t 1) 5,none⟩,⟨some 36,.load none (.t 35),none⟩,⟨some 37,.len 1 (.t 36),none⟩,⟨some 38,.bin .gtr (.t 37) (.c (.int .i64 4)),none⟩,⟨some 34,.mov (.t 38),none⟩])
 (.cond (.t 34) (.seq (.reg [⟨some 2,.mov (.c (.int .i64 3)),none⟩,⟨some 3,.mov (.c (.int .i64 0)),none⟩,⟨some 4,.mov (.c (.int .i64 3)),none⟩])
 (.jump .ret))
 .skip))))))))
 (.seq (.reg [⟨some 40,.faddr (.t 1) 5,none⟩,⟨some 41,.load none (.t 40),none⟩,⟨some 42,.mkfun 60 [] [.t 1],none⟩,⟨some 43,.call (.c (.func 59 [] [])) [.t 41,.t 42],none⟩,⟨some 39,.mov (.t 43),none⟩,⟨some 44,.ext (.t 39) 0,none⟩,⟨some 45,.ext (.t 39) 1,none⟩,⟨some 3,.mov (.t 44),none⟩,⟨some 4,.mov (.t 45),none⟩])
 (.seq (.block 1 (.seq (.reg [⟨some 47,.mov (.t 4),none⟩,⟨some 48,.eql (.one .i) true (.t 47) (.c (.int .i64 0)),none⟩,⟨some 46,.mov (.t 48),none⟩])
 (.cond (.t 46) (.seq (.reg [⟨some 49,.mov (.t 3),none⟩,⟨some 50,.mov (.t 4),none⟩,⟨some 2,.mov (.c (.int .i64 3)),none⟩,⟨some 3,.mov (.t 49),none⟩,⟨some 4,.mov (.t 50),none⟩])
 (.jump .ret))
 (.seq (.reg [⟨some 52,.faddr (.t 1) 6,none⟩,⟨some 53,.load none (.t 52),none⟩,⟨some 54,.len 1 (.t 53),none⟩,⟨some 55,.bin .gtr (.t 54) (.c (.int .i64 4)),none⟩,⟨some 51,.mov (.t 55),none⟩])
 (.cond (.t 51) (.seq (.reg [⟨some 2,.mov (.c (.int .i64 4)),none⟩,⟨some 3,.mov (.c (.int .i64 0)),none⟩,⟨some 4,.mov (.c (.int .i64 3)),none⟩])
 (.jump .ret))
 .skip)))))
 (.seq (.reg [⟨some 57,.faddr (.t 1) 6,none⟩,⟨some 58,.load none (.t 57),none⟩,⟨some 59,.mkfun 65 [] [.t 1],none⟩,⟨some 60,.call (.c (.func 64 [] [])) [.t 58,.t 59],none⟩,⟨some 56,.mov (.t 60),none⟩,⟨some 61,.ext (.t 56) 0,none⟩,⟨some 62,.ext (.t 56) 1,none⟩,⟨some 3,.mov (.t 61),none⟩,⟨some 4,.mov (.t 62),none⟩])
 (.seq (.seq (.reg [⟨some 63,.mov (.t 4),none⟩,⟨some 64,.eql (.one .i) true (.t 63) (.c (.int .i64 0)),none⟩])
 (.cond (.t 64) (.seq (.reg [⟨some 65,.mov (.t 3),none⟩,⟨some 66,.mov (.t 4),none⟩,⟨some 2,.mov (.c (.int .i64 4)),none⟩,⟨some 3,.mov (.t 65),none⟩,⟨some 4,.mov (.t 66),none⟩])
 (.jump .ret))
 .skip))
 (.seq (.reg [⟨some 2,.mov (.c (.int .i64 0)),none⟩,⟨some 3,.mov (.c (.int .i64 0)),none⟩,⟨some 4,.mov (.c (.int .i64 0)),none⟩])
 (.jump .ret)))))))))⟩
def L16_0 : ACode := .seq (.seq (.reg [⟨some 20,.mov (.t 5),none⟩,⟨some 21,.faddr (.t 1) 0,none⟩,⟨some 22,.load none (.t 21),none⟩,⟨some 23,.len 1 (.t 22),none⟩,⟨some 24,.bin .lss (.t 20) (.t 23),none⟩])
 (.cond (.t 24) .skip
 (.jump (.exit 0))))
 (.seq (.block 1 (.seq (.reg [⟨some 27,.faddr (.t 1) 0,none⟩,⟨some 28,.load none (.t 27),none⟩,⟨some 29,.mov (.t 5),none⟩,⟨some 30,.iaddr none 2 (.t 28) (.t 29),none⟩,⟨some 31,.load (some 2) (.t 30),none⟩,⟨some 32,.call (.c (.func 67 [] [])) [(.t 31), (.c (.int .i64 0)), (.c (.int .i64 2))],none⟩,⟨some 6,.mov (.t 32),none⟩])
 (.seq (.reg [⟨some 33,.mov (.t 6),none⟩,⟨some 34,.eql (.one .i) true (.t 33) (.c (.int .i64 0)),none⟩])
 (.cond (.t 34) (.seq (.reg [⟨some 35,.mov (.t 5),none⟩,⟨some 36,.mov (.t 6),none⟩,⟨some 2,.mov (.c (.int .i64 1)),none⟩,⟨some 3,.mov (.t 35),none⟩,⟨some 4,.mov (.t 36),none⟩])
 (.jump .ret))
 .skip))))
 (.reg [⟨some 25,.mov (.t 5),none⟩,⟨some 26,.bin .add (.t 25) (.c (.int .i64 1)),none⟩,⟨some 5,.mov (.t 26),none⟩]))
def L16_2 : ACode := .seq (.seq (.reg [⟨some 61,.mov (.t 9),none⟩,⟨some 62,.faddr (.t 1) 5,none⟩,⟨some 63,.load none (.t 62),none⟩,⟨some 64,.len 1 (.t 63),none⟩,⟨some 65,.bin .lss (.t 61) (.t 64),none⟩])
 (.cond (.t 65) .skip
 (.jump (.exit 2))))
 (.seq (.block 3 (.seq (.reg [⟨some 68,.faddr (.t 1) 5,none⟩,⟨some 69,.load none (.t 68),none⟩,⟨some 70,.mov (.t 9),none⟩,⟨some 71,.iaddr none 4 (.t 69) (.t 70),none⟩,⟨some 72,.load (some 4) (.t 71),none⟩,⟨some 10,.alloc [.str ⟨#[]⟩, .int .i64 0, .int .i64 0, .int .i64 0],none⟩,⟨none,.store 4 (.t 10) (.t 72),none⟩])
 (.seq (.reg [⟨some 73,.faddr (.t 10) 0,none⟩,⟨some 74,.load none (.t 73),none⟩,⟨some 75,.mov (.t 8),none⟩,⟨some 76,.call (.c (.func 68 [] [])) [.t 74,.t 75],none⟩,⟨some 11,.mov (.t 76),none⟩])
 (.seq (.reg [⟨some 77,.mov (.t 8),none⟩,⟨some 78,.faddr (.t 10) 0,none⟩,⟨some 79,.load none (.t 78),none⟩,⟨some 80,.mklit 1 [.t 79],none⟩,⟨some 81,.append 1 16 (.t 77) (.t 80),none⟩,⟨some 8,.mov (.t 81),none⟩])
 (.seq (.dreg [⟨⟨some 82,.faddr (.t 10) 1,none⟩, 0, 1⟩,⟨⟨some 83,.load (some 2) (.t 82),none⟩, 0, 1⟩,⟨⟨some 84,.load (some 7) (.t 1),none⟩, 0, 0⟩,⟨⟨some 85,.call (.c (.func 69 [] [])) [.t 84],none⟩, 0, 1⟩,⟨⟨some 86,.bin .sub (.t 85) (.c (.int .i64 1)),none⟩, 1, 1⟩,⟨⟨some 87,.call (.c (.func 67 [] [])) [(.t 83), (.c (.int .i64 0)), (.t 86)],none⟩, 1, 2⟩,⟨⟨some 12,.mov (.t 87),none⟩, 2, 2⟩])
 (.seq (.seq (.reg [⟨some 88,.mov (.t 11),none⟩,⟨some 89,.eql (.one .i) false (.t 88) (.c (.int .i64 0)),none⟩,⟨some 90,.mov (.t 89),none⟩,⟨some 91,.mov (.t 12),(some (90, true))⟩,⟨some 92,.eql (.one .i) false (.t 91) (.c (.int .i64 7)),(some (90, true))⟩,⟨some 93,.mov (.t 92),(some (90, true))⟩,⟨some 94,.faddr (.t 10) 3,(some (93, false))⟩,⟨some 95,.load none (.t 94),(some (93, false))⟩,⟨some 96,.call (.c (.func 66 [] [])) [(.t 95), (.c (.int .i64 1)), (.c (.int .i64 99))],(some (93, false))⟩,⟨some 97,.not (.t 96),(some (93, false))⟩,⟨some 98,.pick (.t 93) (.c (.bool true)) (.t 97),(some (90, true))⟩,⟨some 99,.pick (.t 90) (.t 98) (.c (.bool false)),none⟩])
 (.cond (.t 99) (.reg [⟨some 11,.mov (.c (.int .i64 7)),none⟩])
 .skip))
 (.seq (.seq (.reg [⟨some 100,.mov (.t 11),none⟩,⟨some 101,.eql (.one .i) false (.t 100) (.c (.int .i64 0)),none⟩])
 (.cond (.t 101) (.reg [⟨some 102,.mov (.t 12),none⟩,⟨some 11,.mov (.t 102),none⟩])
 .skip))
 (.seq (.reg [⟨some 103,.mov (.t 11),none⟩,⟨some 104,.eql (.one .i) true (.t 103) (.c (.int .i64 0)),none⟩])
 (.cond (.t 104) (.seq (.reg [⟨some 105,.mov (.t 9),none⟩,⟨some 106,.mov (.t 11),none⟩,⟨some 2,.mov (.c (.int .i64 3)),none⟩,⟨some 3,.mov (.t 105),none⟩,⟨some 4,.mov (.t 106),none⟩])
 (.jump .ret))
 .skip)))))))))
 (.reg [⟨some 66,.mov (.t 9),none⟩,⟨some 67,.bin .add (.t 66) (.c (.int .i64 1)),none⟩,⟨some 9,.mov (.t 67),none⟩]))
def L16_4 : ACode := .seq (.seq (.reg [⟨some 111,.mov (.t 13),none⟩,⟨some 112,.faddr (.t 1) 6,none⟩,⟨some 113,.load none (.t 112),none⟩,⟨some 114,.len 1 (.t 113),none⟩,⟨some 115,.bin .lss (.t 111) (.t 114),none⟩])
 (.cond (.t 115) .skip
 (.jump (.exit 4))))
 (.seq (.block 5 (.seq (.reg [⟨some 118,.faddr (.t 1) 6,none⟩,⟨some 119,.load none (.t 118),none⟩,⟨some 120,.mov (.t 13),none⟩,⟨some 121,.iaddr none 3 (.t 119) (.t 120),none⟩,⟨some 122,.load (some 3) (.t 121),none⟩,⟨some 14,.alloc [.int .i64 0, .int .i64 0, .int .i64 0],none⟩,⟨none,.store 3 (.t 14) (.t 122),none⟩])
 (.seq (.seq (.reg [⟨some 123,.faddr (.t 14) 0,none⟩,⟨some 124,.load none (.t 123),none⟩,⟨some 125,.faddr (.t 1) 5,none⟩,⟨some 126,.load none (.t 125),none⟩,⟨some 127,.len 1 (.t 126),none⟩,⟨some 128,.bin .sub (.t 127) (.c (.int .i64 1)),none⟩,⟨some 129,.call (.c (.func 66 [] [])) [(.t 124), (.c (.int .i64 0)), (.t 128)],none⟩,⟨some 130,.not (.t 129),none⟩])
 (.cond (.t 130) (.seq (.reg [⟨some 131,.mov (.t 13),none⟩,⟨some 2,.mov (.c (.int .i64 4)),none⟩,⟨some 3,.mov (.t 131),none⟩,⟨some 4,.mov (.c (.int .i64 4)),none⟩])
 (.jump .ret))
 .skip))
 (.seq (.dreg [⟨⟨some 132,.faddr (.t 14) 1,none⟩, 0, 1⟩,⟨⟨some 133,.load none (.t 132),none⟩, 0, 1⟩,⟨⟨some 134,.load (some 7) (.t 1),none⟩, 0, 0⟩,⟨⟨some 135,.call (.c (.func 69 [] [])) [.t 134],none⟩, 0, 1⟩,⟨⟨some 136,.call (.c (.func 66 [] [])) [(.t 133), (.c (.int .i64 0)), (.t 135)],none⟩, 1, 2⟩,⟨⟨some 137,.not (.t 136),none⟩, 2, 2⟩,⟨⟨some 138,.mov (.t 137),none⟩, 2, 2⟩,⟨⟨some 139,.faddr (.t 14) 2,(some (138, false))⟩, 2, 2⟩,⟨⟨some 140,.load none (.t 139),(some (138, false))⟩, 2, 2⟩,⟨⟨some 141,.call (.c (.func 66 [] [])) [(.t 140), (.c (.int .i64 0)), (.c (.int .i64 30))],(some (138, false))⟩, 2, 3⟩,⟨⟨some 142,.not (.t 141),(some (138, false))⟩, 3, 3⟩,⟨⟨some 143,.pick (.t 138) (.c (.bool true)) (.t 142),none⟩, 3, 3⟩])
 (.cond (.t 143) (.seq (.reg [⟨some 144,.mov (.t 13),none⟩,⟨some 2,.mov (.c (.int .i64 4)),none⟩,⟨some 3,.mov (.t 144),none⟩,⟨some 4,.mov (.c (.int .i64 7)),none⟩])
 (.jump .ret))
 .skip)))))
 (.reg [⟨some 116,.mov (.t 13),none⟩,⟨some 117,.bin .add (.t 116) (.c (.int .i64 1)),none⟩,⟨some 13,.mov (.t 117),none⟩]))
def a16 : AFunc := ⟨145, [.tmp 2, .tmp 3, .tmp 4],
 .seq (.reg [⟨some 1,.box 7 (.t 0),none⟩,⟨some 2,.mov (.c (.int .i64 0)),none⟩,⟨some 3,.mov (.c (.int .i64 0)),none⟩,⟨some 4,.mov (.c (.int .i64 0)),none⟩])
 (.seq (.seq (.reg [⟨some 15,.faddr (.t 1) 0,none⟩,⟨some 16,.load none (.t 15),none⟩,⟨some 17,.len 1 (.t 16),none⟩,⟨some 18,.call (.c (.func 66 [] [])) [(.t 17), (.c (.int .i64 1)), (.c (.int .i64 7))],none⟩,⟨some 19,.not (.t 18),none⟩])
 (.cond (.t 19) (.seq (.reg [⟨some 2,.mov (.c (.int .i64 1)),none⟩,⟨some 3,.mov (.c (.int .i64 0)),none⟩,⟨some 4,.mov (.c (.int .i64 3)),none⟩])
 (.jump .ret))
 .skip))
 (.seq (.seq (.reg [⟨some 5,.mov (.c (.int .i64 0)),none⟩])
 (.block 0 (.loop L16_0)))
 (.seq (.reg [⟨some 37,.faddr (.t 1) 3,none⟩,⟨some 38,.load (some 2) (.t 37),none⟩,⟨some 39,.call (.c (.func 67 [] [])) [(.t 38), (.c (.int .i64 0)), (.c (.int .i64 9))],none⟩,⟨some 7,.mov (.t 39),none⟩])
 (.seq (.seq (.reg [⟨some 40,.faddr (.t 1) 1,none⟩,⟨some 41,.load none (.t 40),none⟩,⟨some 42,.call (.c (.func 66 [] [])) [(.t 41), (.c (.int .i64 0)), (.c (.int .i64 30))],none⟩,⟨some 43,.not (.t 42),none⟩,⟨some 44,.mov (.t 43),none⟩,⟨some 45,.faddr (.t 1) 2,(some (44, false))⟩,⟨some 46,.load none (.t 45),(some (44, false))⟩,⟨some 47,.call (.c (.func 66 [] [])) [(.t 46), (.c (.int .i64 0)), (.c (.int .i64 30))],(some (44, false))⟩,⟨some 48,.not (.t 47),(some (44, false))⟩,⟨some 49,.pick (.t 44) (.c (.bool true)) (.t 48),none⟩,⟨some 50,.mov (.t 49),none⟩,⟨some 51,.mov (.t 7),(some (50, false))⟩,⟨some 52,.eql (.one .i) false (.t 51) (.c (.int .i64 7)),(some (50, false))⟩,⟨some 53,.pick (.t 50) (.c (.bool true)) (.t 52),none⟩])
 (.cond (.t 53) (.seq (.reg [⟨some 2,.mov (.c (.int .i64 2)),none⟩,⟨some 3,.mov (.c (.int .i64 0)),none⟩,⟨some 4,.mov (.c (.int .i64 7)),none⟩])
 (.jump .ret))
 .skip))
 (.seq (.seq (.reg [⟨some 54,.mov (.t 7),none⟩,⟨some 55,.eql (.one .i) true (.t 54) (.c (.int .i64 0)),none⟩])
 (.cond (.t 55) (.seq (.reg [⟨some 56,.mov (.t 7),none⟩,⟨some 2,.mov (.c (.int .i64 2)),none⟩,⟨some 3,.mov (.c (.int .i64 0)),none⟩,⟨some 4,.mov (.t 56),none⟩])
 (.jump .ret))
 .skip))
 (.seq (.seq (.reg [⟨some 57,.faddr (.t 1) 5,none⟩,⟨some 58,.load none (.t 57),none⟩,⟨some 59,.len 1 (.t 58),none⟩,⟨some 60,.bin .gtr (.t 59) (.c (.int .i64 4)),none⟩])
 (.cond (.t 60) (.seq (.reg [⟨some 2,.mov (.c (.int .i64 3)),none⟩,⟨some 3,.mov (.c (.int .i64 0)),none⟩,⟨some 4,.mov (.c (.int .i64 3)),none⟩])
 (.jump .ret))
 .skip))
 (.seq (.reg [⟨some 8,.mov (.c (.lit [] true none)),none⟩])
 (.seq (.seq (.reg [⟨some 9,.mov (.c (.int .i64 0)),none⟩])
 (.block 2 (.loop L16_2)))
 (.seq (.seq (.reg [⟨some 107,.faddr (.t 1) 6,none⟩,⟨some 108,.load none (.t 107),none⟩,⟨some 109,.len 1 (.t 108),none⟩,⟨some 110,.bin .gtr (.t 109) (.c (.int .i64 4)),none⟩])
 (.cond (.t 110) (.seq (.reg [⟨some 2,.mov (.c (.int .i64 4)),none⟩,⟨some 3,.mov (.c (.int .i64 0)),none⟩,⟨some 4,.mov (.c (.int .i64 3)),none⟩])
 (.jump .ret))
 .skip))
 (.seq (.seq (.reg [⟨some 13,.mov (.c (.int .i64 0)),none⟩])
 (.block 4 (.loop L16_4)))
 (.seq (.reg [⟨some 2,.mov (.c (.int .i64 0)),none⟩,⟨some 3,.mov (.c (.int .i64 0)),none⟩,⟨some 4,.mov (.c (.int .i64 0)),none⟩])
 (.jump .ret))))))))))))⟩
def a17 : AFunc := ⟨31, [.cell 6 (some 2), .tmp 7],
 .seq (.reg [⟨some 3,.box 7 (.t 0),none⟩,⟨some 6,.alloc [.int .i64 0, .int .i64 0],none⟩,⟨some 7,.mov (.c (.int .i64 0)),none⟩])
 (.seq (.dreg [⟨⟨some 11,.load (some 7) (.t 3),none⟩, 0, 1⟩,⟨⟨some 12,.mov (.t 1),none⟩, 0, 1⟩,⟨⟨some 13,.max [(.t 12), (.c (.int .i64 (-1099511627775)))],none⟩, 0, 1⟩,⟨⟨some 14,.mov (.t 2),none⟩, 0, 0⟩,⟨⟨some 15,.faddr (.t 3) 0,none⟩, 0, 0⟩,⟨⟨some 16,.load none (.t 15),none⟩, 0, 0⟩,⟨⟨some 17,.len 1 (.t 16),none⟩, 0, 0⟩,⟨⟨some 18,.mklit 1 [.t 14,.t 17],none⟩, 0, 0⟩,⟨⟨some 19,.call (.c (.func 71 [] [])) [.t 18],none⟩, 0, 1⟩,⟨⟨some 20,.call (.c (.func 70 [] [])) [.t 11,.t 13,.t 19],none⟩, 1, 2⟩,⟨⟨some 10,.mov (.t 20),none⟩, 2, 2⟩,⟨⟨some 21,.ext (.t 10) 0,none⟩, 2, 2⟩,⟨⟨some 22,.ext (.t 10) 1,none⟩, 2, 2⟩,⟨⟨some 8,.mov (.t 21),none⟩, 2, 2⟩,⟨⟨some 9,.mov (.t 22),none⟩, 2, 2⟩])
 (.seq (.seq (.reg [⟨some 23,.mov (.t 9),none⟩,⟨some 24,.eql (.one .i) true (.t 23) (.c (.int .i64 0)),none⟩])
 (.cond (.t 24) (.seq (.reg [⟨some 25,.build [.int .i64 0, .int .i64 0] [],none⟩,⟨some 26,.mov (.t 9),none⟩,⟨none,.store 2 (.t 6) (.t 25),none⟩,⟨some 7,.mov (.t 26),none⟩])
 (.jump .ret))
 .skip))
 (.seq (.reg [⟨some 27,.mov (.t 8),none⟩,⟨some 28,.mov (.t 1),none⟩,⟨some 29,.mov (.t 2),none⟩,⟨some 30,.call (.c (.func 72 [] [])) [.t 27,.t 28,.t 29],none⟩,⟨none,.store 2 (.t 6) (.t 30),none⟩,⟨some 7,.mov (.c (.int .i64 0)),none⟩])
 (.jump .ret))))⟩
def L19_0 : ACode := .seq (.reg [⟨some 26,.mnext (.t 25),none⟩,⟨some 27,.ext (.t 26) 0,none⟩])
 (.seq (.cond (.t 27) .skip
 (.jump (.exit 0)))
 (.block 1 (.seq (.reg [⟨some 28,.entry (.t 25),none⟩,⟨some 29,.ext (.t 28) 1,none⟩,⟨some 10,.alloc [.int .i64 0, .int .i64 0, .int .i64 0, .int .i64 0],none⟩,⟨none,.store 4 (.t 10) (.t 29),none⟩])
 (.reg [⟨some 30,.mov (.t 8),none⟩,⟨some 31,.mov (.t 1),none⟩,⟨some 32,.iaddr (some 4) 1 (.t 10) (.t 31),none⟩,⟨some 33,.load none (.t 32),none⟩,⟨some 34,.bin .or (.t 30) (.t 33),none⟩,⟨some 8,.mov (.t 34),none⟩]))))
def a19 : AFunc := ⟨40, [.tmp 4, .tmp 5],
 .seq (.reg [⟨some 2,.box 7 (.t 0),none⟩,⟨some 4,.mov (.c (.lit [] true none)),none⟩,⟨some 5,.mov (.c (.int .i64 0)),none⟩])
 (.seq (.reg [⟨some 12,.load (some 7) (.t 2),none⟩,⟨some 13,.mov (.t 1),none⟩,⟨some 14,.max [(.t 13), (.c (.int .i64 (-1099511627775)))],none⟩,⟨some 15,.call (.c (.func 70 [] [])) [(.t 12), (.t 14), (.c (.func 77 [] []))],none⟩,⟨some 11,.mov (.t 15),none⟩,⟨some 16,.ext (.t 11) 0,none⟩,⟨some 17,.ext (.t 11) 1,none⟩,⟨some 6,.mov (.t 16),none⟩,⟨some 7,.mov (.t 17),none⟩])
 (.seq (.seq (.reg [⟨some 18,.mov (.t 7),none⟩,⟨some 19,.eql (.one .i) true (.t 18) (.c (.int .i64 0)),none⟩])
 (.cond (.t 19) (.seq (.reg [⟨some 20,.mov (.t 7),none⟩,⟨some 4,.mov (.c (.lit [] true none)),none⟩,⟨some 5,.mov (.t 20),none⟩])
 (.jump .ret))
 .skip))
 (.seq (.reg [⟨some 8,.mov (.c (.int .i64 0)),none⟩])
 (.seq (.seq (.reg [⟨some 21,.mov (.t 6),none⟩,⟨some 22,.nilCheck (.t 21),none⟩,⟨some 23,.faddr (.t 22) 8,none⟩,⟨some 24,.load none (.t 23),none⟩,⟨some 25,.mrange (.t 24),none⟩])
 (.block 0 (.loop L19_0)))
 (.seq (.reg [⟨some 35,.mov (.t 8),none⟩,⟨some 36,.faddr (.t 2) 0,none⟩,⟨some 37,.load none (.t 36),none⟩,⟨some 38,.len 1 (.t 37),none⟩,⟨some 39,.call (.c (.func 78 [] [])) [.t 35,.t 38],none⟩,⟨some 4,.mov (.t 39),none⟩,⟨some 5,.mov (.c (.int .i64 0)),none⟩])
 (.jump .ret))))))⟩
def a21 : AFunc := ⟨22, [.tmp 4],
 .seq (.reg [⟨some 4,.mov (.c (.bool false)),none⟩])
 (.seq (.reg [⟨some 5,.mov (.t 0),none⟩,⟨some 6,.len 1 (.t 5),none⟩,⟨some 7,.mov (.t 1),none⟩,⟨some 8,.len 1 (.t 7),none⟩,⟨some 9,.eql (.one .i) false (.t 6) (.t 8),none⟩,⟨some 10,.mov (.t 9),none⟩,⟨some 11,.mov (.t 0),(some (10, true))⟩,⟨some 12,.mov (.t 1),(some (10, true))⟩,⟨some 13,.call (.c (.func 79 [] [])) [.t 11,.t 12],(some (10, true))⟩,⟨some 14,.not (.t 13),(some (10, true))⟩,⟨some 15,.pick (.t 10) (.t 14) (.c (.bool false)),none⟩,⟨some 16,.mov (.t 15),none⟩,⟨some 17,.mov (.t 1),(some (16, true))⟩,⟨some 18,.mov (.t 0),(some (16, true))⟩,⟨some 19,.call (.c (.func 79 [] [])) [.t 17,.t 18],(some (16, true))⟩,⟨some 20,.not (.t 19),(some (16, true))⟩,⟨some 21,.pick (.t 16) (.t 20) (.c (.bool false)),none⟩,⟨some 4,.mov (.t 21),none⟩])
 (.jump .ret))⟩
def a22 : AFunc := ⟨205, [.tmp 0],
 .seq (.reg [⟨some 0,.mov (.c (.bool false)),none⟩])
 (.seq (.reg [⟨some 31,.call (.c (.func 35 [] [])) [(.c (.lit [] true none))],none⟩,⟨some 32,.call (.c (.func 36 [] [])) [(.c (.int .i64 1)), (.c (.int .i64 3)), (.c (.int .i64 2))],none⟩,⟨some 33,.mklit 3 [.t 32],none⟩,⟨some 34,.call (.c (.func 35 [] [])) [.t 33],none⟩,⟨some 1,.alloc [.lit [] true none, .int .i64 0, .int .i64 0, .int .i64 0, .int .i64 0, .lit [] true none, .lit [] true none],none⟩,⟨some 2,.alloc [.lit [] true none, .int .i64 0, .int .i64 0, .int .i64 0, .int .i64 0, .lit [] true none, .lit [] true none],none⟩,⟨none,.store 7 (.t 1) (.t 31),none⟩,⟨none,.store 7 (.t 2) (.t 34),none⟩])
 (.seq (.reg [⟨some 35,.call (.c (.func 36 [] [])) [(.c (.int .i64 1)), (.c (.int .i64 3)), (.c (.int .i64 2))],none⟩,⟨some 36,.call (.c (.func 36 [] [])) [(.c (.int .i64 0)), (.c (.int .i64 1)), (.c (.int .i64 3))],none⟩,⟨some 37,.mklit 3 [.t 35,.t 36],none⟩,⟨some 38,.call (.c (.func 35 [] [])) [.t 37],none⟩,⟨some 3,.alloc [.lit [] true none, .int .i64 0, .int .i64 0, .int .i64 0, .int .i64 0, .lit [] true none, .lit [] true none],none⟩,⟨none,.store 7 (.t 3) (.t 38),none⟩])
 (.seq (.reg [⟨some 40,.load (some 7) (.t 1),none⟩,⟨some 41,.call (.c (.func 17 [] [])) [(.t 40), (.c (.int .i64 1)), (.c (.int .i64 4))],none⟩,⟨some 39,.mov (.t 41),none⟩,⟨some 42,.ext (.t 39) 0,none⟩,⟨some 43,.ext (.t 39) 1,none⟩,⟨some 4,.alloc [.int .i64 0, .int .i64 0],none⟩,⟨none,.store 2 (.t 4) (.t 42),none⟩,⟨some 5,.mov (.t 43),none⟩])
 (.seq (.reg [⟨some 45,.load (some 7) (.t 2),none⟩,⟨some 46,.call (.c (.func 17 [] [])) [(.t 45), (.c (.int .i64 1)), (.c (.int .i64 4))],none⟩,⟨some 44,.mov (.t 46),none⟩,⟨some 47,.ext (.t 44) 0,none⟩,⟨some 48,.ext (.t 44) 1,none⟩,⟨some 6,.alloc [.int .i64 0, .int .i64 0],none⟩,⟨none,.store 2 (.t 6) (.t 47),none⟩,⟨some 7,.mov (.t 48),none⟩])
 (.seq (.reg [⟨some 50,.load (some 7) (.t 1),none⟩,⟨some 51,.call (.c (.func 23 [] [])) [(.t 50), (.c (.int .i64 0)), (.c (.int .i64 4))],none⟩,⟨some 49,.mov (.t 51),none⟩,⟨some 52,.ext (.t 49) 0,none⟩,⟨some 53,.ext (.t 49) 1,none⟩,⟨some 8,.mov (.t 52),none⟩,⟨some 9,.mov (.t 53),none⟩])
 (.seq (.reg [⟨some 55,.load (some 7) (.t 1),none⟩,⟨some 56,.call (.c (.func 23 [] [])) [(.t 55), (.c (.int .i64 0)), (.c (.int .i64 3))],none⟩,⟨some 54,.mov (.t 56),none⟩,⟨some 57,.ext (.t 54) 0,none⟩,⟨some 58,.ext (.t 54) 1,none⟩,⟨some 10,.mov (.t 57),none⟩,⟨some 11,.mov (.t 58),none⟩])
 (.seq (.reg [⟨some 60,.load (some 7) (.t 1),none⟩,⟨some 61,.call (.c (.func 25 [] [])) [(.t 60), (.c (.int .i64 0))],none⟩,⟨some 59,.mov (.t 61),none⟩,⟨some 62,.ext (.t 59) 0,none⟩,⟨some 63,.ext (.t 59) 1,none⟩,⟨some 64,.ext (.t 59) 2,none⟩,⟨some 12,.mov (.t 62),none⟩,⟨some 13,.mov (.t 63),none⟩,⟨some 14,.mov (.t 64),none⟩])
 (.seq (.reg [⟨some 66,.load (some 7) (.t 1),none⟩,⟨some 67,.call (.c (.func 27 [] [])) [(.t 66), (.c (.int .i64 0))],none⟩,⟨some 65,.mov (.t 67),none⟩,⟨some 68,.ext (.t 65) 0,none⟩,⟨some 69,.ext (.t 65) 1,none⟩,⟨some 15,.mov (.t 68),none⟩,⟨some 16,.mov (.t 69),none⟩])
 (.seq (.reg [⟨some 71,.load (some 7) (.t 1),none⟩,⟨some 72,.call (.c (.func 31 [] [])) [(.t 71), (.c (.int .i64 4)), (.c (.int .i64 50))],none⟩,⟨some 70,.mov (.t 72),none⟩,⟨some 73,.ext (.t 70) 0,none⟩,⟨some 74,.ext (.t 70) 1,none⟩,⟨some 75,.ext (.t 70) 2,none⟩,⟨some 17,.mov (.t 73),none⟩,⟨some 18,.mov (.t 74),none⟩,⟨some 19,.mov (.t 75),none⟩])
 (.seq (.reg [⟨some 77,.load (some 7) (.t 1),none⟩,⟨some 78,.call (.c (.func 31 [] [])) [(.t 77), (.c (.int .i64 4)), (.c (.int .i64 80))],none⟩,⟨some 76,.mov (.t 78),none⟩,⟨some 79,.ext (.t 76) 0,none⟩,⟨some 80,.ext (.t 76) 1,none⟩,⟨some 81,.ext (.t 76) 2,none⟩,⟨some 20,.mov (.t 79),none⟩,⟨some 21,.mov (.t 80),none⟩,⟨some 22,.mov (.t 81),none⟩])
 (.seq (.reg [⟨some 83,.load (some 7) (.t 2),none⟩,⟨some 84,.call (.c (.func 29 [] [])) [(.t 83), (.c (.int .i64 1))],none⟩,⟨some 82,.mov (.t 84),none⟩,⟨some 85,.ext (.t 82) 0,none⟩,⟨some 86,.ext (.t 82) 1,none⟩,⟨some 23,.alloc [.int .i64 0, .int .i64 0],none⟩,⟨none,.store 2 (.t 23) (.t 85),none⟩,⟨some 24,.mov (.t 86),none⟩])
 (.seq (.reg [⟨some 88,.load (some 7) (.t 2),none⟩,⟨some 89,.call (.c (.func 19 [] [])) [(.t 88), (.c (.int .i64 1))],none⟩,⟨some 87,.mov (.t 89),none⟩,⟨some 90,.ext (.t 87) 0,none⟩,⟨some 91,.ext (.t 87) 1,none⟩,⟨some 25,.mov (.t 90),none⟩,⟨some 26,.mov (.t 91),none⟩])
 (.seq (.reg [⟨some 93,.load (some 7) (.t 3),none⟩,⟨some 94,.call (.c (.func 33 [] [])) [.t 93],none⟩,⟨some 92,.mov (.t 94),none⟩,⟨some 95,.ext (.t 92) 0,none⟩,⟨some 96,.ext (.t 92) 1,none⟩,⟨some 27,.mov (.t 95),none⟩,⟨some 28,.mov (.t 96),none⟩])
 (.seq (.reg [⟨some 98,.load (some 7) (.t 3),none⟩,⟨some 99,.call (.c (.func 27 [] [])) [(.t 98), (.c (.int .i64 0))],none⟩,⟨some 97,.mov (.t 99),none⟩,⟨some 100,.ext (.t 97) 0,none⟩,⟨some 101,.ext (.t 97) 1,none⟩,⟨some 29,.mov (.t 100),none⟩,⟨some 30,.mov (.t 101),none⟩])
 (.seq (.dreg [⟨⟨some 102,.mov (.t 5),none⟩, 0, 0⟩,⟨⟨some 103,.eql (.one .i) false (.t 102) (.c (.int .i64 0)),none⟩, 0, 0⟩,⟨⟨some 104,.mov (.t 103),none⟩, 0, 0⟩,⟨⟨some 105,.mov (.t 7),(some (104, true))⟩, 0, 0⟩,⟨⟨some 106,.eql (.one .i) false (.t 105) (.c (.int .i64 0)),(some (104, true))⟩, 0, 0⟩,⟨⟨some 107,.pick (.t 104) (.t 106) (.c (.bool false)),none⟩, 0, 0⟩,⟨⟨some 108,.mov (.t 107),none⟩, 0, 0⟩,⟨⟨some 109,.mov (.t 9),(some (108, true))⟩, 0, 0⟩,⟨⟨some 110,.eql (.one .i) false (.t 109) (.c (.int .i64 0)),(some (108, true))⟩, 0, 0⟩,⟨⟨some 111,.pick (.t 108) (.t 110) (.c (.bool false)),none⟩, 0, 0⟩,⟨⟨some 112,.mov (.t 111),none⟩, 0, 0⟩,⟨⟨some 113,.mov (.t 11),(some (112, true))⟩, 0, 0⟩,⟨⟨some 114,.eql (.one .i) false (.t 113) (.c (.int .i64 0)),(some (112, true))⟩, 0, 0⟩,⟨⟨some 115,.pick (.t 112) (.t 114) (.c (.bool false)),none⟩, 0, 0⟩,⟨⟨some 116,.mov (.t 115),none⟩, 0, 0⟩,⟨⟨some 117,.mov (.t 14),(some (116, true))⟩, 0, 0⟩,⟨⟨some 118,.eql (.one .i) false (.t 117) (.c (.int .i64 0)),(some (116, true))⟩, 0, 0⟩,⟨⟨some 119,.pick (.t 116) (.t 118) (.c (.bool false)),none⟩, 0, 0⟩,⟨⟨some 120,.mov (.t 119),none⟩, 0, 0⟩,⟨⟨some 121,.mov (.t 16),(some (120, true))⟩, 0, 0⟩,⟨⟨some 122,.eql (.one .i) false (.t 121) (.c (.int .i64 0)),(some (120, true))⟩, 0, 0⟩,⟨⟨some 123,.pick (.t 120) (.t 122) (.c (.bool false)),none⟩, 0, 0⟩,⟨⟨some 124,.mov (.t 123),none⟩, 0, 0⟩,⟨⟨some 125,.mov (.t 19),(some (124, true))⟩, 0, 0⟩,⟨⟨some 126,.eql (.one .i) false (.t 125) (.c (.int .i64 0)),(some (124, true))⟩, 0, 0⟩,⟨⟨some 127,.pick (.t 124) (.t 126) (.c (.bool false)),none⟩, 0, 0⟩,⟨⟨some 128,.mov (.t 127),none⟩, 0, 0⟩,⟨⟨some 129,.mov (.t 22),(some (128, true))⟩, 0, 0⟩,⟨⟨some 130,.eql (.one .i) false (.t 129) (.c (.int .i64 9)),(some (128, true))⟩, 0, 0⟩,⟨⟨some 131,.pick (.t 128) (.t 130) (.c (.bool false)),none⟩, 0, 0⟩,⟨⟨some 132,.mov (.t 131),none⟩, 0, 0⟩,⟨⟨some 133,.mov (.t 24),(some (132, true))⟩, 0, 0⟩,⟨⟨some 134,.eql (.one .i) false (.t 133) (.c (.int .i64 0)),(some (132, true))⟩, 0, 0⟩,⟨⟨some 135,.pick (.t 132) (.t 134) (.c (.bool false)),none⟩, 0, 0⟩,⟨⟨some 136,.mov (.t 135),none⟩, 0, 0⟩,⟨⟨some 137,.mov (.t 26),(some (136, true))⟩, 0, 0⟩,⟨⟨some 138,.eql (.one .i) false (.t 137) (.c (.int .i64 0)),(some (136, true))⟩, 0, 0⟩,⟨⟨some 139,.pick (.t 136) (.t 138) (.c (.bool false)),none⟩, 0, 0⟩,⟨⟨some 140,.mov (.t 139),none⟩, 0, 0⟩,⟨⟨some 141,.mov (.t 28),(some (140, true))⟩, 0, 0⟩,⟨⟨some 142,.eql (.one .i) false (.t 141) (.c (.int .i64 0)),(some (140, true))⟩, 0, 0⟩,⟨⟨some 143,.pick (.t 140) (.t 142) (.c (.bool false)),none⟩, 0, 0⟩,⟨⟨some 144,.mov (.t 143),none⟩, 0, 0⟩,⟨⟨some 145,.mov (.t 30),(some (144, true))⟩, 0, 0⟩,⟨⟨some 146,.eql (.one .i) false (.t 145) (.c (.int .i64 8)),(some (144, true))⟩, 0, 0⟩,⟨⟨some 147,.pick (.t 144) (.t 146) (.c (.bool false)),none⟩, 0, 0⟩,⟨⟨some 148,.mov (.t 147),none⟩, 0, 0⟩,⟨⟨some 149,.load (some 2) (.t 4),(some (148, true))⟩, 0, 1⟩,⟨⟨some 150,.call (.c (.func 37 [] [])) [(.c (.int .i64 3)), (.c (.int .i64 6))],(some (148, true))⟩, 0, 1⟩,⟨⟨some 151,.eql (.agg [.i, .i]) false (.t 149) (.t 150),(some (148, true))⟩, 1, 1⟩,⟨⟨some 152,.pick (.t 148) (.t 151) (.c (.bool false)),none⟩, 1, 1⟩,⟨⟨some 153,.mov (.t 152),none⟩, 1, 1⟩,⟨⟨some 154,.load (some 2) (.t 6),(some (153, true))⟩, 1, 2⟩,⟨⟨some 155,.call (.c (.func 37 [] [])) [(.c (.int .i64 4)), (.c (.int .i64 5))],(some (153, true))⟩, 1, 2⟩,⟨⟨some 156,.eql (.agg [.i, .i]) false (.t 154) (.t 155),(some (153, true))⟩, 2, 2⟩,⟨⟨some 157,.pick (.t 153) (.t 156) (.c (.bool false)),none⟩, 2, 2⟩,⟨⟨some 158,.mov (.t 157),none⟩, 2, 2⟩,⟨⟨some 159,.mov (.t 8),(some (158, true))⟩, 2, 2⟩,⟨⟨some 160,.eql (.one .i) false (.t 159) (.c (.int .i64 1)),(some (158, true))⟩, 2, 2⟩,⟨⟨some 161,.pick (.t 158) (.t 160) (.c (.bool false)),none⟩, 2, 2⟩,⟨⟨some 162,.mov (.t 161),none⟩, 2, 2⟩,⟨⟨some 163,.mov (.t 10),(some (162, true))⟩, 2, 2⟩,⟨⟨some 164,.eql (.one .i) false (.t 163) (.c (.int .i64 2)),(some (162, true))⟩, 2, 2⟩,⟨⟨some 165,.pick (.t 162) (.t 164) (.c (.bool false)),none⟩, 2, 2⟩,⟨⟨some 166,.mov (.t 165),none⟩, 2, 2⟩,⟨⟨some 167,.mov (.t 12),(some (166, true))⟩, 2, 2⟩,⟨⟨some 168,.mklit 1 [(.c (.int .i64 4))],(some (166, true))⟩, 2, 2⟩,⟨⟨some 169,.call (.c (.func 21 [] [])) [.t 167,.t 168],(some (166, true))⟩, 2, 3⟩,⟨⟨some 170,.pick (.t 166) (.t 169) (.c (.bool false)),none⟩, 3, 3⟩,⟨⟨some 171,.mov (.t 170),none⟩, 3, 3⟩,⟨⟨some 172,.mov (.t 13),(some (171, true))⟩, 3, 3⟩,⟨⟨some 173,.mklit 1 [(.c (.int .i64 4)), (.c (.int .i64 5))],(some (171, true))⟩, 3, 3⟩,⟨⟨some 174,.call (.c (.func 21 [] [])) [.t 172,.t 173],(some (171, true))⟩, 3, 4⟩,⟨⟨some 175,.pick (.t 171) (.t 174) (.c (.bool false)),none⟩, 4, 4⟩,⟨⟨some 176,.mov (.t 175),none⟩, 4, 4⟩,⟨⟨some 177,.mov (.t 15),(some (176, true))⟩, 4, 4⟩,⟨⟨some 178,.eql (.one .i) false (.t 177) (.c (.int .i64 4)),(some (176, true))⟩, 4, 4⟩,⟨⟨some 179,.pick (.t 176) (.t 178) (.c (.bool false)),none⟩, 4, 4⟩,⟨⟨some 180,.mov (.t 179),none⟩, 4, 4⟩,⟨⟨some 181,.mov (.t 17),(some (180, true))⟩, 4, 4⟩,⟨⟨some 182,.mklit 1 [(.c (.int .i64 0)), (.c (.int .i64 1))],(some (180, true))⟩, 4, 4⟩,⟨⟨some 183,.call (.c (.func 21 [] [])) [.t 181,.t 182],(some (180, true))⟩, 4, 5⟩,⟨⟨some 184,.pick (.t 180) (.t 183) (.c (.bool false)),none⟩, 5, 5⟩,⟨⟨some 185,.mov (.t 184),none⟩, 5, 5⟩,⟨⟨some 186,.mov (.t 18),(some (185, true))⟩, 5, 5⟩,⟨⟨some 187,.mklit 1 [(.c (.int .i64 1))],(some (185, true))⟩, 5, 5⟩,⟨⟨some 188,.call (.c (.func 21 [] [])) [.t 186,.t 187],(some (185, true))⟩, 5, 6⟩,⟨⟨some 189,.pick (.t 185) (.t 188) (.c (.bool false)),none⟩, 6, 6⟩,⟨⟨some 190,.mov (.t 189),none⟩, 6, 6⟩,⟨⟨some 191,.load (some 2) (.t 23),(some (190, true))⟩, 6, 7⟩,⟨⟨some 192,.call (.c (.func 37 [] [])) [(.c (.int .i64 0)), (.c (.int .i64 0))],(some (190, true))⟩, 6, 7⟩,⟨⟨some 193,.eql (.agg [.i, .i]) false (.t 191) (.t 192),(some (190, true))⟩, 7, 7⟩,⟨⟨some 194,.pick (.t 190) (.t 193) (.c (.bool false)),none⟩, 7, 7⟩,⟨⟨some 195,.mov (.t 194),none⟩, 7, 7⟩,⟨⟨some 196,.mov (.t 25),(some (195, true))⟩, 7, 7⟩,⟨⟨some 197,.mklit 1 [(.c (.int .i64 1))],(some (195, true))⟩, 7, 7⟩,⟨⟨some 198,.call (.c (.func 21 [] [])) [.t 196,.t 197],(some (195, true))⟩, 7, 8⟩,⟨⟨some 199,.pick (.t 195) (.t 198) (.c (.bool false)),none⟩, 8, 8⟩,⟨⟨some 200,.mov (.t 199),none⟩, 8, 8⟩,⟨⟨some 201,.mov (.t 27),(some (200, true))⟩, 8, 8⟩,⟨⟨some 202,.mklit 1 [(.c (.int .i64 1))],(some (200, true))⟩, 8, 8⟩,⟨⟨some 203,.call (.c (.func 21 [] [])) [.t 201,.t 202],(some (200, true))⟩, 8, 9⟩,⟨⟨some 204,.pick (.t 200) (.t 203) (.c (.bool false)),none⟩, 9, 9⟩,⟨⟨some 0,.mov (.t 204),none⟩, 9, 9⟩])
 (.jump .ret))))))))))))))))⟩
def a23 : AFunc := ⟨30, [.tmp 6, .tmp 7],
 .seq (.reg [⟨some 3,.box 7 (.t 0),none⟩,⟨some 6,.mov (.c (.int .i64 0)),none⟩,⟨some 7,.mov (.c (.int .i64 0)),none⟩])
 (.seq (.dreg [⟨⟨some 11,.load (some 7) (.t 3),none⟩, 0, 1⟩,⟨⟨some 12,.mov (.t 1),none⟩, 0, 1⟩,⟨⟨some 13,.max [(.t 12), (.c (.int .i64 (-1099511627775)))],none⟩, 0, 1⟩,⟨⟨some 14,.mov (.t 2),none⟩, 0, 0⟩,⟨⟨some 15,.faddr (.t 3) 0,none⟩, 0, 0⟩,⟨⟨some 16,.load none (.t 15),none⟩, 0, 0⟩,⟨⟨some 17,.len 1 (.t 16),none⟩, 0, 0⟩,⟨⟨some 18,.mklit 1 [.t 14,.t 17],none⟩, 0, 0⟩,⟨⟨some 19,.call (.c (.func 71 [] [])) [.t 18],none⟩, 0, 1⟩,⟨⟨some 20,.call (.c (.func 70 [] [])) [.t 11,.t 13,.t 19],none⟩, 1, 2⟩,⟨⟨some 10,.mov (.t 20),none⟩, 2, 2⟩,⟨⟨some 21,.ext (.t 10) 0,none⟩, 2, 2⟩,⟨⟨some 22,.ext (.t 10) 1,none⟩, 2, 2⟩,⟨⟨some 8,.mov (.t 21),none⟩, 2, 2⟩,⟨⟨some 9,.mov (.t 22),none⟩, 2, 2⟩])
 (.seq (.seq (.reg [⟨some 23,.mov (.t 9),none⟩,⟨some 24,.eql (.one .i) true (.t 23) (.c (.int .i64 0)),none⟩])
 (.cond (.t 24) (.seq (.reg [⟨some 25,.mov (.t 9),none⟩,⟨some 6,.mov (.c (.int .i64 0)),none⟩,⟨some 7,.mov (.t 25),none⟩])
 (.jump .ret))
 .skip))
 (.seq (.reg [⟨some 26,.mov (.t 8),none⟩,⟨some 27,.mov (.t 1),none⟩,⟨some 28,.mov (.t 2),none⟩,⟨some 29,.call (.c (.func 80 [] [])) [.t 26,.t 27,.t 28],none⟩,⟨some 6,.mov (.t 29),none⟩,⟨some 7,.mov (.c (.int .i64 0)),none⟩])
 (.jump .ret))))⟩
def L25_0 : ACode := .seq (.reg [⟨some 25,.bin .lss (.t 24) (.t 23),none⟩])
 (.seq (.cond (.t 25) .skip
 (.jump (.exit 0)))
 (.seq (.block 1 (.seq (.reg [⟨some 26,.mov (.t 24),none⟩,⟨some 8,.mov (.t 26),none⟩])
 (.seq (.reg [⟨some 27,.mov (.t 7),none⟩,⟨some 28,.mov (.t 1),none⟩,⟨some 29,.mov (.t 8),none⟩,⟨some 30,.call (.c (.func 80 [] [])) [.t 27,.t 28,.t 29],none⟩,⟨some 9,.mov (.t 30),none⟩])
 (.seq (.seq (.reg [⟨some 31,.mov (.t 9),none⟩,⟨some 32,.eql (.one .i) false (.t 31) (.c (.int .i64 1)),none⟩])
 (.cond (.t 32) (.reg [⟨some 33,.mov (.t 4),none⟩,⟨some 34,.mov (.t 8),none⟩,⟨some 35,.mklit 1 [.t 34],none⟩,⟨some 36,.append 1 8 (.t 33) (.t 35),none⟩,⟨some 4,.mov (.t 36),none⟩])
 .skip))
 (.seq (.reg [⟨some 37,.mov (.t 9),none⟩,⟨some 38,.eql (.one .i) true (.t 37) (.c (.int .i64 2)),none⟩])
 (.cond (.t 38) (.reg [⟨some 39,.mov (.t 5),none⟩,⟨some 40,.mov (.t 8),none⟩,⟨some 41,.mklit 1 [.t 40],none⟩,⟨some 42,.append 1 8 (.t 39) (.t 41),none⟩,⟨some 5,.mov (.t 42),none⟩])
 .skip))))))
 (.reg [⟨some 43,.bin .add (.t 24) (.c (.int .i64 1)),none⟩,⟨some 24,.mov (.t 43),none⟩])))
def a25 : AFunc := ⟨46, [.tmp 4, .tmp 5, .tmp 6],
 .seq (.reg [⟨some 2,.box 7 (.t 0),none⟩,⟨some 4,.mov (.c (.lit [] true none)),none⟩,⟨some 5,.mov (.c (.lit [] true none)),none⟩,⟨some 6,.mov (.c (.int .i64 0)),none⟩])
 (.seq (.reg [⟨some 11,.load (some 7) (.t 2),none⟩,⟨some 12,.mov (.t 1),none⟩,⟨some 13,.max [(.t 12), (.c (.int .i64 (-1099511627775)))],none⟩,⟨some 14,.call (.c (.func 70 [] [])) [(.t 11), (.t 13), (.c (.func 77 [] []))],none⟩,⟨some 10,.mov (.t 14),none⟩,⟨some 15,.ext (.t 10) 0,none⟩,⟨some 16,.ext (.t 10) 1,none⟩,⟨some 7,.mov (.t 15),none⟩,⟨some 6,.mov (.t 16),none⟩])
 (.seq (.seq (.reg [⟨some 17,.mov (.t 6),none⟩,⟨some 18,.eql (.one .i) true (.t 17) (.c (.int .i64 0)),none⟩])
 (.cond (.t 18) (.seq (.reg [⟨some 19,.mov (.t 6),none⟩,⟨some 4,.mov (.c (.lit [] true none)),none⟩,⟨some 5,.mov (.c (.lit [] true none)),none⟩,⟨some 6,.mov (.t 19),none⟩])
 (.jump .ret))
 .skip))
 (.seq (.seq (.reg [⟨some 20,.faddr (.t 2) 0,none⟩,⟨some 21,.load none (.t 20),none⟩,⟨some 22,.len 1 (.t 21),none⟩,⟨some 23,.bin .add (.t 22) (.c (.int .i64 1)),none⟩,⟨some 24,.mov (.c (.int .i64 0)),none⟩])
 (.block 0 (.loop L25_0)))
 (.seq (.reg [⟨some 44,.mov (.t 4),none⟩,⟨some 45,.mov (.t 5),none⟩,⟨some 4,.mov (.t 44),none⟩,⟨some 5,.mov (.t 45),none⟩,⟨some 6,.mov (.c (.int .i64 0)),none⟩])
 (.jump .ret)))))⟩
def L27_0 : ACode := .seq (.reg [⟨some 25,.bin .lss (.t 24) (.t 23),none⟩])
 (.seq (.cond (.t 25) .skip
 (.jump (.exit 0)))
 (.seq (.block 1 (.seq (.reg [⟨some 26,.mov (.t 24),none⟩,⟨some 9,.mov (.t 26),none⟩])
 (.seq (.dreg [⟨⟨some 27,.mov (.t 6),none⟩, 0, 0⟩,⟨⟨some 28,.mov (.t 1),none⟩, 0, 0⟩,⟨⟨some 29,.mov (.t 9),none⟩, 0, 0⟩,⟨⟨some 30,.call (.c (.func 72 [] [])) [.t 27,.t 28,.t 29],none⟩, 0, 1⟩,⟨⟨some 31,.field (.t 30) 1 none,none⟩, 1, 1⟩,⟨⟨some 32,.faddr (.t 2) 3,none⟩, 0, 1⟩,⟨⟨some 33,.faddr (.t 32) 1,none⟩, 0, 1⟩,⟨⟨some 34,.load none (.t 33),none⟩, 0, 1⟩,⟨⟨some 35,.bin .add (.t 31) (.t 34),none⟩, 1, 1⟩,⟨⟨some 36,.faddr (.t 2) 2,none⟩, 0, 1⟩,⟨⟨some 37,.load none (.t 36),none⟩, 0, 1⟩,⟨⟨some 38,.bin .leq (.t 35) (.t 37),none⟩, 1, 1⟩])
 (.cond (.t 38) (.reg [⟨some 39,.mov (.t 9),none⟩,⟨some 8,.mov (.t 39),none⟩])
 .skip))))
 (.reg [⟨some 40,.bin .add (.t 24) (.c (.int .i64 1)),none⟩,⟨some 24,.mov (.t 40),none⟩])))
def a27 : AFunc := ⟨44, [.tmp 4, .tmp 5],
 .seq (.reg [⟨some 2,.box 7 (.t 0),none⟩,⟨some 4,.mov (.c (.int .i64 0)),none⟩,⟨some 5,.mov (.c (.int .i64 0)),none⟩])
 (.seq (.reg [⟨some 11,.load (some 7) (.t 2),none⟩,⟨some 12,.mov (.t 1),none⟩,⟨some 13,.max [(.t 12), (.c (.int .i64 (-1099511627775)))],none⟩,⟨some 14,.call (.c (.func 70 [] [])) [(.t 11), (.t 13), (.c (.func 77 [] []))],none⟩,⟨some 10,.mov (.t 14),none⟩,⟨some 15,.ext (.t 10) 0,none⟩,⟨some 16,.ext (.t 10) 1,none⟩,⟨some 6,.mov (.t 15),none⟩,⟨some 7,.mov (.t 16),none⟩])
 (.seq (.seq (.reg [⟨some 17,.mov (.t 7),none⟩,⟨some 18,.eql (.one .i) true (.t 17) (.c (.int .i64 0)),none⟩])
 (.cond (.t 18) (.seq (.reg [⟨some 19,.mov (.t 7),none⟩,⟨some 4,.mov (.c (.int .i64 0)),none⟩,⟨some 5,.mov (.t 19),none⟩])
 (.jump .ret))
 .skip))
 (.seq (.reg [⟨some 8,.mov (.c (.int .i64 (-1))),none⟩])
 (.seq (.seq (.reg [⟨some 20,.faddr (.t 2) 0,none⟩,⟨some 21,.load none (.t 20),none⟩,⟨some 22,.len 1 (.t 21),none⟩,⟨some 23,.bin .add (.t 22) (.c (.int .i64 1)),none⟩,⟨some 24,.mov (.c (.int .i64 0)),none⟩])
 (.block 0 (.loop L27_0)))
 (.seq (.seq (.reg [⟨some 41,.mov (.t 8),none⟩,⟨some 42,.bin .lss (.t 41) (.c (.int .i64 0)),none⟩])
 (.cond (.t 42) (.seq (.reg [⟨some 4,.mov (.c (.int .i64 0)),none⟩,⟨some 5,.mov (.c (.int .i64 9)),none⟩])
 (.jump .ret))
 .skip))
 (.seq (.reg [⟨some 43,.mov (.t 8),none⟩,⟨some 4,.mov (.t 43),none⟩,⟨some 5,.mov (.c (.int .i64 0)),none⟩])
 (.jump .ret)))))))⟩
end Go.Am.Room
