/- A part of the proofs: an abstract machine, or what functions come to on it. -/
import Derived.Test.YtefifnlhfmfnlaaAllQ3
import Derived.Lib.Strings
import Derived.Laws.RangeAny
set_option linter.unusedVariables false
set_option linter.unusedSimpArgs false
set_option linter.defProp false
namespace Go.Am
variable {T : FuncId → Option AFunc}
class HP (α : Type) where
 out : α
def bO (r : Option (AV × St)) [K : HP (AV → St → Prop)] : Prop := bindO r K.out
theorem B_some (v : AV) (σ : St) (K : AV → St → Prop) : bO (K := ⟨K⟩) (some (v, σ)) = K v σ := by simp only [bO, bindO]
def cK (T : FuncId → Option AFunc) (f : AV) (args : List AV) (σ : St) [K : HP (AV → St → Prop)] : Prop := CallK T f args σ K.out
def cD (T : FuncId → Option AFunc) (f : AV) (args : List AV) (σ : St) [K : HP (AV → St → Prop)] : Prop := CallD T f args σ K.out
def rK (T : FuncId → Option AFunc) (c : ACode) (e : Env) (σ : St) [K : HP KJ] : Prop := RunK T c e σ K.out
def iteP (b : Bool) [A : HP Prop] [B : HP Prop] : Prop := if b = true then A.out else B.out
theorem iteP_true (A : Prop) (B : HP Prop) : iteP (A := ⟨A⟩) true = A := by simp [iteP]
theorem iteP_false (A : HP Prop) (B : Prop) : iteP (B := ⟨B⟩) false = B := by simp [iteP]
theorem iteP_intro {b : Bool} {A B : Prop} (h1 : b = true → A) (h2 : b = false → B) : iteP (A := ⟨A⟩) (B := ⟨B⟩) b := by cases b <;> simp [iteP] <;> first | exact h1 rfl | exact h2 rfl
def bB (v : AV) [A : HP Prop] [B : HP Prop] : Prop := bindB v (fun _ => A.out) (fun _ => B.out)
def bG (v : AV) (want : Bool) [A : HP Prop] [B : HP Prop] : Prop := bindG v want (fun _ => A.out) (fun _ => B.out)
theorem W_loop (b : ACode) (e : Env) (σ : St) (K : KJ) : wp T (.loop b) e σ K = rK (K := ⟨K⟩) T (.loop b) e σ := by simp only [wp, rK]
theorem W_range (f : AOpd) (ps : List Nat) (a b : ACode) (e : Env) (σ : St) (K : KJ) : wp T (.rangeFunc f ps a b) e σ K = rK (K := ⟨K⟩) T (.rangeFunc f ps a b) e σ := by simp only [wp, rK]
theorem W_cond (c : AOpd) (a b : ACode) (e : Env) (σ : St) (K : KJ) : wp T (.cond c a b) e σ K = bB (A := ⟨wp T a e σ K⟩) (B := ⟨wp T b e σ K⟩) (c.ev e) := by simp only [wp, bB]
def evs (e : Env) : List AOpd → List AV
 | [] => []
 | x :: xs => x.ev e :: evs e xs
theorem evs_map (e : Env) : ∀ xs : List AOpd, xs.map (·.ev e) = evs e xs
 | [] => rfl
 | x :: xs => by simp [evs, evs_map e xs]
def ovs (e : Env) : Option AOpd → Option AV
 | none => none
 | some x => some (x.ev e)
def vPick : AV → AV → AV → Option AV
 | .bool true, x, _ => some x
 | .bool false, _, y => some y
 | _, _, _ => none
def vLit (n : Nat) (xs : List AV) : Option AV := if allCells n xs = true then some (.lit xs true none) else none
def vNil : AV → Option AV
 | .ptr i o => some (.ptr i o)
 | .lptr xs i o t => some (.lptr xs i o t)
 | .func f a b => some (.func f a b)
 | .yield i => some (.yield i)
 | _ => none
def vNeg : AV → Option AV
 | .int k n => some (.int k (k.wrap (0 - n)))
 | _ => none
def vConv (k : IntKind) : AV → Option AV
 | .int _ n => some (.int k (k.wrap n))
 | _ => none
def vStr : AV → Option ByteArray
 | .str s => some s
 | _ => none
def vSnext (σ : St) : AV → Option (AV × St)
 | .ptr id 0 =>
  match σ[id]? with
  | some (.siter s pos) =>
   if pos < s.size then some (.tuple [.bool true, .int .i64 pos, .int .i32 (Utf8.decode s pos).1], σ.set id (.siter s (pos + (Utf8.decode s pos).2)))
   else some (.tuple [.bool false], σ)
  | _ => none
 | _ => none
def vMkslice (bytes : Nat) (l c : AV) : Option Nat :=
 match l, c with
 | .int _ n, .int _ m => if 0 ≤ n ∧ n = m ∧ n * bytes ≤ room ∧ n ≤ room then some n.toNat else none
 | _, _ => none
def vBound (d : Nat) : Option AV → Option Int
 | none => some d
 | some x => intOf x
def vSlicev (sz : Nat) (σ : St) (x : AV) (lo hi mx : Option AV) : Option AV :=
 match lenAV 1 σ x with
 | none => none
 | some n =>
  match vBound 0 lo, vBound n hi, mx.map intOf with
  | some l, some h, none => sliceAV sz x l h false
  | some l, some h, some (some m) => if m = h ∧ hi.isSome = true then sliceAV sz x l h true else none
  | _, _, _ => none
def vSlicea (n sz : Nat) (x : AV) (lo hi : Option AV) : Option AV :=
 match x, vBound 0 lo, vBound n hi with
 | .ptr id off, some l, some h => if 0 ≤ l ∧ l ≤ h ∧ h ≤ n then some (.ref id (off + l.toNat * sz) (h.toNat - l.toNat) sz) else none
 | _, _, _ => none
def vField (off : Nat) (sh : Option Nat) : AV → Option AV
 | .agg cs => shaped sh cs off
 | _ => none
def vIaddr (arr : Option Nat) (sz : Nat) (x i : AV) : Option AV :=
 match intOf i, arr, x with
 | some j, some n, .ptr id off => if 0 ≤ j ∧ j < n then some (.ptr id (off + j.toNat * sz)) else none
 | some j, some n, .lptr xs q off t => if 0 ≤ j ∧ j < n then some (.lptr xs q (off + j.toNat * sz) t) else none
 | some j, none, .lit xs _ t =>
  match xs[j.toNat]? with
  | some y => if 0 ≤ j ∧ y.cells.length = sz then some (.lptr xs j.toNat 0 t) else none
  | none => none
 | some j, none, .ref id off len sz' => if 0 ≤ j ∧ j < len ∧ sz' = sz then some (.ptr id (off + j.toNat * sz)) else none
 | _, _, _ => none
def vIndex (n sz : Nat) (sh : Option Nat) (x i : AV) : Option AV :=
 match intOf i, x with
 | some j, .agg cs => if 0 ≤ j ∧ j < n then shaped sh cs (j.toNat * sz) else none
 | _, _ => none
def vSindex (x i : AV) : Option AV :=
 match intOf i, x with
 | some j, .str s => if 0 ≤ j then (s[j.toNat]?).map fun b => .int .u8 b.toNat else none
 | _, _ => none
def vLook (ok : Bool) (zero : AV) : Option (Option AV) → Option AV
 | some (some v) => some (if ok then .tuple [v, .bool true] else v)
 | some none => some (if ok then .tuple [zero, .bool false] else zero)
 | none => none
def vMapset (sh : EqTy) (σ : St) (m k v : AV) : Option St :=
 match m with
 | .map id =>
  if (eqSh sh k k).isSome = false then none else
  match σ[id]? with
  | some (.map es) => (setKey sh k v es).map fun es' => σ.set id (.map es')
  | _ => none
 | _ => none
theorem A_mov (x : AOpd) (e : Env) (σ : St) : aop (.mov x) e σ = some (x.ev e, σ) := by
 simp only [aop]
theorem A_alloc (z : List AV) (e : Env) (σ : St) : aop (.alloc z) e σ = some (.ptr σ.length 0, σ ++ [.cells z]) := by
 simp only [aop]
theorem A_pick (c x y : AOpd) (e : Env) (σ : St) : aop (.pick c x y) e σ = (vPick (c.ev e) (x.ev e) (y.ev e)).map (·, σ) := by
 simp only [aop, vPick]; repeat' split
 all_goals simp_all
theorem A_box (n : Nat) (x : AOpd) (e : Env) (σ : St) : aop (.box n x) e σ = (vCells n (x.ev e)).map fun cs => (.ptr σ.length 0, σ ++ [.cells cs]) := by
 simp only [aop, vCells]; split <;> simp_all
theorem A_build (z : List AV) (ps : List (Nat × Nat × AOpd)) (e : Env) (σ : St) : aop (.build z ps) e σ = (buildCells e z ps).map fun cs => (.agg cs, σ) := by
 simp only [aop]; cases buildCells e z ps <;> simp
theorem A_mklit (n : Nat) (xs : List AOpd) (e : Env) (σ : St) : aop (.mklit n xs) e σ = (vLit n (evs e xs)).map (·, σ) := by
 simp only [aop, vLit, evs_map]; split <;> simp_all
theorem A_mkref (n : Nat) (xs : List AOpd) (e : Env) (σ : St) : aop (.mkref n xs) e σ = (vLit n (evs e xs)).map fun _ => (.ref σ.length 0 (evs e xs).length n, σ ++ [.cells ((evs e xs).flatMap AV.cells)]) := by
 simp only [aop, vLit, evs_map]; have := congrArg List.length (evs_map e xs); split <;> simp_all
theorem A_load (sh : Option Nat) (x : AOpd) (e : Env) (σ : St) : aop (.load sh x) e σ = (loadAV sh σ (x.ev e)).map (·, σ) := by
 simp only [aop]; cases loadAV sh σ (x.ev e) <;> simp
theorem A_store (n : Nat) (x y : AOpd) (e : Env) (σ : St) : aop (.store n x y) e σ = (storeAV n σ (x.ev e) (y.ev e)).map (.tuple [], ·) := by
 simp only [aop]; cases storeAV n σ (x.ev e) (y.ev e) <;> simp
theorem A_nilCheck (x : AOpd) (e : Env) (σ : St) : aop (.nilCheck x) e σ = (vNil (x.ev e)).map (·, σ) := by
 simp only [aop, vNil]; cases x.ev e <;> simp
theorem A_bin (op : BinOp) (x y : AOpd) (e : Env) (σ : St) : aop (.bin op x y) e σ = (binAV op (x.ev e) (y.ev e)).map (·, σ) := by
 simp only [aop]; cases binAV op (x.ev e) (y.ev e) <;> simp
theorem A_eql (sh : EqTy) (n : Bool) (x y : AOpd) (e : Env) (σ : St) : aop (.eql sh n x y) e σ = (vEql sh n (x.ev e) (y.ev e)).map (·, σ) := by
 simp only [aop, vEql]; cases eqSh sh (x.ev e) (y.ev e) <;> simp
theorem A_not (x : AOpd) (e : Env) (σ : St) : aop (.not x) e σ = (vNot (x.ev e)).map (·, σ) := by
 simp only [aop, vNot]; cases x.ev e <;> simp
theorem A_neg (x : AOpd) (e : Env) (σ : St) : aop (.neg x) e σ = (vNeg (x.ev e)).map (·, σ) := by
 simp only [aop, vNeg]; cases x.ev e <;> simp
theorem A_conv (k : IntKind) (x : AOpd) (e : Env) (σ : St) : aop (.conv k x) e σ = (vConv k (x.ev e)).map (·, σ) := by
 simp only [aop, vConv]; cases x.ev e <;> simp
theorem A_mkfun (f : FuncId) (xs ys : List AOpd) (e : Env) (σ : St) : aop (.mkfun f xs ys) e σ = some (.func f (evs e xs) (evs e ys), σ) := by
 simp only [aop, evs_map]
theorem A_mkmap  (e : Env) (σ : St) : aop (.mkmap) e σ = some (.map σ.length, σ ++ [.map []]) := by
 simp only [aop]
theorem A_mkslice (z : List AV) (b : Nat) (x y : AOpd) (e : Env) (σ : St) : aop (.mkslice z b x y) e σ = (vMkslice b (x.ev e) (y.ev e)).map fun n => (.ref σ.length 0 n z.length, σ ++ [.cells (List.replicate n z).flatten]) := by
 simp only [aop, vMkslice]; generalize x.ev e = u; generalize y.ev e = v; cases u <;> cases v <;> first | rfl | (dsimp only; split <;> first | rfl | simp_all | (split <;> simp_all))
theorem A_slicev (n : Nat) (x : AOpd) (lo hi mx : Option AOpd) (e : Env) (σ : St) : aop (.slicev n x lo hi mx) e σ = (vSlicev n σ (x.ev e) (ovs e lo) (ovs e hi) (ovs e mx)).map (·, σ) := by
 simp only [aop, vSlicev]; cases lenAV 1 σ (x.ev e) <;> cases lo <;> cases hi <;> cases mx <;> simp only [boundOr, vBound, ovs, Option.map_none, Option.map_some] <;> repeat' split
 all_goals simp_all
theorem A_slicea (n s : Nat) (x : AOpd) (lo hi : Option AOpd) (e : Env) (σ : St) : aop (.slicea n s x lo hi) e σ = (vSlicea n s (x.ev e) (ovs e lo) (ovs e hi)).map (·, σ) := by
 simp only [aop, vSlicea]; generalize x.ev e = u; cases lo with
 | none => cases hi with
  | none => simp only [boundOr, vBound, ovs]; cases u <;> first | rfl | (dsimp only; split <;> first | rfl | simp_all | (split <;> simp_all))
  | some h => simp only [boundOr, vBound, ovs]; generalize intOf (h.ev e) = p; cases u <;> cases p <;> first | rfl | (dsimp only; split <;> first | rfl | simp_all | (split <;> simp_all))
 | some l => cases hi with
  | none => simp only [boundOr, vBound, ovs]; generalize intOf (l.ev e) = p; cases u <;> cases p <;> first | rfl | (dsimp only; split <;> first | rfl | simp_all | (split <;> simp_all))
  | some h => simp only [boundOr, vBound, ovs]; generalize intOf (l.ev e) = p; generalize intOf (h.ev e) = q; cases u <;> cases p <;> cases q <;> first | rfl | (dsimp only; split <;> first | rfl | simp_all | (split <;> simp_all))
theorem A_faddr (x : AOpd) (o : Nat) (e : Env) (σ : St) : aop (.faddr x o) e σ = (vFaddr o (x.ev e)).map (·, σ) := by
 simp only [aop, vFaddr]; cases x.ev e <;> simp
theorem A_field (x : AOpd) (o : Nat) (sh : Option Nat) (e : Env) (σ : St) : aop (.field x o sh) e σ = (vField o sh (x.ev e)).map (·, σ) := by
 simp only [aop, vField]; cases x.ev e <;> simp <;> (rename_i cs; cases shaped sh cs o <;> simp)
theorem A_iaddr (a : Option Nat) (s : Nat) (x i : AOpd) (e : Env) (σ : St) : aop (.iaddr a s x i) e σ = (vIaddr a s (x.ev e) (i.ev e)).map (·, σ) := by
 simp only [aop, vIaddr]; generalize intOf (i.ev e) = q; generalize x.ev e = u; cases q <;> cases a <;> cases u <;> first | rfl | (dsimp only; split <;> first | rfl | simp_all | (split <;> simp_all))
theorem A_index (n s : Nat) (sh : Option Nat) (x i : AOpd) (e : Env) (σ : St) : aop (.index n s sh x i) e σ = (vIndex n s sh (x.ev e) (i.ev e)).map (·, σ) := by
 simp only [aop, vIndex]; generalize intOf (i.ev e) = q; generalize x.ev e = u; cases q <;> cases u <;> first | rfl | (dsimp only; split <;> first | rfl | simp_all | (split <;> simp_all))
theorem A_sindex (x i : AOpd) (e : Env) (σ : St) : aop (.sindex x i) e σ = (vSindex (x.ev e) (i.ev e)).map (·, σ) := by
 simp only [aop, vSindex]; generalize intOf (i.ev e) = q; generalize x.ev e = u; cases q <;> cases u <;> first | rfl | (dsimp only; split <;> first | rfl | (rename_i k b h; cases b[k.toNat]? <;> rfl))
theorem A_lookup (sh : EqTy) (ok : Bool) (z : AV) (m k : AOpd) (e : Env) (σ : St) : aop (.lookup sh ok z m k) e σ = (vLook ok z (lookAV sh σ (m.ev e) (k.ev e))).map (·, σ) := by
 simp only [aop, vLook]; cases lookAV sh σ (m.ev e) (k.ev e) with
 | none => rfl
 | some o => cases o <;> rfl
theorem A_mapset (sh : EqTy) (m k v : AOpd) (e : Env) (σ : St) : aop (.mapset sh m k v) e σ = (vMapset sh σ (m.ev e) (k.ev e) (v.ev e)).map (.tuple [], ·) := by
 simp only [aop, vMapset]; repeat' split
 all_goals simp_all
theorem A_ext (x : AOpd) (i : Nat) (e : Env) (σ : St) : aop (.ext x i) e σ = (vExt i (x.ev e)).map (·, σ) := by
 simp only [aop, vExt]; cases x.ev e <;> simp <;> (rename_i vs; cases vs[i]? <;> simp)
theorem A_len (k : Nat) (x : AOpd) (e : Env) (σ : St) : aop (.len k x) e σ = (lenAV k σ (x.ev e)).map fun n => (.int .i64 n, σ) := by
 simp only [aop]; cases lenAV k σ (x.ev e) <;> simp
theorem A_append (n b : Nat) (x y : AOpd) (e : Env) (σ : St) : aop (.append n b x y) e σ = appendAV n b σ (x.ev e) (y.ev e) := by
 simp only [aop]
theorem A_apref (n b : Nat) (x y : AOpd) (e : Env) (σ : St) : aop (.apref n b x y) e σ = aprefAV n b σ (x.ev e) (y.ev e) := by
 simp only [aop]
theorem A_copy (n : Nat) (x y : AOpd) (e : Env) (σ : St) : aop (.copy n x y) e σ = copyAV n σ (x.ev e) (y.ev e) := by
 simp only [aop]
theorem A_min (xs : List AOpd) (e : Env) (σ : St) : aop (.min xs) e σ = (minAV (evs e xs)).map (·, σ) := by
 simp only [aop, evs_map]; cases minAV (evs e xs) <;> simp
theorem A_max (xs : List AOpd) (e : Env) (σ : St) : aop (.max xs) e σ = (maxAV (evs e xs)).map (·, σ) := by
 simp only [aop, evs_map]; cases maxAV (evs e xs) <;> simp
theorem A_srange (x : AOpd) (e : Env) (σ : St) : aop (.srange x) e σ = (vStr (x.ev e)).map fun s => (.ptr σ.length 0, σ ++ [.siter s 0]) := by
 simp only [aop, vStr]; cases x.ev e <;> simp
theorem A_snext (x : AOpd) (e : Env) (σ : St) : aop (.snext x) e σ = vSnext σ (x.ev e) := by
 simp only [aop, vSnext]; cases x.ev e <;> rfl
theorem W_mov (x : AOpd) (d : Option Nat) (os : List AOper) (e : Env) (σ : St) (K : Env → St → Prop) : wpOps T (⟨d, .mov x, none⟩ :: os) e σ K = bO (K := ⟨fun v σ' => wpOps T os (Env.put e d v) σ' K⟩) (aop (.mov x) e σ) := by simp only [wpOps, wpOp, bO]
theorem W_alloc (z : List AV) (d : Option Nat) (os : List AOper) (e : Env) (σ : St) (K : Env → St → Prop) : wpOps T (⟨d, .alloc z, none⟩ :: os) e σ K = bO (K := ⟨fun v σ' => wpOps T os (Env.put e d v) σ' K⟩) (aop (.alloc z) e σ) := by simp only [wpOps, wpOp, bO]
theorem W_pick (c x y : AOpd) (d : Option Nat) (os : List AOper) (e : Env) (σ : St) (K : Env → St → Prop) : wpOps T (⟨d, .pick c x y, none⟩ :: os) e σ K = bO (K := ⟨fun v σ' => wpOps T os (Env.put e d v) σ' K⟩) (aop (.pick c x y) e σ) := by simp only [wpOps, wpOp, bO]
theorem W_box (n : Nat) (x : AOpd) (d : Option Nat) (os : List AOper) (e : Env) (σ : St) (K : Env → St → Prop) : wpOps T (⟨d, .box n x, none⟩ :: os) e σ K = bO (K := ⟨fun v σ' => wpOps T os (Env.put e d v) σ' K⟩) (aop (.box n x) e σ) := by simp only [wpOps, wpOp, bO]
theorem W_build (z : List AV) (ps : List (Nat × Nat × AOpd)) (d : Option Nat) (os : List AOper) (e : Env) (σ : St) (K : Env → St → Prop) : wpOps T (⟨d, .build z ps, none⟩ :: os) e σ K = bO (K := ⟨fun v σ' => wpOps T os (Env.put e d v) σ' K⟩) (aop (.build z ps) e σ) := by simp only [wpOps, wpOp, bO]
theorem W_mklit (n : Nat) (xs : List AOpd) (d : Option Nat) (os : List AOper) (e : Env) (σ : St) (K : Env → St → Prop) : wpOps T (⟨d, .mklit n xs, none⟩ :: os) e σ K = bO (K := ⟨fun v σ' => wpOps T os (Env.put e d v) σ' K⟩) (aop (.mklit n xs) e σ) := by simp only [wpOps, wpOp, bO]
theorem W_mkref (n : Nat) (xs : List AOpd) (d : Option Nat) (os : List AOper) (e : Env) (σ : St) (K : Env → St → Prop) : wpOps T (⟨d, .mkref n xs, none⟩ :: os) e σ K = bO (K := ⟨fun v σ' => wpOps T os (Env.put e d v) σ' K⟩) (aop (.mkref n xs) e σ) := by simp only [wpOps, wpOp, bO]
theorem W_load (sh : Option Nat) (x : AOpd) (d : Option Nat) (os : List AOper) (e : Env) (σ : St) (K : Env → St → Prop) : wpOps T (⟨d, .load sh x, none⟩ :: os) e σ K = bO (K := ⟨fun v σ' => wpOps T os (Env.put e d v) σ' K⟩) (aop (.load sh x) e σ) := by simp only [wpOps, wpOp, bO]
theorem W_store (n : Nat) (x y : AOpd) (d : Option Nat) (os : List AOper) (e : Env) (σ : St) (K : Env → St → Prop) : wpOps T (⟨d, .store n x y, none⟩ :: os) e σ K = bO (K := ⟨fun v σ' => wpOps T os (Env.put e d v) σ' K⟩) (aop (.store n x y) e σ) := by simp only [wpOps, wpOp, bO]
theorem W_nilCheck (x : AOpd) (d : Option Nat) (os : List AOper) (e : Env) (σ : St) (K : Env → St → Prop) : wpOps T (⟨d, .nilCheck x, none⟩ :: os) e σ K = bO (K := ⟨fun v σ' => wpOps T os (Env.put e d v) σ' K⟩) (aop (.nilCheck x) e σ) := by simp only [wpOps, wpOp, bO]
theorem W_bin (op : BinOp) (x y : AOpd) (d : Option Nat) (os : List AOper) (e : Env) (σ : St) (K : Env → St → Prop) : wpOps T (⟨d, .bin op x y, none⟩ :: os) e σ K = bO (K := ⟨fun v σ' => wpOps T os (Env.put e d v) σ' K⟩) (aop (.bin op x y) e σ) := by simp only [wpOps, wpOp, bO]
theorem W_eql (sh : EqTy) (n : Bool) (x y : AOpd) (d : Option Nat) (os : List AOper) (e : Env) (σ : St) (K : Env → St → Prop) : wpOps T (⟨d, .eql sh n x y, none⟩ :: os) e σ K = bO (K := ⟨fun v σ' => wpOps T os (Env.put e d v) σ' K⟩) (aop (.eql sh n x y) e σ) := by simp only [wpOps, wpOp, bO]
theorem W_not (x : AOpd) (d : Option Nat) (os : List AOper) (e : Env) (σ : St) (K : Env → St → Prop) : wpOps T (⟨d, .not x, none⟩ :: os) e σ K = bO (K := ⟨fun v σ' => wpOps T os (Env.put e d v) σ' K⟩) (aop (.not x) e σ) := by simp only [wpOps, wpOp, bO]
theorem W_neg (x : AOpd) (d : Option Nat) (os : List AOper) (e : Env) (σ : St) (K : Env → St → Prop) : wpOps T (⟨d, .neg x, none⟩ :: os) e σ K = bO (K := ⟨fun v σ' => wpOps T os (Env.put e d v) σ' K⟩) (aop (.neg x) e σ) := by simp only [wpOps, wpOp, bO]
theorem W_conv (k : IntKind) (x : AOpd) (d : Option Nat) (os : List AOper) (e : Env) (σ : St) (K : Env → St → Prop) : wpOps T (⟨d, .conv k x, none⟩ :: os) e σ K = bO (K := ⟨fun v σ' => wpOps T os (Env.put e d v) σ' K⟩) (aop (.conv k x) e σ) := by simp only [wpOps, wpOp, bO]
theorem W_mkfun (f : FuncId) (xs ys : List AOpd) (d : Option Nat) (os : List AOper) (e : Env) (σ : St) (K : Env → St → Prop) : wpOps T (⟨d, .mkfun f xs ys, none⟩ :: os) e σ K = bO (K := ⟨fun v σ' => wpOps T os (Env.put e d v) σ' K⟩) (aop (.mkfun f xs ys) e σ) := by simp only [wpOps, wpOp, bO]
theorem W_mkmap  (d : Option Nat) (os : List AOper) (e : Env) (σ : St) (K : Env → St → Prop) : wpOps T (⟨d, .mkmap, none⟩ :: os) e σ K = bO (K := ⟨fun v σ' => wpOps T os (Env.put e d v) σ' K⟩) (aop (.mkmap) e σ) := by simp only [wpOps, wpOp, bO]
theorem W_mkslice (z : List AV) (b : Nat) (x y : AOpd) (d : Option Nat) (os : List AOper) (e : Env) (σ : St) (K : Env → St → Prop) : wpOps T (⟨d, .mkslice z b x y, none⟩ :: os) e σ K = bO (K := ⟨fun v σ' => wpOps T os (Env.put e d v) σ' K⟩) (aop (.mkslice z b x y) e σ) := by simp only [wpOps, wpOp, bO]
theorem W_slicev (n : Nat) (x : AOpd) (lo hi mx : Option AOpd) (d : Option Nat) (os : List AOper) (e : Env) (σ : St) (K : Env → St → Prop) : wpOps T (⟨d, .slicev n x lo hi mx, none⟩ :: os) e σ K = bO (K := ⟨fun v σ' => wpOps T os (Env.put e d v) σ' K⟩) (aop (.slicev n x lo hi mx) e σ) := by simp only [wpOps, wpOp, bO]
theorem W_slicea (n s : Nat) (x : AOpd) (lo hi : Option AOpd) (d : Option Nat) (os : List AOper) (e : Env) (σ : St) (K : Env → St → Prop) : wpOps T (⟨d, .slicea n s x lo hi, none⟩ :: os) e σ K = bO (K := ⟨fun v σ' => wpOps T os (Env.put e d v) σ' K⟩) (aop (.slicea n s x lo hi) e σ) := by simp only [wpOps, wpOp, bO]
theorem W_faddr (x : AOpd) (o : Nat) (d : Option Nat) (os : List AOper) (e : Env) (σ : St) (K : Env → St → Prop) : wpOps T (⟨d, .faddr x o, none⟩ :: os) e σ K = bO (K := ⟨fun v σ' => wpOps T os (Env.put e d v) σ' K⟩) (aop (.faddr x o) e σ) := by simp only [wpOps, wpOp, bO]
theorem W_field (x : AOpd) (o : Nat) (sh : Option Nat) (d : Option Nat) (os : List AOper) (e : Env) (σ : St) (K : Env → St → Prop) : wpOps T (⟨d, .field x o sh, none⟩ :: os) e σ K = bO (K := ⟨fun v σ' => wpOps T os (Env.put e d v) σ' K⟩) (aop (.field x o sh) e σ) := by simp only [wpOps, wpOp, bO]
theorem W_iaddr (a : Option Nat) (s : Nat) (x i : AOpd) (d : Option Nat) (os : List AOper) (e : Env) (σ : St) (K : Env → St → Prop) : wpOps T (⟨d, .iaddr a s x i, none⟩ :: os) e σ K = bO (K := ⟨fun v σ' => wpOps T os (Env.put e d v) σ' K⟩) (aop (.iaddr a s x i) e σ) := by simp only [wpOps, wpOp, bO]
theorem W_index (n s : Nat) (sh : Option Nat) (x i : AOpd) (d : Option Nat) (os : List AOper) (e : Env) (σ : St) (K : Env → St → Prop) : wpOps T (⟨d, .index n s sh x i, none⟩ :: os) e σ K = bO (K := ⟨fun v σ' => wpOps T os (Env.put e d v) σ' K⟩) (aop (.index n s sh x i) e σ) := by simp only [wpOps, wpOp, bO]
theorem W_sindex (x i : AOpd) (d : Option Nat) (os : List AOper) (e : Env) (σ : St) (K : Env → St → Prop) : wpOps T (⟨d, .sindex x i, none⟩ :: os) e σ K = bO (K := ⟨fun v σ' => wpOps T os (Env.put e d v) σ' K⟩) (aop (.sindex x i) e σ) := by simp only [wpOps, wpOp, bO]
theorem W_lookup (sh : EqTy) (ok : Bool) (z : AV) (m k : AOpd) (d : Option Nat) (os : List AOper) (e : Env) (σ : St) (K : Env → St → Prop) : wpOps T (⟨d, .lookup sh ok z m k, none⟩ :: os) e σ K = bO (K := ⟨fun v σ' => wpOps T os (Env.put e d v) σ' K⟩) (aop (.lookup sh ok z m k) e σ) := by simp only [wpOps, wpOp, bO]
theorem W_mapset (sh : EqTy) (m k v : AOpd) (d : Option Nat) (os : List AOper) (e : Env) (σ : St) (K : Env → St → Prop) : wpOps T (⟨d, .mapset sh m k v, none⟩ :: os) e σ K = bO (K := ⟨fun v σ' => wpOps T os (Env.put e d v) σ' K⟩) (aop (.mapset sh m k v) e σ) := by simp only [wpOps, wpOp, bO]
theorem W_ext (x : AOpd) (i : Nat) (d : Option Nat) (os : List AOper) (e : Env) (σ : St) (K : Env → St → Prop) : wpOps T (⟨d, .ext x i, none⟩ :: os) e σ K = bO (K := ⟨fun v σ' => wpOps T os (Env.put e d v) σ' K⟩) (aop (.ext x i) e σ) := by simp only [wpOps, wpOp, bO]
theorem W_len (k : Nat) (x : AOpd) (d : Option Nat) (os : List AOper) (e : Env) (σ : St) (K : Env → St → Prop) : wpOps T (⟨d, .len k x, none⟩ :: os) e σ K = bO (K := ⟨fun v σ' => wpOps T os (Env.put e d v) σ' K⟩) (aop (.len k x) e σ) := by simp only [wpOps, wpOp, bO]
theorem W_append (n b : Nat) (x y : AOpd) (d : Option Nat) (os : List AOper) (e : Env) (σ : St) (K : Env → St → Prop) : wpOps T (⟨d, .append n b x y, none⟩ :: os) e σ K = bO (K := ⟨fun v σ' => wpOps T os (Env.put e d v) σ' K⟩) (aop (.append n b x y) e σ) := by simp only [wpOps, wpOp, bO]
theorem W_apref (n b : Nat) (x y : AOpd) (d : Option Nat) (os : List AOper) (e : Env) (σ : St) (K : Env → St → Prop) : wpOps T (⟨d, .apref n b x y, none⟩ :: os) e σ K = bO (K := ⟨fun v σ' => wpOps T os (Env.put e d v) σ' K⟩) (aop (.apref n b x y) e σ) := by simp only [wpOps, wpOp, bO]
theorem W_copy (n : Nat) (x y : AOpd) (d : Option Nat) (os : List AOper) (e : Env) (σ : St) (K : Env → St → Prop) : wpOps T (⟨d, .copy n x y, none⟩ :: os) e σ K = bO (K := ⟨fun v σ' => wpOps T os (Env.put e d v) σ' K⟩) (aop (.copy n x y) e σ) := by simp only [wpOps, wpOp, bO]
theorem W_min (xs : List AOpd) (d : Option Nat) (os : List AOper) (e : Env) (σ : St) (K : Env → St → Prop) : wpOps T (⟨d, .min xs, none⟩ :: os) e σ K = bO (K := ⟨fun v σ' => wpOps T os (Env.put e d v) σ' K⟩) (aop (.min xs) e σ) := by simp only [wpOps, wpOp, bO]
theorem W_max (xs : List AOpd) (d : Option Nat) (os : List AOper) (e : Env) (σ : St) (K : Env → St → Prop) : wpOps T (⟨d, .max xs, none⟩ :: os) e σ K = bO (K := ⟨fun v σ' => wpOps T os (Env.put e d v) σ' K⟩) (aop (.max xs) e σ) := by simp only [wpOps, wpOp, bO]
theorem W_srange (x : AOpd) (d : Option Nat) (os : List AOper) (e : Env) (σ : St) (K : Env → St → Prop) : wpOps T (⟨d, .srange x, none⟩ :: os) e σ K = bO (K := ⟨fun v σ' => wpOps T os (Env.put e d v) σ' K⟩) (aop (.srange x) e σ) := by simp only [wpOps, wpOp, bO]
theorem W_snext (x : AOpd) (d : Option Nat) (os : List AOper) (e : Env) (σ : St) (K : Env → St → Prop) : wpOps T (⟨d, .snext x, none⟩ :: os) e σ K = bO (K := ⟨fun v σ' => wpOps T os (Env.put e d v) σ' K⟩) (aop (.snext x) e σ) := by simp only [wpOps, wpOp, bO]
theorem W_call (f : AOpd) (xs : List AOpd) (d : Option Nat) (os : List AOper) (e : Env) (σ : St) (K : Env → St → Prop) : wpOps T (⟨d, .call f xs, none⟩ :: os) e σ K = cK (K := ⟨fun v σ' => wpOps T os (Env.put e d v) σ' K⟩) T (f.ev e) (evs e xs) σ := by simp only [wpOps, wpOp, evs_map, cK]
theorem W_bindB (b : Bool) (A B : HP Prop) : bB (.bool b) (A := A) (B := B) = iteP (A := A) (B := B) b := by cases b <;> simp [bB, bindB, iteP]
theorem W_bindG1 (b : Bool) (A B : HP Prop) : bG (.bool b) true (A := A) (B := B) = iteP (A := A) (B := B) b := by cases b <;> simp [bG, bindG, iteP]
theorem W_bindG0 (b : Bool) (A B : HP Prop) : bG (.bool b) false (A := A) (B := B) = iteP (A := B) (B := A) b := by cases b <;> simp [bG, bindG, iteP]
theorem W_bindGT (w : Bool) (A : HP Prop) (B : Prop) : bG (.tuple []) w (A := A) (B := ⟨B⟩) = B := by simp [bG, bindG]
theorem W_guard (d : Option Nat) (q : AOp) (t : Nat) (want : Bool) (os : List AOper) (e : Env) (σ : St) (K : Env → St → Prop) : wpOps T (⟨d, q, some (t, want)⟩ :: os) e σ K =
  bG (A := ⟨wpOps T (⟨d, q, none⟩ :: os) e σ K⟩) (B := ⟨wpOps T os (Env.put e d (.tuple [])) σ K⟩) (Env.get e t) want := by simp only [wpOps, bG]
theorem D_reg (ds : List ADOper) (e : Env) (σ : St) (K : KJ) : wp T (.dreg ds) e σ K = rK (K := ⟨K⟩) T (.dreg ds) e σ := by simp only [wp, rK]
theorem rK_dreg {ds : List ADOper} {e : Env} {σ : St} {K : KJ} (h : wpD T ds e (σ ++ allocsOf ds) σ.length [σ ++ allocsOf ds] [] fun e σ => K none e σ) : rK (K := ⟨K⟩) T (.dreg ds) e σ := .dreg (run_wpD h fun e σ hk => hk)
theorem D_nil (e : Env) (σ : St) (next : Nat) (hist : List St) (reads : List ARead) (K : Env → St → Prop) : wpD T [] e σ next hist reads K = (readsP reads hist ∧ K e σ) := by simp only [wpD]
theorem D_call (f : AOpd) (xs : List AOpd) (d : Option Nat) (lo hi : Nat) (ds : List ADOper) (e : Env) (σ : St) (next : Nat) (hist : List St) (reads : List ARead) (K : Env → St → Prop) :
  wpD T (⟨⟨d, .call f xs, none⟩, lo, hi⟩ :: ds) e σ next hist reads K = cD (K := ⟨fun v σ' => wpD T ds (Env.put e d v) σ' next (hist ++ [σ']) reads K⟩) T (f.ev e) (evs e xs) σ := by simp only [wpD, evs_map, cD]
theorem D_alloc (z : List AV) (d : Option Nat) (lo hi : Nat) (ds : List ADOper) (e : Env) (σ : St) (next : Nat) (hist : List St) (reads : List ARead) (K : Env → St → Prop) :
  wpD T (⟨⟨d, .alloc z, none⟩, lo, hi⟩ :: ds) e σ next hist reads K = wpD T ds (Env.put e d (.ptr next 0)) σ (next + 1) hist reads K := by simp only [wpD]
def readQ (lo hi : Nat) (q : AOp) (e : Env) (v : AV) : List St → Nat → Prop
 | [], _ => True
 | s :: ss, j => (if lo ≤ j ∧ j ≤ hi then aop q e s = some (v, s) else True) ∧ readQ lo hi q e v ss (j + 1)
theorem readQ_eq (r : ARead) : ∀ (ss : List St) (j : Nat), readQ r.lo r.hi r.op r.env r.v ss j = readP r ss j
 | [], j => by simp only [readQ, readP]
 | s :: ss, j => by simp only [readQ, readP, readQ_eq r ss (j + 1)]
theorem D_readsN (hist : List St) : readsP [] hist = True := by simp only [readsP]
theorem D_readsC (lo hi : Nat) (q : AOp) (e : Env) (v : AV) (rs : List ARead) (hist : List St) : readsP (⟨lo, hi, q, e, v⟩ :: rs) hist = (readQ lo hi q e v hist 0 ∧ readsP rs hist) := by
 simp only [readsP]; rw [← readQ_eq]
theorem D_readN (lo hi : Nat) (q : AOp) (e : Env) (v : AV) (j : Nat) : readQ lo hi q e v [] j = True := by simp only [readQ]
theorem D_readC (lo hi : Nat) (q : AOp) (e : Env) (v : AV) (s : St) (ss : List St) (j : Nat) : readQ lo hi q e v (s :: ss) j = ((if lo ≤ j ∧ j ≤ hi then aop q e s = some (v, s) else True) ∧ readQ lo hi q e v ss (j + 1)) := by simp only [readQ]
theorem D_mov (x : AOpd) (d : Option Nat) (wl wh : Nat) (ds : List ADOper) (e : Env) (σ : St) (next : Nat) (hist : List St) (reads : List ARead) (K : Env → St → Prop) : wpD T (⟨⟨d, .mov x, none⟩, wl, wh⟩ :: ds) e σ next hist reads K = bO (K := ⟨fun v σ' => σ' = σ ∧ wpD T ds (Env.put e d v) σ next hist reads K⟩) (aop (.mov x) e σ) := by
 simp only [wpD, bO, AOp.acts, AOp.reads, if_true, Bool.false_eq_true, if_false]
theorem D_pick (c x y : AOpd) (d : Option Nat) (wl wh : Nat) (ds : List ADOper) (e : Env) (σ : St) (next : Nat) (hist : List St) (reads : List ARead) (K : Env → St → Prop) : wpD T (⟨⟨d, .pick c x y, none⟩, wl, wh⟩ :: ds) e σ next hist reads K = bO (K := ⟨fun v σ' => σ' = σ ∧ wpD T ds (Env.put e d v) σ next hist reads K⟩) (aop (.pick c x y) e σ) := by
 simp only [wpD, bO, AOp.acts, AOp.reads, if_true, Bool.false_eq_true, if_false]
theorem D_box (n : Nat) (x : AOpd) (d : Option Nat) (wl wh : Nat) (ds : List ADOper) (e : Env) (σ : St) (next : Nat) (hist : List St) (reads : List ARead) (K : Env → St → Prop) : wpD T (⟨⟨d, .box n x, none⟩, wl, wh⟩ :: ds) e σ next hist reads K = bO (K := ⟨fun v σ' => wpD T ds (Env.put e d v) σ' next (hist ++ [σ']) reads K⟩) (aop (.box n x) e σ) := by
 simp only [wpD, bO, AOp.acts, AOp.reads, if_true, Bool.false_eq_true, if_false]
theorem D_build (z : List AV) (ps : List (Nat × Nat × AOpd)) (d : Option Nat) (wl wh : Nat) (ds : List ADOper) (e : Env) (σ : St) (next : Nat) (hist : List St) (reads : List ARead) (K : Env → St → Prop) : wpD T (⟨⟨d, .build z ps, none⟩, wl, wh⟩ :: ds) e σ next hist reads K = bO (K := ⟨fun v σ' => σ' = σ ∧ wpD T ds (Env.put e d v) σ next hist reads K⟩) (aop (.build z ps) e σ) := by
 simp only [wpD, bO, AOp.acts, AOp.reads, if_true, Bool.false_eq_true, if_false]
theorem D_mklit (n : Nat) (xs : List AOpd) (d : Option Nat) (wl wh : Nat) (ds : List ADOper) (e : Env) (σ : St) (next : Nat) (hist : List St) (reads : List ARead) (K : Env → St → Prop) : wpD T (⟨⟨d, .mklit n xs, none⟩, wl, wh⟩ :: ds) e σ next hist reads K = bO (K := ⟨fun v σ' => σ' = σ ∧ wpD T ds (Env.put e d v) σ next hist reads K⟩) (aop (.mklit n xs) e σ) := by
 simp only [wpD, bO, AOp.acts, AOp.reads, if_true, Bool.false_eq_true, if_false]
theorem D_mkref (n : Nat) (xs : List AOpd) (d : Option Nat) (wl wh : Nat) (ds : List ADOper) (e : Env) (σ : St) (next : Nat) (hist : List St) (reads : List ARead) (K : Env → St → Prop) : wpD T (⟨⟨d, .mkref n xs, none⟩, wl, wh⟩ :: ds) e σ next hist reads K = bO (K := ⟨fun v σ' => wpD T ds (Env.put e d v) σ' next (hist ++ [σ']) reads K⟩) (aop (.mkref n xs) e σ) := by
 simp only [wpD, bO, AOp.acts, AOp.reads, if_true, Bool.false_eq_true, if_false]
theorem D_load (sh : Option Nat) (x : AOpd) (d : Option Nat) (wl wh : Nat) (ds : List ADOper) (e : Env) (σ : St) (next : Nat) (hist : List St) (reads : List ARead) (K : Env → St → Prop) : wpD T (⟨⟨d, .load sh x, none⟩, wl, wh⟩ :: ds) e σ next hist reads K = bO (K := ⟨fun v σ' => σ' = σ ∧ wpD T ds (Env.put e d v) σ next hist (⟨wl, wh, .load sh x, e, v⟩ :: reads) K⟩) (aop (.load sh x) e σ) := by
 simp only [wpD, bO, AOp.acts, AOp.reads, if_true, Bool.false_eq_true, if_false]
theorem D_store (n : Nat) (x y : AOpd) (d : Option Nat) (wl wh : Nat) (ds : List ADOper) (e : Env) (σ : St) (next : Nat) (hist : List St) (reads : List ARead) (K : Env → St → Prop) : wpD T (⟨⟨d, .store n x y, none⟩, wl, wh⟩ :: ds) e σ next hist reads K = bO (K := ⟨fun v σ' => wpD T ds (Env.put e d v) σ' next (hist ++ [σ']) reads K⟩) (aop (.store n x y) e σ) := by
 simp only [wpD, bO, AOp.acts, AOp.reads, if_true, Bool.false_eq_true, if_false]
theorem D_nilCheck (x : AOpd) (d : Option Nat) (wl wh : Nat) (ds : List ADOper) (e : Env) (σ : St) (next : Nat) (hist : List St) (reads : List ARead) (K : Env → St → Prop) : wpD T (⟨⟨d, .nilCheck x, none⟩, wl, wh⟩ :: ds) e σ next hist reads K = bO (K := ⟨fun v σ' => σ' = σ ∧ wpD T ds (Env.put e d v) σ next hist reads K⟩) (aop (.nilCheck x) e σ) := by
 simp only [wpD, bO, AOp.acts, AOp.reads, if_true, Bool.false_eq_true, if_false]
theorem D_bin (op : BinOp) (x y : AOpd) (d : Option Nat) (wl wh : Nat) (ds : List ADOper) (e : Env) (σ : St) (next : Nat) (hist : List St) (reads : List ARead) (K : Env → St → Prop) : wpD T (⟨⟨d, .bin op x y, none⟩, wl, wh⟩ :: ds) e σ next hist reads K = bO (K := ⟨fun v σ' => σ' = σ ∧ wpD T ds (Env.put e d v) σ next hist reads K⟩) (aop (.bin op x y) e σ) := by
 simp only [wpD, bO, AOp.acts, AOp.reads, if_true, Bool.false_eq_true, if_false]
theorem D_eql (sh : EqTy) (n : Bool) (x y : AOpd) (d : Option Nat) (wl wh : Nat) (ds : List ADOper) (e : Env) (σ : St) (next : Nat) (hist : List St) (reads : List ARead) (K : Env → St → Prop) : wpD T (⟨⟨d, .eql sh n x y, none⟩, wl, wh⟩ :: ds) e σ next hist reads K = bO (K := ⟨fun v σ' => σ' = σ ∧ wpD T ds (Env.put e d v) σ next hist reads K⟩) (aop (.eql sh n x y) e σ) := by
 simp only [wpD, bO, AOp.acts, AOp.reads, if_true, Bool.false_eq_true, if_false]
theorem D_not (x : AOpd) (d : Option Nat) (wl wh : Nat) (ds : List ADOper) (e : Env) (σ : St) (next : Nat) (hist : List St) (reads : List ARead) (K : Env → St → Prop) : wpD T (⟨⟨d, .not x, none⟩, wl, wh⟩ :: ds) e σ next hist reads K = bO (K := ⟨fun v σ' => σ' = σ ∧ wpD T ds (Env.put e d v) σ next hist reads K⟩) (aop (.not x) e σ) := by
 simp only [wpD, bO, AOp.acts, AOp.reads, if_true, Bool.false_eq_true, if_false]
theorem D_neg (x : AOpd) (d : Option Nat) (wl wh : Nat) (ds : List ADOper) (e : Env) (σ : St) (next : Nat) (hist : List St) (reads : List ARead) (K : Env → St → Prop) : wpD T (⟨⟨d, .neg x, none⟩, wl, wh⟩ :: ds) e σ next hist reads K = bO (K := ⟨fun v σ' => σ' = σ ∧ wpD T ds (Env.put e d v) σ next hist reads K⟩) (aop (.neg x) e σ) := by
 simp only [wpD, bO, AOp.acts, AOp.reads, if_true, Bool.false_eq_true, if_false]
theorem D_conv (k : IntKind) (x : AOpd) (d : Option Nat) (wl wh : Nat) (ds : List ADOper) (e : Env) (σ : St) (next : Nat) (hist : List St) (reads : List ARead) (K : Env → St → Prop) : wpD T (⟨⟨d, .conv k x, none⟩, wl, wh⟩ :: ds) e σ next hist reads K = bO (K := ⟨fun v σ' => σ' = σ ∧ wpD T ds (Env.put e d v) σ next hist reads K⟩) (aop (.conv k x) e σ) := by
 simp only [wpD, bO, AOp.acts, AOp.reads, if_true, Bool.false_eq_true, if_false]
theorem D_mkfun (f : FuncId) (xs ys : List AOpd) (d : Option Nat) (wl wh : Nat) (ds : List ADOper) (e : Env) (σ : St) (next : Nat) (hist : List St) (reads : List ARead) (K : Env → St → Prop) : wpD T (⟨⟨d, .mkfun f xs ys, none⟩, wl, wh⟩ :: ds) e σ next hist reads K = bO (K := ⟨fun v σ' => σ' = σ ∧ wpD T ds (Env.put e d v) σ next hist reads K⟩) (aop (.mkfun f xs ys) e σ) := by
 simp only [wpD, bO, AOp.acts, AOp.reads, if_true, Bool.false_eq_true, if_false]
theorem D_mkmap  (d : Option Nat) (wl wh : Nat) (ds : List ADOper) (e : Env) (σ : St) (next : Nat) (hist : List St) (reads : List ARead) (K : Env → St → Prop) : wpD T (⟨⟨d, .mkmap, none⟩, wl, wh⟩ :: ds) e σ next hist reads K = bO (K := ⟨fun v σ' => wpD T ds (Env.put e d v) σ' next (hist ++ [σ']) reads K⟩) (aop (.mkmap) e σ) := by
 simp only [wpD, bO, AOp.acts, AOp.reads, if_true, Bool.false_eq_true, if_false]
theorem D_mkslice (z : List AV) (b : Nat) (x y : AOpd) (d : Option Nat) (wl wh : Nat) (ds : List ADOper) (e : Env) (σ : St) (next : Nat) (hist : List St) (reads : List ARead) (K : Env → St → Prop) : wpD T (⟨⟨d, .mkslice z b x y, none⟩, wl, wh⟩ :: ds) e σ next hist reads K = bO (K := ⟨fun v σ' => wpD T ds (Env.put e d v) σ' next (hist ++ [σ']) reads K⟩) (aop (.mkslice z b x y) e σ) := by
 simp only [wpD, bO, AOp.acts, AOp.reads, if_true, Bool.false_eq_true, if_false]
theorem D_slicev (n : Nat) (x : AOpd) (lo hi mx : Option AOpd) (d : Option Nat) (wl wh : Nat) (ds : List ADOper) (e : Env) (σ : St) (next : Nat) (hist : List St) (reads : List ARead) (K : Env → St → Prop) : wpD T (⟨⟨d, .slicev n x lo hi mx, none⟩, wl, wh⟩ :: ds) e σ next hist reads K = bO (K := ⟨fun v σ' => σ' = σ ∧ wpD T ds (Env.put e d v) σ next hist (⟨wl, wh, .slicev n x lo hi mx, e, v⟩ :: reads) K⟩) (aop (.slicev n x lo hi mx) e σ) := by
 simp only [wpD, bO, AOp.acts, AOp.reads, if_true, Bool.false_eq_true, if_false]
theorem D_slicea (n s : Nat) (x : AOpd) (lo hi : Option AOpd) (d : Option Nat) (wl wh : Nat) (ds : List ADOper) (e : Env) (σ : St) (next : Nat) (hist : List St) (reads : List ARead) (K : Env → St → Prop) : wpD T (⟨⟨d, .slicea n s x lo hi, none⟩, wl, wh⟩ :: ds) e σ next hist reads K = bO (K := ⟨fun v σ' => σ' = σ ∧ wpD T ds (Env.put e d v) σ next hist reads K⟩) (aop (.slicea n s x lo hi) e σ) := by
 simp only [wpD, bO, AOp.acts, AOp.reads, if_true, Bool.false_eq_true, if_false]
theorem D_faddr (x : AOpd) (o : Nat) (d : Option Nat) (wl wh : Nat) (ds : List ADOper) (e : Env) (σ : St) (next : Nat) (hist : List St) (reads : List ARead) (K : Env → St → Prop) : wpD T (⟨⟨d, .faddr x o, none⟩, wl, wh⟩ :: ds) e σ next hist reads K = bO (K := ⟨fun v σ' => σ' = σ ∧ wpD T ds (Env.put e d v) σ next hist reads K⟩) (aop (.faddr x o) e σ) := by
 simp only [wpD, bO, AOp.acts, AOp.reads, if_true, Bool.false_eq_true, if_false]
theorem D_field (x : AOpd) (o : Nat) (sh : Option Nat) (d : Option Nat) (wl wh : Nat) (ds : List ADOper) (e : Env) (σ : St) (next : Nat) (hist : List St) (reads : List ARead) (K : Env → St → Prop) : wpD T (⟨⟨d, .field x o sh, none⟩, wl, wh⟩ :: ds) e σ next hist reads K = bO (K := ⟨fun v σ' => σ' = σ ∧ wpD T ds (Env.put e d v) σ next hist reads K⟩) (aop (.field x o sh) e σ) := by
 simp only [wpD, bO, AOp.acts, AOp.reads, if_true, Bool.false_eq_true, if_false]
theorem D_iaddr (a : Option Nat) (s : Nat) (x i : AOpd) (d : Option Nat) (wl wh : Nat) (ds : List ADOper) (e : Env) (σ : St) (next : Nat) (hist : List St) (reads : List ARead) (K : Env → St → Prop) : wpD T (⟨⟨d, .iaddr a s x i, none⟩, wl, wh⟩ :: ds) e σ next hist reads K = bO (K := ⟨fun v σ' => σ' = σ ∧ wpD T ds (Env.put e d v) σ next hist reads K⟩) (aop (.iaddr a s x i) e σ) := by
 simp only [wpD, bO, AOp.acts, AOp.reads, if_true, Bool.false_eq_true, if_false]
theorem D_index (n s : Nat) (sh : Option Nat) (x i : AOpd) (d : Option Nat) (wl wh : Nat) (ds : List ADOper) (e : Env) (σ : St) (next : Nat) (hist : List St) (reads : List ARead) (K : Env → St → Prop) : wpD T (⟨⟨d, .index n s sh x i, none⟩, wl, wh⟩ :: ds) e σ next hist reads K = bO (K := ⟨fun v σ' => σ' = σ ∧ wpD T ds (Env.put e d v) σ next hist reads K⟩) (aop (.index n s sh x i) e σ) := by
 simp only [wpD, bO, AOp.acts, AOp.reads, if_true, Bool.false_eq_true, if_false]
theorem D_sindex (x i : AOpd) (d : Option Nat) (wl wh : Nat) (ds : List ADOper) (e : Env) (σ : St) (next : Nat) (hist : List St) (reads : List ARead) (K : Env → St → Prop) : wpD T (⟨⟨d, .sindex x i, none⟩, wl, wh⟩ :: ds) e σ next hist reads K = bO (K := ⟨fun v σ' => σ' = σ ∧ wpD T ds (Env.put e d v) σ next hist reads K⟩) (aop (.sindex x i) e σ) := by
 simp only [wpD, bO, AOp.acts, AOp.reads, if_true, Bool.false_eq_true, if_false]
theorem D_lookup (sh : EqTy) (ok : Bool) (z : AV) (m k : AOpd) (d : Option Nat) (wl wh : Nat) (ds : List ADOper) (e : Env) (σ : St) (next : Nat) (hist : List St) (reads : List ARead) (K : Env → St → Prop) : wpD T (⟨⟨d, .lookup sh ok z m k, none⟩, wl, wh⟩ :: ds) e σ next hist reads K = bO (K := ⟨fun v σ' => σ' = σ ∧ wpD T ds (Env.put e d v) σ next hist (⟨wl, wh, .lookup sh ok z m k, e, v⟩ :: reads) K⟩) (aop (.lookup sh ok z m k) e σ) := by
 simp only [wpD, bO, AOp.acts, AOp.reads, if_true, Bool.false_eq_true, if_false]
theorem D_mapset (sh : EqTy) (m k v : AOpd) (d : Option Nat) (wl wh : Nat) (ds : List ADOper) (e : Env) (σ : St) (next : Nat) (hist : List St) (reads : List ARead) (K : Env → St → Prop) : wpD T (⟨⟨d, .mapset sh m k v, none⟩, wl, wh⟩ :: ds) e σ next hist reads K = bO (K := ⟨fun v σ' => wpD T ds (Env.put e d v) σ' next (hist ++ [σ']) reads K⟩) (aop (.mapset sh m k v) e σ) := by
 simp only [wpD, bO, AOp.acts, AOp.reads, if_true, Bool.false_eq_true, if_false]
theorem D_ext (x : AOpd) (i : Nat) (d : Option Nat) (wl wh : Nat) (ds : List ADOper) (e : Env) (σ : St) (next : Nat) (hist : List St) (reads : List ARead) (K : Env → St → Prop) : wpD T (⟨⟨d, .ext x i, none⟩, wl, wh⟩ :: ds) e σ next hist reads K = bO (K := ⟨fun v σ' => σ' = σ ∧ wpD T ds (Env.put e d v) σ next hist reads K⟩) (aop (.ext x i) e σ) := by
 simp only [wpD, bO, AOp.acts, AOp.reads, if_true, Bool.false_eq_true, if_false]
theorem D_len (k : Nat) (x : AOpd) (d : Option Nat) (wl wh : Nat) (ds : List ADOper) (e : Env) (σ : St) (next : Nat) (hist : List St) (reads : List ARead) (K : Env → St → Prop) : wpD T (⟨⟨d, .len k x, none⟩, wl, wh⟩ :: ds) e σ next hist reads K = bO (K := ⟨fun v σ' => σ' = σ ∧ wpD T ds (Env.put e d v) σ next hist (⟨wl, wh, .len k x, e, v⟩ :: reads) K⟩) (aop (.len k x) e σ) := by
 simp only [wpD, bO, AOp.acts, AOp.reads, if_true, Bool.false_eq_true, if_false]
theorem D_append (n b : Nat) (x y : AOpd) (d : Option Nat) (wl wh : Nat) (ds : List ADOper) (e : Env) (σ : St) (next : Nat) (hist : List St) (reads : List ARead) (K : Env → St → Prop) : wpD T (⟨⟨d, .append n b x y, none⟩, wl, wh⟩ :: ds) e σ next hist reads K = bO (K := ⟨fun v σ' => wpD T ds (Env.put e d v) σ' next (hist ++ [σ']) reads K⟩) (aop (.append n b x y) e σ) := by
 simp only [wpD, bO, AOp.acts, AOp.reads, if_true, Bool.false_eq_true, if_false]
theorem D_apref (n b : Nat) (x y : AOpd) (d : Option Nat) (wl wh : Nat) (ds : List ADOper) (e : Env) (σ : St) (next : Nat) (hist : List St) (reads : List ARead) (K : Env → St → Prop) : wpD T (⟨⟨d, .apref n b x y, none⟩, wl, wh⟩ :: ds) e σ next hist reads K = bO (K := ⟨fun v σ' => wpD T ds (Env.put e d v) σ' next (hist ++ [σ']) reads K⟩) (aop (.apref n b x y) e σ) := by
 simp only [wpD, bO, AOp.acts, AOp.reads, if_true, Bool.false_eq_true, if_false]
theorem D_copy (n : Nat) (x y : AOpd) (d : Option Nat) (wl wh : Nat) (ds : List ADOper) (e : Env) (σ : St) (next : Nat) (hist : List St) (reads : List ARead) (K : Env → St → Prop) : wpD T (⟨⟨d, .copy n x y, none⟩, wl, wh⟩ :: ds) e σ next hist reads K = bO (K := ⟨fun v σ' => wpD T ds (Env.put e d v) σ' next (hist ++ [σ']) reads K⟩) (aop (.copy n x y) e σ) := by
 simp only [wpD, bO, AOp.acts, AOp.reads, if_true, Bool.false_eq_true, if_false]
theorem D_min (xs : List AOpd) (d : Option Nat) (wl wh : Nat) (ds : List ADOper) (e : Env) (σ : St) (next : Nat) (hist : List St) (reads : List ARead) (K : Env → St → Prop) : wpD T (⟨⟨d, .min xs, none⟩, wl, wh⟩ :: ds) e σ next hist reads K = bO (K := ⟨fun v σ' => σ' = σ ∧ wpD T ds (Env.put e d v) σ next hist reads K⟩) (aop (.min xs) e σ) := by
 simp only [wpD, bO, AOp.acts, AOp.reads, if_true, Bool.false_eq_true, if_false]
theorem D_max (xs : List AOpd) (d : Option Nat) (wl wh : Nat) (ds : List ADOper) (e : Env) (σ : St) (next : Nat) (hist : List St) (reads : List ARead) (K : Env → St → Prop) : wpD T (⟨⟨d, .max xs, none⟩, wl, wh⟩ :: ds) e σ next hist reads K = bO (K := ⟨fun v σ' => σ' = σ ∧ wpD T ds (Env.put e d v) σ next hist reads K⟩) (aop (.max xs) e σ) := by
 simp only [wpD, bO, AOp.acts, AOp.reads, if_true, Bool.false_eq_true, if_false]
theorem D_srange (x : AOpd) (d : Option Nat) (wl wh : Nat) (ds : List ADOper) (e : Env) (σ : St) (next : Nat) (hist : List St) (reads : List ARead) (K : Env → St → Prop) : wpD T (⟨⟨d, .srange x, none⟩, wl, wh⟩ :: ds) e σ next hist reads K = bO (K := ⟨fun v σ' => wpD T ds (Env.put e d v) σ' next (hist ++ [σ']) reads K⟩) (aop (.srange x) e σ) := by
 simp only [wpD, bO, AOp.acts, AOp.reads, if_true, Bool.false_eq_true, if_false]
theorem D_snext (x : AOpd) (d : Option Nat) (wl wh : Nat) (ds : List ADOper) (e : Env) (σ : St) (next : Nat) (hist : List St) (reads : List ARead) (K : Env → St → Prop) : wpD T (⟨⟨d, .snext x, none⟩, wl, wh⟩ :: ds) e σ next hist reads K = bO (K := ⟨fun v σ' => wpD T ds (Env.put e d v) σ' next (hist ++ [σ']) reads K⟩) (aop (.snext x) e σ) := by
 simp only [wpD, bO, AOp.acts, AOp.reads, if_true, Bool.false_eq_true, if_false]
theorem D_guardC (f : AOpd) (xs : List AOpd) (t : Nat) (want : Bool) (d : Option Nat) (wl wh : Nat) (ds : List ADOper) (e : Env) (σ : St) (next : Nat) (hist : List St) (reads : List ARead) (K : Env → St → Prop) : wpD T (⟨⟨d, .call f xs, some (t, want)⟩, wl, wh⟩ :: ds) e σ next hist reads K =
  bG (A := ⟨wpD T (⟨⟨d, .call f xs, none⟩, wl, wh⟩ :: ds) e σ next hist reads K⟩) (B := ⟨wpD T ds (Env.put e d (.tuple [])) σ next (hist ++ [σ]) reads K⟩) (Env.get e t) want := by simp only [wpD, bG]
theorem G_mov (x : AOpd) (t : Nat) (want : Bool) (d : Option Nat) (wl wh : Nat) (ds : List ADOper) (e : Env) (σ : St) (next : Nat) (hist : List St) (reads : List ARead) (K : Env → St → Prop) : wpD T (⟨⟨d, .mov x, some (t, want)⟩, wl, wh⟩ :: ds) e σ next hist reads K =
  bG (A := ⟨wpD T (⟨⟨d, .mov x, none⟩, wl, wh⟩ :: ds) e σ next hist reads K⟩) (B := ⟨wpD T ds (Env.put e d (.tuple [])) σ next hist reads K⟩) (Env.get e t) want := by
 simp only [wpD, bG, AOp.allocs, AOp.acts, true_and, if_true, Bool.false_eq_true, if_false]
theorem G_pick (c x y : AOpd) (t : Nat) (want : Bool) (d : Option Nat) (wl wh : Nat) (ds : List ADOper) (e : Env) (σ : St) (next : Nat) (hist : List St) (reads : List ARead) (K : Env → St → Prop) : wpD T (⟨⟨d, .pick c x y, some (t, want)⟩, wl, wh⟩ :: ds) e σ next hist reads K =
  bG (A := ⟨wpD T (⟨⟨d, .pick c x y, none⟩, wl, wh⟩ :: ds) e σ next hist reads K⟩) (B := ⟨wpD T ds (Env.put e d (.tuple [])) σ next hist reads K⟩) (Env.get e t) want := by
 simp only [wpD, bG, AOp.allocs, AOp.acts, true_and, if_true, Bool.false_eq_true, if_false]
theorem G_box (n : Nat) (x : AOpd) (t : Nat) (want : Bool) (d : Option Nat) (wl wh : Nat) (ds : List ADOper) (e : Env) (σ : St) (next : Nat) (hist : List St) (reads : List ARead) (K : Env → St → Prop) : wpD T (⟨⟨d, .box n x, some (t, want)⟩, wl, wh⟩ :: ds) e σ next hist reads K =
  bG (A := ⟨wpD T (⟨⟨d, .box n x, none⟩, wl, wh⟩ :: ds) e σ next hist reads K⟩) (B := ⟨wpD T ds (Env.put e d (.tuple [])) σ next (hist ++ [σ]) reads K⟩) (Env.get e t) want := by
 simp only [wpD, bG, AOp.allocs, AOp.acts, true_and, if_true, Bool.false_eq_true, if_false]
theorem G_build (z : List AV) (ps : List (Nat × Nat × AOpd)) (t : Nat) (want : Bool) (d : Option Nat) (wl wh : Nat) (ds : List ADOper) (e : Env) (σ : St) (next : Nat) (hist : List St) (reads : List ARead) (K : Env → St → Prop) : wpD T (⟨⟨d, .build z ps, some (t, want)⟩, wl, wh⟩ :: ds) e σ next hist reads K =
  bG (A := ⟨wpD T (⟨⟨d, .build z ps, none⟩, wl, wh⟩ :: ds) e σ next hist reads K⟩) (B := ⟨wpD T ds (Env.put e d (.tuple [])) σ next hist reads K⟩) (Env.get e t) want := by
 simp only [wpD, bG, AOp.allocs, AOp.acts, true_and, if_true, Bool.false_eq_true, if_false]
theorem G_mklit (n : Nat) (xs : List AOpd) (t : Nat) (want : Bool) (d : Option Nat) (wl wh : Nat) (ds : List ADOper) (e : Env) (σ : St) (next : Nat) (hist : List St) (reads : List ARead) (K : Env → St → Prop) : wpD T (⟨⟨d, .mklit n xs, some (t, want)⟩, wl, wh⟩ :: ds) e σ next hist reads K =
  bG (A := ⟨wpD T (⟨⟨d, .mklit n xs, none⟩, wl, wh⟩ :: ds) e σ next hist reads K⟩) (B := ⟨wpD T ds (Env.put e d (.tuple [])) σ next hist reads K⟩) (Env.get e t) want := by
 simp only [wpD, bG, AOp.allocs, AOp.acts, true_and, if_true, Bool.false_eq_true, if_false]
theorem G_mkref (n : Nat) (xs : List AOpd) (t : Nat) (want : Bool) (d : Option Nat) (wl wh : Nat) (ds : List ADOper) (e : Env) (σ : St) (next : Nat) (hist : List St) (reads : List ARead) (K : Env → St → Prop) : wpD T (⟨⟨d, .mkref n xs, some (t, want)⟩, wl, wh⟩ :: ds) e σ next hist reads K =
  bG (A := ⟨wpD T (⟨⟨d, .mkref n xs, none⟩, wl, wh⟩ :: ds) e σ next hist reads K⟩) (B := ⟨wpD T ds (Env.put e d (.tuple [])) σ next (hist ++ [σ]) reads K⟩) (Env.get e t) want := by
 simp only [wpD, bG, AOp.allocs, AOp.acts, true_and, if_true, Bool.false_eq_true, if_false]
theorem G_load (sh : Option Nat) (x : AOpd) (t : Nat) (want : Bool) (d : Option Nat) (wl wh : Nat) (ds : List ADOper) (e : Env) (σ : St) (next : Nat) (hist : List St) (reads : List ARead) (K : Env → St → Prop) : wpD T (⟨⟨d, .load sh x, some (t, want)⟩, wl, wh⟩ :: ds) e σ next hist reads K =
  bG (A := ⟨wpD T (⟨⟨d, .load sh x, none⟩, wl, wh⟩ :: ds) e σ next hist reads K⟩) (B := ⟨wpD T ds (Env.put e d (.tuple [])) σ next hist reads K⟩) (Env.get e t) want := by
 simp only [wpD, bG, AOp.allocs, AOp.acts, true_and, if_true, Bool.false_eq_true, if_false]
theorem G_store (n : Nat) (x y : AOpd) (t : Nat) (want : Bool) (d : Option Nat) (wl wh : Nat) (ds : List ADOper) (e : Env) (σ : St) (next : Nat) (hist : List St) (reads : List ARead) (K : Env → St → Prop) : wpD T (⟨⟨d, .store n x y, some (t, want)⟩, wl, wh⟩ :: ds) e σ next hist reads K =
  bG (A := ⟨wpD T (⟨⟨d, .store n x y, none⟩, wl, wh⟩ :: ds) e σ next hist reads K⟩) (B := ⟨wpD T ds (Env.put e d (.tuple [])) σ next (hist ++ [σ]) reads K⟩) (Env.get e t) want := by
 simp only [wpD, bG, AOp.allocs, AOp.acts, true_and, if_true, Bool.false_eq_true, if_false]
theorem G_nilCheck (x : AOpd) (t : Nat) (want : Bool) (d : Option Nat) (wl wh : Nat) (ds : List ADOper) (e : Env) (σ : St) (next : Nat) (hist : List St) (reads : List ARead) (K : Env → St → Prop) : wpD T (⟨⟨d, .nilCheck x, some (t, want)⟩, wl, wh⟩ :: ds) e σ next hist reads K =
  bG (A := ⟨wpD T (⟨⟨d, .nilCheck x, none⟩, wl, wh⟩ :: ds) e σ next hist reads K⟩) (B := ⟨wpD T ds (Env.put e d (.tuple [])) σ next hist reads K⟩) (Env.get e t) want := by
 simp only [wpD, bG, AOp.allocs, AOp.acts, true_and, if_true, Bool.false_eq_true, if_false]
theorem G_bin (op : BinOp) (x y : AOpd) (t : Nat) (want : Bool) (d : Option Nat) (wl wh : Nat) (ds : List ADOper) (e : Env) (σ : St) (next : Nat) (hist : List St) (reads : List ARead) (K : Env → St → Prop) : wpD T (⟨⟨d, .bin op x y, some (t, want)⟩, wl, wh⟩ :: ds) e σ next hist reads K =
  bG (A := ⟨wpD T (⟨⟨d, .bin op x y, none⟩, wl, wh⟩ :: ds) e σ next hist reads K⟩) (B := ⟨wpD T ds (Env.put e d (.tuple [])) σ next hist reads K⟩) (Env.get e t) want := by
 simp only [wpD, bG, AOp.allocs, AOp.acts, true_and, if_true, Bool.false_eq_true, if_false]
theorem G_eql (sh : EqTy) (n : Bool) (x y : AOpd) (t : Nat) (want : Bool) (d : Option Nat) (wl wh : Nat) (ds : List ADOper) (e : Env) (σ : St) (next : Nat) (hist : List St) (reads : List ARead) (K : Env → St → Prop) : wpD T (⟨⟨d, .eql sh n x y, some (t, want)⟩, wl, wh⟩ :: ds) e σ next hist reads K =
  bG (A := ⟨wpD T (⟨⟨d, .eql sh n x y, none⟩, wl, wh⟩ :: ds) e σ next hist reads K⟩) (B := ⟨wpD T ds (Env.put e d (.tuple [])) σ next hist reads K⟩) (Env.get e t) want := by
 simp only [wpD, bG, AOp.allocs, AOp.acts, true_and, if_true, Bool.false_eq_true, if_false]
theorem G_not (x : AOpd) (t : Nat) (want : Bool) (d : Option Nat) (wl wh : Nat) (ds : List ADOper) (e : Env) (σ : St) (next : Nat) (hist : List St) (reads : List ARead) (K : Env → St → Prop) : wpD T (⟨⟨d, .not x, some (t, want)⟩, wl, wh⟩ :: ds) e σ next hist reads K =
  bG (A := ⟨wpD T (⟨⟨d, .not x, none⟩, wl, wh⟩ :: ds) e σ next hist reads K⟩) (B := ⟨wpD T ds (Env.put e d (.tuple [])) σ next hist reads K⟩) (Env.get e t) want := by
 simp only [wpD, bG, AOp.allocs, AOp.acts, true_and, if_true, Bool.false_eq_true, if_false]
theorem G_neg (x : AOpd) (t : Nat) (want : Bool) (d : Option Nat) (wl wh : Nat) (ds : List ADOper) (e : Env) (σ : St) (next : Nat) (hist : List St) (reads : List ARead) (K : Env → St → Prop) : wpD T (⟨⟨d, .neg x, some (t, want)⟩, wl, wh⟩ :: ds) e σ next hist reads K =
  bG (A := ⟨wpD T (⟨⟨d, .neg x, none⟩, wl, wh⟩ :: ds) e σ next hist reads K⟩) (B := ⟨wpD T ds (Env.put e d (.tuple [])) σ next hist reads K⟩) (Env.get e t) want := by
 simp only [wpD, bG, AOp.allocs, AOp.acts, true_and, if_true, Bool.false_eq_true, if_false]
theorem G_conv (k : IntKind) (x : AOpd) (t : Nat) (want : Bool) (d : Option Nat) (wl wh : Nat) (ds : List ADOper) (e : Env) (σ : St) (next : Nat) (hist : List St) (reads : List ARead) (K : Env → St → Prop) : wpD T (⟨⟨d, .conv k x, some (t, want)⟩, wl, wh⟩ :: ds) e σ next hist reads K =
  bG (A := ⟨wpD T (⟨⟨d, .conv k x, none⟩, wl, wh⟩ :: ds) e σ next hist reads K⟩) (B := ⟨wpD T ds (Env.put e d (.tuple [])) σ next hist reads K⟩) (Env.get e t) want := by
 simp only [wpD, bG, AOp.allocs, AOp.acts, true_and, if_true, Bool.false_eq_true, if_false]
theorem G_mkfun (f : FuncId) (xs ys : List AOpd) (t : Nat) (want : Bool) (d : Option Nat) (wl wh : Nat) (ds : List ADOper) (e : Env) (σ : St) (next : Nat) (hist : List St) (reads : List ARead) (K : Env → St → Prop) : wpD T (⟨⟨d, .mkfun f xs ys, some (t, want)⟩, wl, wh⟩ :: ds) e σ next hist reads K =
  bG (A := ⟨wpD T (⟨⟨d, .mkfun f xs ys, none⟩, wl, wh⟩ :: ds) e σ next hist reads K⟩) (B := ⟨wpD T ds (Env.put e d (.tuple [])) σ next hist reads K⟩) (Env.get e t) want := by
 simp only [wpD, bG, AOp.allocs, AOp.acts, true_and, if_true, Bool.false_eq_true, if_false]
theorem G_mkmap  (t : Nat) (want : Bool) (d : Option Nat) (wl wh : Nat) (ds : List ADOper) (e : Env) (σ : St) (next : Nat) (hist : List St) (reads : List ARead) (K : Env → St → Prop) : wpD T (⟨⟨d, .mkmap, some (t, want)⟩, wl, wh⟩ :: ds) e σ next hist reads K =
  bG (A := ⟨wpD T (⟨⟨d, .mkmap, none⟩, wl, wh⟩ :: ds) e σ next hist reads K⟩) (B := ⟨wpD T ds (Env.put e d (.tuple [])) σ next (hist ++ [σ]) reads K⟩) (Env.get e t) want := by
 simp only [wpD, bG, AOp.allocs, AOp.acts, true_and, if_true, Bool.false_eq_true, if_false]
theorem G_mkslice (z : List AV) (b : Nat) (x y : AOpd) (t : Nat) (want : Bool) (d : Option Nat) (wl wh : Nat) (ds : List ADOper) (e : Env) (σ : St) (next : Nat) (hist : List St) (reads : List ARead) (K : Env → St → Prop) : wpD T (⟨⟨d, .mkslice z b x y, some (t, want)⟩, wl, wh⟩ :: ds) e σ next hist reads K =
  bG (A := ⟨wpD T (⟨⟨d, .mkslice z b x y, none⟩, wl, wh⟩ :: ds) e σ next hist reads K⟩) (B := ⟨wpD T ds (Env.put e d (.tuple [])) σ next (hist ++ [σ]) reads K⟩) (Env.get e t) want := by
 simp only [wpD, bG, AOp.allocs, AOp.acts, true_and, if_true, Bool.false_eq_true, if_false]
theorem G_slicev (n : Nat) (x : AOpd) (lo hi mx : Option AOpd) (t : Nat) (want : Bool) (d : Option Nat) (wl wh : Nat) (ds : List ADOper) (e : Env) (σ : St) (next : Nat) (hist : List St) (reads : List ARead) (K : Env → St → Prop) : wpD T (⟨⟨d, .slicev n x lo hi mx, some (t, want)⟩, wl, wh⟩ :: ds) e σ next hist reads K =
  bG (A := ⟨wpD T (⟨⟨d, .slicev n x lo hi mx, none⟩, wl, wh⟩ :: ds) e σ next hist reads K⟩) (B := ⟨wpD T ds (Env.put e d (.tuple [])) σ next hist reads K⟩) (Env.get e t) want := by
 simp only [wpD, bG, AOp.allocs, AOp.acts, true_and, if_true, Bool.false_eq_true, if_false]
theorem G_slicea (n s : Nat) (x : AOpd) (lo hi : Option AOpd) (t : Nat) (want : Bool) (d : Option Nat) (wl wh : Nat) (ds : List ADOper) (e : Env) (σ : St) (next : Nat) (hist : List St) (reads : List ARead) (K : Env → St → Prop) : wpD T (⟨⟨d, .slicea n s x lo hi, some (t, want)⟩, wl, wh⟩ :: ds) e σ next hist reads K =
  bG (A := ⟨wpD T (⟨⟨d, .slicea n s x lo hi, none⟩, wl, wh⟩ :: ds) e σ next hist reads K⟩) (B := ⟨wpD T ds (Env.put e d (.tuple [])) σ next hist reads K⟩) (Env.get e t) want := by
 simp only [wpD, bG, AOp.allocs, AOp.acts, true_and, if_true, Bool.false_eq_true, if_false]
theorem G_faddr (x : AOpd) (o : Nat) (t : Nat) (want : Bool) (d : Option Nat) (wl wh : Nat) (ds : List ADOper) (e : Env) (σ : St) (next : Nat) (hist : List St) (reads : List ARead) (K : Env → St → Prop) : wpD T (⟨⟨d, .faddr x o, some (t, want)⟩, wl, wh⟩ :: ds) e σ next hist reads K =
  bG (A := ⟨wpD T (⟨⟨d, .faddr x o, none⟩, wl, wh⟩ :: ds) e σ next hist reads K⟩) (B := ⟨wpD T ds (Env.put e d (.tuple [])) σ next hist reads K⟩) (Env.get e t) want := by
 simp only [wpD, bG, AOp.allocs, AOp.acts, true_and, if_true, Bool.false_eq_true, if_false]
theorem G_field (x : AOpd) (o : Nat) (sh : Option Nat) (t : Nat) (want : Bool) (d : Option Nat) (wl wh : Nat) (ds : List ADOper) (e : Env) (σ : St) (next : Nat) (hist : List St) (reads : List ARead) (K : Env → St → Prop) : wpD T (⟨⟨d, .field x o sh, some (t, want)⟩, wl, wh⟩ :: ds) e σ next hist reads K =
  bG (A := ⟨wpD T (⟨⟨d, .field x o sh, none⟩, wl, wh⟩ :: ds) e σ next hist reads K⟩) (B := ⟨wpD T ds (Env.put e d (.tuple [])) σ next hist reads K⟩) (Env.get e t) want := by
 simp only [wpD, bG, AOp.allocs, AOp.acts, true_and, if_true, Bool.false_eq_true, if_false]
theorem G_iaddr (a : Option Nat) (s : Nat) (x i : AOpd) (t : Nat) (want : Bool) (d : Option Nat) (wl wh : Nat) (ds : List ADOper) (e : Env) (σ : St) (next : Nat) (hist : List St) (reads : List ARead) (K : Env → St → Prop) : wpD T (⟨⟨d, .iaddr a s x i, some (t, want)⟩, wl, wh⟩ :: ds) e σ next hist reads K =
  bG (A := ⟨wpD T (⟨⟨d, .iaddr a s x i, none⟩, wl, wh⟩ :: ds) e σ next hist reads K⟩) (B := ⟨wpD T ds (Env.put e d (.tuple [])) σ next hist reads K⟩) (Env.get e t) want := by
 simp only [wpD, bG, AOp.allocs, AOp.acts, true_and, if_true, Bool.false_eq_true, if_false]
theorem G_index (n s : Nat) (sh : Option Nat) (x i : AOpd) (t : Nat) (want : Bool) (d : Option Nat) (wl wh : Nat) (ds : List ADOper) (e : Env) (σ : St) (next : Nat) (hist : List St) (reads : List ARead) (K : Env → St → Prop) : wpD T (⟨⟨d, .index n s sh x i, some (t, want)⟩, wl, wh⟩ :: ds) e σ next hist reads K =
  bG (A := ⟨wpD T (⟨⟨d, .index n s sh x i, none⟩, wl, wh⟩ :: ds) e σ next hist reads K⟩) (B := ⟨wpD T ds (Env.put e d (.tuple [])) σ next hist reads K⟩) (Env.get e t) want := by
 simp only [wpD, bG, AOp.allocs, AOp.acts, true_and, if_true, Bool.false_eq_true, if_false]
theorem G_sindex (x i : AOpd) (t : Nat) (want : Bool) (d : Option Nat) (wl wh : Nat) (ds : List ADOper) (e : Env) (σ : St) (next : Nat) (hist : List St) (reads : List ARead) (K : Env → St → Prop) : wpD T (⟨⟨d, .sindex x i, some (t, want)⟩, wl, wh⟩ :: ds) e σ next hist reads K =
  bG (A := ⟨wpD T (⟨⟨d, .sindex x i, none⟩, wl, wh⟩ :: ds) e σ next hist reads K⟩) (B := ⟨wpD T ds (Env.put e d (.tuple [])) σ next hist reads K⟩) (Env.get e t) want := by
 simp only [wpD, bG, AOp.allocs, AOp.acts, true_and, if_true, Bool.false_eq_true, if_false]
theorem G_lookup (sh : EqTy) (ok : Bool) (z : AV) (m k : AOpd) (t : Nat) (want : Bool) (d : Option Nat) (wl wh : Nat) (ds : List ADOper) (e : Env) (σ : St) (next : Nat) (hist : List St) (reads : List ARead) (K : Env → St → Prop) : wpD T (⟨⟨d, .lookup sh ok z m k, some (t, want)⟩, wl, wh⟩ :: ds) e σ next hist reads K =
  bG (A := ⟨wpD T (⟨⟨d, .lookup sh ok z m k, none⟩, wl, wh⟩ :: ds) e σ next hist reads K⟩) (B := ⟨wpD T ds (Env.put e d (.tuple [])) σ next hist reads K⟩) (Env.get e t) want := by
 simp only [wpD, bG, AOp.allocs, AOp.acts, true_and, if_true, Bool.false_eq_true, if_false]
theorem G_mapset (sh : EqTy) (m k v : AOpd) (t : Nat) (want : Bool) (d : Option Nat) (wl wh : Nat) (ds : List ADOper) (e : Env) (σ : St) (next : Nat) (hist : List St) (reads : List ARead) (K : Env → St → Prop) : wpD T (⟨⟨d, .mapset sh m k v, some (t, want)⟩, wl, wh⟩ :: ds) e σ next hist reads K =
  bG (A := ⟨wpD T (⟨⟨d, .mapset sh m k v, none⟩, wl, wh⟩ :: ds) e σ next hist reads K⟩) (B := ⟨wpD T ds (Env.put e d (.tuple [])) σ next (hist ++ [σ]) reads K⟩) (Env.get e t) want := by
 simp only [wpD, bG, AOp.allocs, AOp.acts, true_and, if_true, Bool.false_eq_true, if_false]
theorem G_ext (x : AOpd) (i : Nat) (t : Nat) (want : Bool) (d : Option Nat) (wl wh : Nat) (ds : List ADOper) (e : Env) (σ : St) (next : Nat) (hist : List St) (reads : List ARead) (K : Env → St → Prop) : wpD T (⟨⟨d, .ext x i, some (t, want)⟩, wl, wh⟩ :: ds) e σ next hist reads K =
  bG (A := ⟨wpD T (⟨⟨d, .ext x i, none⟩, wl, wh⟩ :: ds) e σ next hist reads K⟩) (B := ⟨wpD T ds (Env.put e d (.tuple [])) σ next hist reads K⟩) (Env.get e t) want := by
 simp only [wpD, bG, AOp.allocs, AOp.acts, true_and, if_true, Bool.false_eq_true, if_false]
theorem G_len (k : Nat) (x : AOpd) (t : Nat) (want : Bool) (d : Option Nat) (wl wh : Nat) (ds : List ADOper) (e : Env) (σ : St) (next : Nat) (hist : List St) (reads : List ARead) (K : Env → St → Prop) : wpD T (⟨⟨d, .len k x, some (t, want)⟩, wl, wh⟩ :: ds) e σ next hist reads K =
  bG (A := ⟨wpD T (⟨⟨d, .len k x, none⟩, wl, wh⟩ :: ds) e σ next hist reads K⟩) (B := ⟨wpD T ds (Env.put e d (.tuple [])) σ next hist reads K⟩) (Env.get e t) want := by
 simp only [wpD, bG, AOp.allocs, AOp.acts, true_and, if_true, Bool.false_eq_true, if_false]
theorem G_append (n b : Nat) (x y : AOpd) (t : Nat) (want : Bool) (d : Option Nat) (wl wh : Nat) (ds : List ADOper) (e : Env) (σ : St) (next : Nat) (hist : List St) (reads : List ARead) (K : Env → St → Prop) : wpD T (⟨⟨d, .append n b x y, some (t, want)⟩, wl, wh⟩ :: ds) e σ next hist reads K =
  bG (A := ⟨wpD T (⟨⟨d, .append n b x y, none⟩, wl, wh⟩ :: ds) e σ next hist reads K⟩) (B := ⟨wpD T ds (Env.put e d (.tuple [])) σ next (hist ++ [σ]) reads K⟩) (Env.get e t) want := by
 simp only [wpD, bG, AOp.allocs, AOp.acts, true_and, if_true, Bool.false_eq_true, if_false]
theorem G_apref (n b : Nat) (x y : AOpd) (t : Nat) (want : Bool) (d : Option Nat) (wl wh : Nat) (ds : List ADOper) (e : Env) (σ : St) (next : Nat) (hist : List St) (reads : List ARead) (K : Env → St → Prop) : wpD T (⟨⟨d, .apref n b x y, some (t, want)⟩, wl, wh⟩ :: ds) e σ next hist reads K =
  bG (A := ⟨wpD T (⟨⟨d, .apref n b x y, none⟩, wl, wh⟩ :: ds) e σ next hist reads K⟩) (B := ⟨wpD T ds (Env.put e d (.tuple [])) σ next (hist ++ [σ]) reads K⟩) (Env.get e t) want := by
 simp only [wpD, bG, AOp.allocs, AOp.acts, true_and, if_true, Bool.false_eq_true, if_false]
theorem G_copy (n : Nat) (x y : AOpd) (t : Nat) (want : Bool) (d : Option Nat) (wl wh : Nat) (ds : List ADOper) (e : Env) (σ : St) (next : Nat) (hist : List St) (reads : List ARead) (K : Env → St → Prop) : wpD T (⟨⟨d, .copy n x y, some (t, want)⟩, wl, wh⟩ :: ds) e σ next hist reads K =
  bG (A := ⟨wpD T (⟨⟨d, .copy n x y, none⟩, wl, wh⟩ :: ds) e σ next hist reads K⟩) (B := ⟨wpD T ds (Env.put e d (.tuple [])) σ next (hist ++ [σ]) reads K⟩) (Env.get e t) want := by
 simp only [wpD, bG, AOp.allocs, AOp.acts, true_and, if_true, Bool.false_eq_true, if_false]
theorem G_min (xs : List AOpd) (t : Nat) (want : Bool) (d : Option Nat) (wl wh : Nat) (ds : List ADOper) (e : Env) (σ : St) (next : Nat) (hist : List St) (reads : List ARead) (K : Env → St → Prop) : wpD T (⟨⟨d, .min xs, some (t, want)⟩, wl, wh⟩ :: ds) e σ next hist reads K =
  bG (A := ⟨wpD T (⟨⟨d, .min xs, none⟩, wl, wh⟩ :: ds) e σ next hist reads K⟩) (B := ⟨wpD T ds (Env.put e d (.tuple [])) σ next hist reads K⟩) (Env.get e t) want := by
 simp only [wpD, bG, AOp.allocs, AOp.acts, true_and, if_true, Bool.false_eq_true, if_false]
theorem G_max (xs : List AOpd) (t : Nat) (want : Bool) (d : Option Nat) (wl wh : Nat) (ds : List ADOper) (e : Env) (σ : St) (next : Nat) (hist : List St) (reads : List ARead) (K : Env → St → Prop) : wpD T (⟨⟨d, .max xs, some (t, want)⟩, wl, wh⟩ :: ds) e σ next hist reads K =
  bG (A := ⟨wpD T (⟨⟨d, .max xs, none⟩, wl, wh⟩ :: ds) e σ next hist reads K⟩) (B := ⟨wpD T ds (Env.put e d (.tuple [])) σ next hist reads K⟩) (Env.get e t) want := by
 simp only [wpD, bG, AOp.allocs, AOp.acts, true_and, if_true, Bool.false_eq_true, if_false]
theorem G_srange (x : AOpd) (t : Nat) (want : Bool) (d : Option Nat) (wl wh : Nat) (ds : List ADOper) (e : Env) (σ : St) (next : Nat) (hist : List St) (reads : List ARead) (K : Env → St → Prop) : wpD T (⟨⟨d, .srange x, some (t, want)⟩, wl, wh⟩ :: ds) e σ next hist reads K =
  bG (A := ⟨wpD T (⟨⟨d, .srange x, none⟩, wl, wh⟩ :: ds) e σ next hist reads K⟩) (B := ⟨wpD T ds (Env.put e d (.tuple [])) σ next (hist ++ [σ]) reads K⟩) (Env.get e t) want := by
 simp only [wpD, bG, AOp.allocs, AOp.acts, true_and, if_true, Bool.false_eq_true, if_false]
theorem G_snext (x : AOpd) (t : Nat) (want : Bool) (d : Option Nat) (wl wh : Nat) (ds : List ADOper) (e : Env) (σ : St) (next : Nat) (hist : List St) (reads : List ARead) (K : Env → St → Prop) : wpD T (⟨⟨d, .snext x, some (t, want)⟩, wl, wh⟩ :: ds) e σ next hist reads K =
  bG (A := ⟨wpD T (⟨⟨d, .snext x, none⟩, wl, wh⟩ :: ds) e σ next hist reads K⟩) (B := ⟨wpD T ds (Env.put e d (.tuple [])) σ next (hist ++ [σ]) reads K⟩) (Env.get e t) want := by
 simp only [wpD, bG, AOp.allocs, AOp.acts, true_and, if_true, Bool.false_eq_true, if_false]
end Go.Am
namespace Go.Am
variable {T : FuncId → Option AFunc}
structure KeepS (σ σ' : St) (lo : Nat) : Prop where
 len : σ.length ≤ σ'.length
 low : ∀ i, i < lo → i < σ.length → σ'[i]? = σ[i]?
 loops : ∀ (i : Nat) (st : LS) (pe : Option AJump) (env : Env) (ps : List Nat) (a b : ACode), i < σ.length → σ'[i]? = some (.loop st pe env ps a b) → ∃ st' pe', σ[i]? = some (.loop st' pe' env ps a b)
theorem KeepS.refl (σ : St) (lo : Nat) : KeepS σ σ lo := ⟨Nat.le_refl _, fun _ _ _ => rfl, fun i st pe env ps a b _ h => ⟨st, pe, h⟩⟩
theorem KeepS.weak {σ σ' : St} {lo l : Nat} (h : KeepS σ σ' lo) (hl : l ≤ lo) : KeepS σ σ' l := ⟨h.len, fun i hi => h.low i (by omega), h.loops⟩
theorem KeepS.trans {σ σ1 σ2 : St} {l1 l2 : Nat} (h : KeepS σ σ1 l1) (k : KeepS σ1 σ2 l2) : KeepS σ σ2 (Nat.min l1 l2) where
 len := Nat.le_trans h.len k.len
 low i hi hlt := by
  have h1 : i < l1 := Nat.lt_of_lt_of_le hi (Nat.min_le_left _ _)
  have h2 : i < l2 := Nat.lt_of_lt_of_le hi (Nat.min_le_right _ _)
  rw [k.low i h2 (Nat.lt_of_lt_of_le hlt h.len), h.low i h1 hlt]
 loops i st pe env ps a b hlt e := by
  obtain ⟨st1, pe1, e1⟩ := k.loops i st pe env ps a b (Nat.lt_of_lt_of_le hlt h.len) e
  exact h.loops i st1 pe1 env ps a b hlt e1
theorem KeepS.app (σ : St) (τ : St) (lo : Nat) : KeepS σ (σ ++ τ) lo :=
 ⟨by simp, fun i _ hi => List.getElem?_append_left hi, fun i st pe env ps a b hi e => ⟨st, pe, by rw [← List.getElem?_append_left (l₂ := τ) hi]; exact e⟩⟩
theorem KeepS.set {σ : St} {i : Nat} {x : ABlk} (hx : ∀ st pe env ps a b, x ≠ .loop st pe env ps a b) : KeepS σ (σ.set i x) i where
 len := by simp
 low j hj _ := List.getElem?_set_ne (by omega)
 loops j st pe env ps a b hj e := by
  by_cases h : i = j
  ·subst h
   rw [List.getElem?_set_self hj] at e
   cases e
   exact absurd rfl (hx _ _ _ _ _ _)
  ·rw [List.getElem?_set_ne h] at e
   exact ⟨st, pe, e⟩
end Go.Am
namespace Go.Am
variable {T : FuncId → Option AFunc}
theorem KeepS.step {σ σ1 σ2 : St} {l lo lo' : Nat} (h : KeepS σ σ1 l) (k : lo' ≤ Nat.min lo l ∧ KeepS σ1 σ2 lo') : lo' ≤ lo ∧ KeepS σ σ2 lo' := by
 have h1 : lo' ≤ l := Nat.le_trans k.1 (Nat.min_le_right _ _)
 refine ⟨Nat.le_trans k.1 (Nat.min_le_left _ _), (h.trans k.2).weak ?_⟩
 exact Nat.le_min.2 ⟨h1, Nat.le_refl _⟩
end Go.Am
namespace Go.Am
variable {T : FuncId → Option AFunc}
theorem E_evs0 (e : Env) : evs e [] = [] := by simp only [evs]
theorem E_evs1 (e : Env) (x : AOpd) (xs : List AOpd) : evs e (x :: xs) = x.ev e :: evs e xs := by simp only [evs]
theorem E_ovs0 (e : Env) : ovs e none = none := by simp only [ovs]
theorem E_ovs1 (e : Env) (x : AOpd) : ovs e (some x) = some (x.ev e) := by simp only [ovs]
theorem O_map {α β : Type} (f : α → β) (a : α) : Option.map f (some a) = some (f a) := by simp
theorem O_bind {α β : Type} (f : α → Option β) (a : α) : (some a).bind f = f a := by simp
theorem V_nilP (i o : Nat) : vNil (.ptr i o) = some (.ptr i o) := by simp only [vNil]
theorem V_nilL (xs : List AV) (i o : Nat) (t : Option Nat) : vNil (.lptr xs i o t) = some (.lptr xs i o t) := by simp only [vNil]
theorem V_nilF (f : FuncId) (a b : List AV) : vNil (.func f a b) = some (.func f a b) := by simp only [vNil]
theorem V_field (o : Nat) (sh : Option Nat) (cs : List AV) : vField o sh (.agg cs) = shaped sh cs o := by simp only [vField]
theorem V_conv (k k' : IntKind) (n : Int) : vConv k (.int k' n) = some (.int k (k.wrap n)) := by simp only [vConv]
theorem V_neg (k : IntKind) (n : Int) : vNeg (.int k n) = some (.int k (k.wrap (0 - n))) := by simp only [vNeg]
theorem V_pickT (x y : AV) : vPick (.bool true) x y = some x := by simp only [vPick]
theorem V_pickF (x y : AV) : vPick (.bool false) x y = some y := by simp only [vPick]
theorem V_str (s : ByteArray) : vStr (.str s) = some s := by simp only [vStr]
theorem V_eqI (k : IntKind) (a b : Int) : eqCell .i (.int k a) (.int k b) = some (a == b) := by simp [eqCell]
theorem V_eqB (a b : Bool) : eqCell .b (.bool a) (.bool b) = some (a == b) := by simp [eqCell]
theorem V_eqS (a b : ByteArray) : eqCell .s (.str a) (.str b) = some (a.toList == b.toList) := by simp [eqCell]
def oand : Option Bool → Option Bool → Option Bool
 | some p, some q => some (p && q)
 | _, _ => none
theorem V_oand (p q : Bool) : oand (some p) (some q) = some (p && q) := by simp only [oand]
theorem V_eqC0 : eqCells [] [] [] = some true := by simp [eqCells]
theorem V_eqC1 (k : SK) (ks : List SK) (a b : AV) (x y : List AV) : eqCells (k :: ks) (a :: x) (b :: y) = oand (eqCell k a b) (eqCells ks x y) := by
 simp only [eqCells, oand]; cases eqCell k a b <;> cases eqCells ks x y <;> rfl
theorem V_eq1 (k : SK) (x y : AV) : vEql (.one k) false x y = (eqCell k x y).map .bool := by
 simp only [vEql, eqSh]; cases eqCell k x y <;> simp
theorem V_ne1 (k : SK) (x y : AV) : vEql (.one k) true x y = (eqCell k x y).map fun b => .bool !b := by
 simp only [vEql, eqSh]; cases eqCell k x y <;> simp
theorem V_eqA (ks : List SK) (x y : List AV) : vEql (.agg ks) false (.agg x) (.agg y) = (eqCells ks x y).map .bool := by
 simp only [vEql, eqSh]; cases eqCells ks x y <;> simp
theorem V_neA (ks : List SK) (x y : List AV) : vEql (.agg ks) true (.agg x) (.agg y) = (eqCells ks x y).map fun b => .bool !b := by
 simp only [vEql, eqSh]; cases eqCells ks x y <;> simp
theorem V_add (k : IntKind) (a b : Int) : binAV .add (.int k a) (.int k b) = some (.int k (k.wrap (a + b))) := by simp [binAV, binInt]
theorem V_sub (k : IntKind) (a b : Int) : binAV .sub (.int k a) (.int k b) = some (.int k (k.wrap (a - b))) := by simp [binAV, binInt]
theorem V_mul (k : IntKind) (a b : Int) : binAV .mul (.int k a) (.int k b) = some (.int k (k.wrap (a * b))) := by simp [binAV, binInt]
theorem V_lss (k : IntKind) (a b : Int) : binAV .lss (.int k a) (.int k b) = some (.bool (decide (a < b))) := by simp [binAV, binInt]
theorem V_leq (k : IntKind) (a b : Int) : binAV .leq (.int k a) (.int k b) = some (.bool (decide (a ≤ b))) := by simp [binAV, binInt]
theorem V_gtr (k : IntKind) (a b : Int) : binAV .gtr (.int k a) (.int k b) = some (.bool (decide (b < a))) := by simp [binAV, binInt]
theorem V_geq (k : IntKind) (a b : Int) : binAV .geq (.int k a) (.int k b) = some (.bool (decide (b ≤ a))) := by simp [binAV, binInt]
theorem wrap64 {x : Int} (h : -9223372036854775808 ≤ x ∧ x ≤ 9223372036854775807) : IntKind.i64.wrap x = x := by
 simp only [IntKind.wrap, IntKind.signed, IntKind.bits]
 first
  | (rw [Int.bmod_eq_of_le] <;> omega)
  | (simp; omega)
theorem V_len (σ : St) (xs : List AV) (f : Bool) (t : Option Nat) : lenAV 1 σ (.lit xs f t) = some xs.length := by simp only [lenAV]
theorem V_lenS (σ : St) (s : ByteArray) : lenAV 0 σ (.str s) = some s.size := by simp only [lenAV]
theorem V_lenR (σ : St) (id off len sz : Nat) : lenAV 1 σ (.ref id off len sz) = some len := by simp only [lenAV]
theorem M_ptr (sh : Option Nat) (σ : St) (id off : Nat) : loadAV sh σ (.ptr id off) = (cellsAt σ id).bind fun cs => shaped sh cs off := by
 simp only [loadAV]; cases cellsAt σ id <;> simp
theorem M_lptr (sh : Option Nat) (σ : St) (xs : List AV) (i off : Nat) (t : Option Nat) : loadAV sh σ (.lptr xs i off t) = (xs[i]?).bind fun x => shaped sh x.cells off := by
 simp only [loadAV]; cases xs[i]? <;> simp
theorem M_at0 (b : List AV) (τ : St) : cellsAt (.cells b :: τ) 0 = some b := by simp [cellsAt]
theorem M_atS (b : ABlk) (τ : St) (k : Nat) : cellsAt (b :: τ) (k + 1) = cellsAt τ k := by simp [cellsAt]
theorem M_base (σ τ : St) (k : Nat) : cellsAt (σ ++ τ) (σ.length + k) = cellsAt τ k := by simp only [cellsAt, st_get]
theorem M_base0 (σ τ : St) : cellsAt (σ ++ τ) σ.length = cellsAt τ 0 := M_base σ τ 0
theorem M_sh1 (cs : List AV) (off : Nat) : shaped none cs off = cs[off]? := by simp [shaped]
theorem M_shN (n : Nat) (cs : List AV) (off : Nat) : shaped (some n) cs off = if off + n ≤ cs.length then some (.agg ((cs.drop off).take n)) else none := by simp [shaped]
theorem M_store (n : Nat) (σ : St) (id off : Nat) (v : AV) : storeAV n σ (.ptr id off) v = (vCells n v).bind fun us => (cellsAt σ id).bind fun cs => (setCells cs off us).map fun cs' => σ.set id (.cells cs') := by
 simp only [storeAV, vCells]
 split
 ·simp only [Option.bind_some]
  cases cellsAt σ id with
  | none => simp
  | some cs => simp only [Option.bind_some]; cases setCells cs off v.cells <;> simp
 ·simp
theorem M_set (cs us : List AV) (off : Nat) : setCells cs off us = if off + us.length ≤ cs.length then some (cs.take off ++ us ++ cs.drop (off + us.length)) else none := by simp only [setCells]
def cellsOk (n : Nat) (v : AV) : Bool := v.cells.length == n && v.cells.all (·.cell)
theorem C_cells (n : Nat) (v : AV) : vCells n v = if cellsOk n v = true then some v.cells else none := by unfold vCells cellsOk; rfl
theorem C_int (k : IntKind) (n : Int) : cellsOk 1 (.int k n) = true := by simp [cellsOk, AV.cells, AV.cell]
theorem C_bool (b : Bool) : cellsOk 1 (.bool b) = true := by simp [cellsOk, AV.cells, AV.cell]
theorem C_str (b : ByteArray) : cellsOk 1 (.str b) = true := by simp [cellsOk, AV.cells, AV.cell]
theorem C_lit (xs : List AV) (f : Bool) (t : Option Nat) : cellsOk 1 (.lit xs f t) = true := by simp [cellsOk, AV.cells, AV.cell]
theorem C_ref (a b c d : Nat) : cellsOk 1 (.ref a b c d) = true := by simp [cellsOk, AV.cells, AV.cell]
theorem C_ptr (a b : Nat) : cellsOk 1 (.ptr a b) = true := by simp [cellsOk, AV.cells, AV.cell]
theorem C_func (f : FuncId) (a b : List AV) : cellsOk 1 (.func f a b) = true := by simp [cellsOk, AV.cells, AV.cell]
theorem C_map (i : Nat) : cellsOk 1 (.map i) = true := by simp [cellsOk, AV.cells, AV.cell]
theorem C_nilPtr : cellsOk 1 .nilPtr = true := by simp [cellsOk, AV.cells, AV.cell]
theorem C_nilFunc : cellsOk 1 .nilFunc = true := by simp [cellsOk, AV.cells, AV.cell]
def allCell : List AV → Bool
 | [] => true
 | v :: vs => v.cell && allCell vs
theorem C_agg (n : Nat) (cs : List AV) : cellsOk n (.agg cs) = (cs.length == n && allCell cs) := by
 simp only [cellsOk, AV.cells]
 congr 1
 induction cs with
 | nil => rfl
 | cons c cs ih => simp only [List.all_cons, allCell, ih]
theorem C_0 : allCell [] = true := by simp only [allCell]
theorem C1_int (k : IntKind) (n : Int) (cs : List AV) : allCell (.int k n :: cs) = allCell cs := by simp [allCell, AV.cell]
theorem C1_bool (b : Bool) (cs : List AV) : allCell (.bool b :: cs) = allCell cs := by simp [allCell, AV.cell]
theorem C1_str (b : ByteArray) (cs : List AV) : allCell (.str b :: cs) = allCell cs := by simp [allCell, AV.cell]
theorem C1_lit (xs : List AV) (f : Bool) (t : Option Nat) (cs : List AV) : allCell (.lit xs f t :: cs) = allCell cs := by simp [allCell, AV.cell]
theorem C1_ref (a b c d : Nat) (cs : List AV) : allCell (.ref a b c d :: cs) = allCell cs := by simp [allCell, AV.cell]
theorem C1_ptr (a b : Nat) (cs : List AV) : allCell (.ptr a b :: cs) = allCell cs := by simp [allCell, AV.cell]
theorem C1_func (f : FuncId) (a b : List AV) (cs : List AV) : allCell (.func f a b :: cs) = allCell cs := by simp [allCell, AV.cell]
theorem C1_map (i : Nat) (cs : List AV) : allCell (.map i :: cs) = allCell cs := by simp [allCell, AV.cell]
theorem C1_nilPtr  (cs : List AV) : allCell (.nilPtr :: cs) = allCell cs := by simp [allCell, AV.cell]
theorem C1_nilFunc  (cs : List AV) : allCell (.nilFunc :: cs) = allCell cs := by simp [allCell, AV.cell]
theorem C_mapc {α : Type} (enc : α → AV) (l : List α) (h : ∀ x, (enc x).cell = true) : allCell (l.map enc) = true := by
 induction l with
 | nil => rfl
 | cons x l ih => simp [allCell, h, ih]
theorem K_int (k : IntKind) (n : Int) : (AV.int k n).cells = [.int k n] := by simp [AV.cells]
theorem K_bool (b : Bool) : (AV.bool b).cells = [.bool b] := by simp [AV.cells]
theorem K_str (b : ByteArray) : (AV.str b).cells = [.str b] := by simp [AV.cells]
theorem K_lit (xs : List AV) (f : Bool) (t : Option Nat) : (AV.lit xs f t).cells = [.lit xs f t] := by simp [AV.cells]
theorem K_ref (a b c d : Nat) : (AV.ref a b c d).cells = [.ref a b c d] := by simp [AV.cells]
theorem K_ptr (a b : Nat) : (AV.ptr a b).cells = [.ptr a b] := by simp [AV.cells]
theorem K_func (f : FuncId) (a b : List AV) : (AV.func f a b).cells = [.func f a b] := by simp [AV.cells]
theorem K_map (i : Nat) : (AV.map i).cells = [.map i] := by simp [AV.cells]
theorem K_agg (cs : List AV) : (AV.agg cs).cells = cs := by simp [AV.cells]
theorem K_nilPtr : AV.nilPtr.cells = [.nilPtr] := by simp [AV.cells]
theorem K_nilFunc : AV.nilFunc.cells = [.nilFunc] := by simp [AV.cells]
theorem M_bc0 (e : Env) (cs : List AV) : buildCells e cs [] = some cs := by simp only [buildCells]
theorem M_bc1 (e : Env) (cs : List AV) (off n : Nat) (x : AOpd) (rest : List (Nat × Nat × AOpd)) :
  buildCells e cs ((off, n, x) :: rest) = ((vCells n (x.ev e)).bind fun us => setCells cs off us).bind fun cs => buildCells e cs rest := q_bcI e cs off n x rest
theorem L_all0 (n : Nat) : allCells n [] = true := by simp [allCells]
theorem L_all1 (n : Nat) (x : AV) (xs : List AV) : allCells n (x :: xs) = (cellsOk n x && allCells n xs) := by simp [allCells, cellsOk]
theorem L_allM {α : Type} (n : Nat) (enc : α → AV) (l : List α) (h : ∀ x, cellsOk n (enc x) = true) : allCells n (l.map enc) = true := by
 induction l with
 | nil => exact L_all0 n
 | cons x l ih => rw [List.map_cons, L_all1, h, ih]; rfl
theorem L_lit (n : Nat) (xs : List AV) : vLit n xs = if allCells n xs = true then some (.lit xs true none) else none := by simp only [vLit]
def vIdx (sz : Nat) (xs : List AV) (j : Int) (t : Option Nat) : Option AV := (xs[j.toNat]?).bind fun y => if 0 ≤ j ∧ y.cells.length = sz then some (.lptr xs j.toNat 0 t) else none
theorem V_iaL (sz : Nat) (xs : List AV) (f : Bool) (t : Option Nat) (k : IntKind) (j : Int) : vIaddr none sz (.lit xs f t) (.int k j) = vIdx sz xs j t := by
 simp only [vIaddr, intOf, vIdx]; cases xs[j.toNat]? <;> simp
theorem V_iaA (n sz id off : Nat) (k : IntKind) (j : Int) : vIaddr (some n) sz (.ptr id off) (.int k j) = if 0 ≤ j ∧ j < n then some (.ptr id (off + j.toNat * sz)) else none := by simp only [vIaddr, intOf]
theorem V_iaAL (n sz q off : Nat) (xs : List AV) (t : Option Nat) (k : IntKind) (j : Int) : vIaddr (some n) sz (.lptr xs q off t) (.int k j) = if 0 ≤ j ∧ j < n then some (.lptr xs q (off + j.toNat * sz) t) else none := by simp only [vIaddr, intOf]
theorem V_iaR (sz id off len sz' : Nat) (k : IntKind) (j : Int) : vIaddr none sz (.ref id off len sz') (.int k j) = if 0 ≤ j ∧ j < len ∧ sz' = sz then some (.ptr id (off + j.toNat * sz)) else none := by simp only [vIaddr, intOf]
def AppOk (sz b : Nat) (xs ys : List AV) : Prop := allCells sz xs = true ∧ allCells sz ys = true ∧ (xs.length + ys.length) * b ≤ room ∧ xs.length + ys.length ≤ room
theorem app_tok {sz b : Nat} {σ : St} {xs ys : List AV} {t : Nat} {tk : Option Nat} {f ex : Bool} (h : AppOk sz b xs ys) (h0 : ys.length ≠ 0) (ht : σ[t]? = some (.tok sz xs.length ex)) :
  appendAV sz b σ (.lit xs false (some t)) (.lit ys f tk) = some (.lit (xs ++ ys) false (some t), σ.set t (.tok sz (xs.length + ys.length) true)) := by
 obtain ⟨h1, h2, h3, h4⟩ := h
 simp [appendAV, view, sized, h0, h1, h2, h3, h4, ht]
def snapM (σ : St) (m d : Nat) (v : AV) : Option AV := (snap σ m d v).map clr
def snapMs (σ : St) (m d : Nat) (vs : List AV) : Option (List AV) := (snaps σ m d vs).map clrs
theorem S_int (σ : St) (m d : Nat) (k : IntKind) (n : Int) : snapM σ m d (.int k n) = some (.int k n) := by simp [snapM, snap, clr]
theorem S_bool (σ : St) (m d : Nat) (b : Bool) : snapM σ m d (.bool b) = some (.bool b) := by simp [snapM, snap, clr]
theorem S_str (σ : St) (m d : Nat) (b : ByteArray) : snapM σ m d (.str b) = some (.str b) := by simp [snapM, snap, clr]
theorem S_nilPtr (σ : St) (m d : Nat) : snapM σ m d .nilPtr = some .nilPtr := by simp [snapM, snap, clr]
theorem S_nilFunc (σ : St) (m d : Nat) : snapM σ m d .nilFunc = some .nilFunc := by simp [snapM, snap, clr]
theorem S_ptr (σ : St) (m d id off : Nat) : snapM σ m d (.ptr id off) = if id < m then some (.ptr id off) else none := by
 simp only [snapM, snap]; split <;> simp [clr]
theorem S_map (σ : St) (m d id : Nat) : snapM σ m d (.map id) = if id < m then some (.map id) else none := by
 simp only [snapM, snap]; split <;> simp [clr]
theorem S_nil (σ : St) (m d : Nat) : snapMs σ m d [] = some [] := by simp [snapMs, snaps, clrs]
theorem S_cons (σ : St) (m d : Nat) (v : AV) (vs : List AV) : snapMs σ m d (v :: vs) = (snapM σ m d v).bind fun a => (snapMs σ m d vs).map (a :: ·) := by
 simp only [snapMs, snapM, snaps]; cases snap σ m d v <;> cases snaps σ m d vs <;> simp [clrs]
theorem S_tuple (σ : St) (m d : Nat) (vs : List AV) : snapM σ m d (.tuple vs) = (snapMs σ m d vs).map .tuple := by
 simp only [snapMs, snapM, snap]; cases snaps σ m d vs <;> simp [clr]
theorem S_agg (σ : St) (m d : Nat) (vs : List AV) : snapM σ m d (.agg vs) = (snapMs σ m d vs).map .agg := by
 simp only [snapMs, snapM, snap]; cases snaps σ m d vs <;> simp [clr]
theorem S_lit0 (σ : St) (m d : Nat) (vs : List AV) (f : Bool) : snapM σ m d (.lit vs f none) = (snapMs σ m d vs).map fun ys => .lit ys false none := by
 simp only [snapMs, snapM, snap]; cases snaps σ m d vs <;> simp [clr]
theorem S_lit1 (σ : St) (m d t : Nat) (vs : List AV) (f : Bool) : snapM σ m d (.lit vs f (some t)) = (snapMs σ m d vs).map fun ys => if t < m then .lit ys f (some t) else .lit ys false none := by
 simp only [snapMs, snapM, snap]; cases snaps σ m d vs <;> by_cases h : t < m <;> simp [clr, h, Option.filter]
theorem S_func (σ : St) (m d : Nat) (f : FuncId) (a b : List AV) : snapM σ m d (.func f a b) = (snapMs σ m d a).bind fun x => (snapMs σ m d b).map fun y => .func f x y := by
 simp only [snapMs, snapM, snap]; cases snaps σ m d a <;> cases snaps σ m d b <;> simp [clr]
def Data (v : AV) : Prop := okV 0 v ∧ clr v = v
def Datas (vs : List AV) : Prop := okVs 0 vs ∧ clrs vs = vs
mutual
theorem snap_ok0 (σ : St) (m d : Nat) : ∀ (v : AV), okV 0 v → snap σ m d v = some v
 | .func f first cap, h => by simp only [okV] at h; simp only [snap, snaps_ok0 σ m d first h.1, snaps_ok0 σ m d cap h.2]
 | .yield _, h | .ptr _ _, h | .ref _ _ _ _, h | .map _, h => by simp [okV] at h
 | .lptr xs i o tk, h => by
  simp only [okV] at h
  cases tk with
  | none => simp [snap, snaps_ok0 σ m d xs h.2]
  | some t => exact absurd (h.1 t rfl) (by omega)
 | .lit xs f tk, h => by
  simp only [okV] at h
  cases tk with
  | none => simp [snap, snaps_ok0 σ m d xs h.2]
  | some t => exact absurd (h.1 t rfl) (by omega)
 | .agg cs, h => by simp only [okV] at h; simp [snap, snaps_ok0 σ m d cs h]
 | .tuple cs, h => by simp only [okV] at h; simp [snap, snaps_ok0 σ m d cs h]
 | .undef, _ | .int _ _, _ | .bool _, _ | .str _, _ | .nilFunc, _ | .nilPtr, _ | .nilMap, _ => by simp [snap]
theorem snaps_ok0 (σ : St) (m d : Nat) : ∀ (vs : List AV), okVs 0 vs → snaps σ m d vs = some vs
 | [], _ => by simp [snaps]
 | v :: vs, h => by simp only [okVs] at h; simp [snaps, snap_ok0 σ m d v h.1, snaps_ok0 σ m d vs h.2]
end
theorem S_data {v : AV} (h : Data v) (σ : St) (m d : Nat) : snapM σ m d v = some v := by simp [snapM, snap_ok0 σ m d v h.1, h.2]
theorem S_datas {vs : List AV} (h : Datas vs) (σ : St) (m d : Nat) : snapMs σ m d vs = some vs := by simp [snapMs, snaps_ok0 σ m d vs h.1, h.2]
theorem data_int (k : IntKind) (n : Int) : Data (.int k n) := ⟨trivial, rfl⟩
theorem data_bool (b : Bool) : Data (.bool b) := ⟨trivial, rfl⟩
theorem data_str (b : ByteArray) : Data (.str b) := ⟨trivial, rfl⟩
theorem datas_nil : Datas [] := ⟨trivial, rfl⟩
theorem datas_cons {v : AV} {vs : List AV} (h : Data v) (hs : Datas vs) : Datas (v :: vs) := ⟨⟨h.1, hs.1⟩, by simp [clrs, h.2, hs.2]⟩
theorem data_agg {vs : List AV} (h : Datas vs) : Data (.agg vs) := ⟨h.1, by simp [clr, h.2]⟩
theorem data_tuple {vs : List AV} (h : Datas vs) : Data (.tuple vs) := ⟨h.1, by simp [clr, h.2]⟩
theorem data_lit {vs : List AV} (h : Datas vs) : Data (.lit vs false none) := ⟨⟨(fun t e => by cases e), h.1⟩, by simp [clr, h.2]⟩
theorem datas_map {α : Type} {enc : α → AV} (h : ∀ x, Data (enc x)) (l : List α) : Datas (l.map enc) := by
 induction l with
 | nil => exact datas_nil
 | cons x l ih => exact datas_cons (h x) ih
theorem data_list {α : Type} {enc : α → AV} (h : ∀ x, Data (enc x)) (l : List α) : Data (.lit (l.map enc) false none) := data_lit (datas_map h l)
def RetR (o : Option AV) (σ : St) (v : AV) : Prop := ∃ v0, o = some v0 ∧ snapM σ 0 20 v0 = some v
@[congr] theorem RetR_congr {o o' : Option AV} {σ σ' : St} {v : AV} (h : o = o') (h2 : σ = σ') : RetR o σ v = RetR o' σ' v := by rw [h, h2]
theorem R_some (v0 : AV) (σ : St) (v : AV) : RetR (some v0) σ v = (snapM σ 0 20 v0 = some v) := by simp [RetR]
def RetK (rs : List ARes) (v : AV) : KJ := fun j e σ => (j = none ∨ j = some .ret) ∧ RetR (resOf rs e σ) σ v
theorem R_none (rs : List ARes) (v : AV) (e : Env) (σ : St) : RetK rs v none e σ = RetR (resOf rs e σ) σ v := by simp [RetK]
theorem R_ret (rs : List ARes) (v : AV) (e : Env) (σ : St) : RetK rs v (some .ret) e σ = RetR (resOf rs e σ) σ v := by simp [RetK]
theorem pure_fn {f : FuncId} {args : List AV} {v : AV} {af : AFunc} (hf : T f = some af) (hn : args.length ≤ af.ntmps) (hk : Datas args) (h : wp T af.body (argsEnv 0 args) [] (RetK af.results v)) : Pure T f args v := by
 intro σ
 refine .frame hk.1 (.inl rfl) (R := fun o => o.v = v ∧ o.σ = []) (.call hf hn (run_wp h fun o ho => ho) fun o ho => ?_) fun o ho => ⟨ho.2, ho.1, rfl⟩
 obtain ⟨h1, v0, h2, h3⟩ := ho
 refine ⟨h1, v0, h2, ?_⟩
 unfold snapM at h3
 cases hs : snap o.σ 0 20 v0 with
 | none => rw [hs] at h3; cases h3
 | some v1 =>
  rw [hs] at h3
  simp at h3
  exact .inr ⟨20, v1, v, hs, .inr h3.symm, fun i hi => absurd hi (by simp), by simp, rfl, by simp⟩
theorem call_fn {f : FuncId} {args args0 : List AV} {v : AV} (h : Pure T f args0 v) (ha : clrs args = args0) (hk : okVs 0 args) (σ : St) : Run T (.call f args σ) fun o => o.v = v ∧ o.σ = σ :=
 .frame hk (.inr ha.symm) (h []) fun o ho => ⟨ho.2, ho.1, rfl⟩
theorem callK_fn {f : FuncId} {first cap args args0 : List AV} {v : AV} {σ : St} {K : AV → St → Prop} (h : Pure T f args0 v) (ha : clrs (first ++ args ++ cap) = args0) (hk : okVs 0 (first ++ args ++ cap)) (k : K v σ) : cK (K := ⟨K⟩) T (.func f first cap) args σ :=
 .callf (.mono (call_fn h ha hk σ) fun o ho => by rw [ho.1, ho.2]; exact k)
theorem callD_fn {f : FuncId} {first cap args args0 : List AV} {v : AV} {σ : St} {K : AV → St → Prop} (h : Pure T f args0 v) (ha : clrs (first ++ args ++ cap) = args0) (hk : okVs 0 (first ++ args ++ cap)) (k : K v σ) : cD (K := ⟨K⟩) T (.func f first cap) args σ :=
 ⟨v, σ, .callf (call_fn h ha hk σ), k⟩
theorem callK_d {f : FuncId} {args args0 : List AV} {v : AV} {σ : St} {K : AV → St → Prop} (h : Pure T f args0 v) (ha : args = args0) (hk : Datas args0) (k : K v σ) : cK (K := ⟨K⟩) T (.func f [] []) args σ := by
 subst ha; exact callK_fn h (by simpa using hk.2) (by simpa using hk.1) k
theorem callD_d {f : FuncId} {args args0 : List AV} {v : AV} {σ : St} {K : AV → St → Prop} (h : Pure T f args0 v) (ha : args = args0) (hk : Datas args0) (k : K v σ) : cD (K := ⟨K⟩) T (.func f [] []) args σ := by
 subst ha; exact callD_fn h (by simpa using hk.2) (by simpa using hk.1) k
def InK (rs : List ARes) (K : AV → St → Prop) : KJ := fun j e σ => (j = none ∨ j = some .ret) ∧ ∃ v, resOf rs e σ = some v ∧ K v σ
def InR (o : Option AV) (σ : St) (K : AV → St → Prop) : Prop := ∃ v, o = some v ∧ K v σ
@[congr] theorem InR_congr {o o' : Option AV} {σ σ' : St} {K : AV → St → Prop} (h : o = o') (h2 : σ = σ') : InR o σ K = InR o' σ' K := by rw [h, h2]
theorem I_some (v : AV) (σ : St) (K : AV → St → Prop) : InR (some v) σ K = K v σ := by simp [InR]
theorem I_none (rs : List ARes) (K : AV → St → Prop) (e : Env) (σ : St) : InK rs K none e σ = InR (resOf rs e σ) σ K := by simp [InK, InR]
theorem I_ret (rs : List ARes) (K : AV → St → Prop) (e : Env) (σ : St) : InK rs K (some .ret) e σ = InR (resOf rs e σ) σ K := by simp [InK, InR]
theorem callK_in {f : FuncId} {first cap args : List AV} {af : AFunc} {σ : St} {K : AV → St → Prop} (hf : T f = some af) (hn : (first ++ args ++ cap).length ≤ af.ntmps) (h : wp T af.body (argsEnv 0 (first ++ args ++ cap)) σ (InK af.results K)) :
  cK (K := ⟨K⟩) T (.func f first cap) args σ :=
 .callf (.call hf hn (run_wp h fun o ho => ho) fun o ho => ⟨ho.1, ho.2.choose, ho.2.choose_spec.1, .inl ho.2.choose_spec.2⟩)
def EqE (σ : St) (m : Nat) (e : Env) : Env → Prop
 | [] => True
 | (t, v) :: e' => snapM σ m 20 (Env.get e t) = some v ∧ EqE σ m e e'
theorem T_e0 (σ : St) (m : Nat) (e : Env) : EqE σ m e [] = True := by simp only [EqE]
theorem T_e1 (σ : St) (m : Nat) (e : Env) (t : Nat) (v : AV) (e' : Env) : EqE σ m e ((t, v) :: e') = (snapM σ m 20 (Env.get e t) = some v ∧ EqE σ m e e') := by simp only [EqE]
theorem thinE_of {σ : St} {m : Nat} {e : Env} : ∀ {e' : Env}, EqE σ m e e' → ThinE σ m e e'
 | [], _ => trivial
 | (t, v) :: e', h => by
  refine ⟨.inr ?_, thinE_of h.2⟩
  have h1 := h.1
  unfold snapM at h1
  cases hs : snap σ m 20 (Env.get e t) with
  | none => rw [hs] at h1; cases h1
  | some v1 => rw [hs] at h1; simp at h1; exact ⟨20, v1, hs, .inr h1.symm⟩
def EqS (m : Nat) : St → St → St → Prop
 | _, _, [] => True
 | s :: ss, b :: bs, c :: cs => (c = b ∧ (b = s ∨ okBlk m b)) ∧ EqS m ss bs cs
 | [], b :: bs, c :: cs => (c = b ∧ okBlk m b) ∧ EqS m [] bs cs
 | _, [], _ :: _ => False
theorem T_s0 (m : Nat) (a b : St) : EqS m a b [] = True := by cases a <;> cases b <;> simp only [EqS]
theorem T_s1 (m : Nat) (s b c : ABlk) (ss bs cs : St) : EqS m (s :: ss) (b :: bs) (c :: cs) = ((c = b ∧ (b = s ∨ okBlk m b)) ∧ EqS m ss bs cs) := by simp only [EqS]
theorem T_s2 (m : Nat) (b c : ABlk) (bs cs : St) : EqS m [] (b :: bs) (c :: cs) = ((c = b ∧ okBlk m b) ∧ EqS m [] bs cs) := by simp only [EqS]
theorem eqS_spec {m : Nat} : ∀ {σ σ' σ'' : St}, EqS m σ σ' σ'' → ∀ i c, σ''[i]? = some c → σ'[i]? = some c ∧ ((i < σ.length ∧ σ'[i]? = σ[i]?) ∨ okBlk m c)
 | _, _, [], _, i, c, h => by simp at h
 | s :: ss, b :: bs, x :: cs, h, i, c, hc => by
  obtain ⟨⟨h1, h2⟩, h3⟩ := h
  cases i with
  | zero =>
   simp at hc
   subst hc
   subst h1
   refine ⟨rfl, ?_⟩
   rcases h2 with h2 | h2
   ·left; simp [h2]
   ·right; exact h2
  | succ i =>
   obtain ⟨q1, q2⟩ := eqS_spec h3 i c (by simpa using hc)
   refine ⟨by simpa using q1, ?_⟩
   rcases q2 with ⟨q2, q3⟩ | q2
   ·left; exact ⟨by simp; omega, by simpa using q3⟩
   ·right; exact q2
 | [], b :: bs, x :: cs, h, i, c, hc => by
  obtain ⟨⟨h1, h2⟩, h3⟩ := h
  cases i with
  | zero =>
   simp at hc
   subst hc
   subst h1
   exact ⟨rfl, .inr h2⟩
  | succ i =>
   obtain ⟨q1, q2⟩ := eqS_spec h3 i c (by simpa using hc)
   refine ⟨by simpa using q1, ?_⟩
   rcases q2 with ⟨q2, q3⟩ | q2
   ·simp at q2
   ·right; exact q2
def TrimX (σ : St) (e' : Env) (σ' : St) (e'' : Env) (σ'' : St) : Prop := σ.length ≤ σ''.length ∧ σ''.length ≤ σ'.length ∧ EqE σ' σ''.length e' e'' ∧ EqS σ''.length σ σ' σ''
@[congr] theorem TrimX_congr {σ σ1 : St} {e' e1 : Env} {σ' σ1' : St} {e'' : Env} {σ'' : St} (h1 : σ = σ1) (h2 : e' = e1) (h3 : σ' = σ1') : TrimX σ e' σ' e'' σ'' = TrimX σ1 e1 σ1' e'' σ'' := by rw [h1, h2, h3]
theorem trims_of {σ : St} {e' : Env} {σ' : St} {e'' : Env} {σ'' : St} (h : TrimX σ e' σ' e'' σ'') : Trims2 σ e' σ' e'' σ'' := by
 obtain ⟨h1, h2, h3, h4⟩ := h
 refine ⟨h1, h2, thinE_of h3, fun i hi => ?_⟩
 obtain ⟨c, hc⟩ : ∃ c, σ''[i]? = some c := ⟨_, List.getElem?_eq_getElem hi⟩
 obtain ⟨q1, q2⟩ := eqS_spec h4 i c hc
 refine ⟨c, hc, ?_⟩
 rcases q2 with ⟨q2, q3⟩ | q2
 ·left; exact ⟨q2, .inl q3, q1⟩
 ·right; left; exact ⟨q1, q2⟩
def BackK {S : Type} (P : S → Prop) (μ : S → Nat) (IE : S → Env) (IS : S → St) (s : S) (K : KJ) : KJ := fun j e σ =>
 match j with
 | none => ∃ s', P s' ∧ μ s' < μ s ∧ TrimX (IS s) e σ (IE s') (IS s')
 | some j => K (some j) e σ
theorem T_back {S : Type} (P : S → Prop) (μ : S → Nat) (IE : S → Env) (IS : S → St) (s : S) (K : KJ) (e : Env) (σ : St) : BackK P μ IE IS s K none e σ = ∃ s', P s' ∧ μ s' < μ s ∧ TrimX (IS s) e σ (IE s') (IS s') := by simp only [BackK]
theorem T_out {S : Type} (P : S → Prop) (μ : S → Nat) (IE : S → Env) (IS : S → St) (s : S) (K : KJ) (j : AJump) (e : Env) (σ : St) : BackK P μ IE IS s K (some j) e σ = K (some j) e σ := by simp only [BackK]
def EqW (e : Env) : Env → Prop
 | [] => True
 | (t, v) :: e' => (Env.get e t = v ∨ clr (Env.get e t) = v) ∧ EqW e e'
theorem T_w0 (e : Env) : EqW e [] = True := by simp only [EqW]
theorem T_w1 (e : Env) (t : Nat) (v : AV) (e' : Env) : EqW e ((t, v) :: e') = ((Env.get e t = v ∨ clr (Env.get e t) = v) ∧ EqW e e') := by simp only [EqW]
theorem eqW_spec {e : Env} : ∀ {e' : Env}, EqW e e' → ∀ t, Env.get e' t = .undef ∨ Env.get e' t = Env.get e t ∨ Env.get e' t = clr (Env.get e t)
 | [], _, t => .inl rfl
 | (k, v) :: e', h, t => by
  by_cases hk : k = t
  ·subst hk
   right
   rcases h.1 with h | h
   ·left; simp [Env.get, h]
   ·right; simp [Env.get, h]
  ·simpa [Env.get, hk] using eqW_spec h.2 t
theorem loopX {S : Type} (P : S → Prop) (μ : S → Nat) (IE : S → Env) (IS : S → St) {b : ACode} {K : KJ} (step : ∀ s, P s → wp T b (IE s) (IS s) (BackK P μ IE IS s K)) : ∀ n s, μ s = n → P s → RunK T (.loop b) (IE s) (IS s) K := by
 intro n
 induction n using Nat.strongRecOn with
 | _ n ih =>
  intro s hs hp
  have h1 : Run T (.code b (IE s) (IS s)) fun o => (o.j = none ∧ ∃ s', P s' ∧ μ s' < μ s ∧ o.env = IE s' ∧ o.σ = IS s') ∨ (o.j ≠ none ∧ K o.j o.env o.σ) := by
   refine .trim2 (run_wp (step s hp) fun o ho => ho) fun o ho => ?_
   cases hj : o.j with
   | none =>
    rw [hj, T_back] at ho
    obtain ⟨s', h1, h2, h3⟩ := ho
    exact .inr ⟨_, _, trims_of h3, .inl ⟨rfl, s', h1, h2, rfl, rfl⟩⟩
   | some j =>
    rw [hj, T_out] at ho
    exact .inl (.inr ⟨by simp, ho⟩)
  refine .loop h1 (fun o ho hj => ?_) fun o ho hj => ?_
  ·rcases ho with ⟨_, s', q1, q2, q3, q4⟩ | ⟨q1, _⟩
   ·rw [q3, q4]; exact ih _ (by omega) s' rfl q1
   ·exact absurd hj q1
  ·rcases ho with ⟨q, _⟩ | ⟨_, q⟩
   ·exact absurd q hj
   ·exact q
theorem loopE {S : Type} (s0 : S) (P : S → Prop) (μ : S → Nat) (IE : S → Env) (IS : S → St) {b : ACode} {e : Env} {σ : St} {K : KJ} (hP : P s0) (hσ : σ = IS s0) (hE : EqW e (IE s0))
  (step : ∀ s, P s → wp T b (IE s) (IS s) (BackK P μ IE IS s K)) : rK (K := ⟨K⟩) T (.loop b) e σ := by
 subst hσ
 exact .weak (eqW_spec hE) (loopX P μ IE IS step _ s0 rfl hP)
theorem ghostK {c : ACode} {e : Env} {σ : St} {K : KJ} (t sz : Nat) (xs : List AV) (ht : Env.get e t = .lit xs true none) (h : rK (K := ⟨K⟩) T c ((t, .lit xs false (some σ.length)) :: e) (σ ++ [.tok sz xs.length false])) : rK (K := ⟨K⟩) T c e σ :=
 .ghost t sz xs ht h
end Go.Am
namespace Go.Am
variable {T : FuncId → Option AFunc}
def resA (e : Env) (σ : St) : ARes → Option AV
 | .tmp t => some (Env.get e t)
 | .cell t sh => loadAV sh σ (Env.get e t)
def resAs (e : Env) (σ : St) : List ARes → Option (List AV)
 | [] => some []
 | r :: rs => (resA e σ r).bind fun v => (resAs e σ rs).map (v :: ·)
theorem resAV_eq (e : Env) (σ : St) : ∀ rs, resAV e σ rs = resAs e σ rs
 | [] => rfl
 | .tmp t :: rs => by simp [resAV, resAs, resA, resAV_eq e σ rs]
 | .cell t sh :: rs => by
  simp only [resAV, resAs, resA, resAV_eq e σ rs]
  cases loadAV sh σ (Env.get e t) <;> cases resAs e σ rs <;> simp
theorem X_res0 (e : Env) (σ : St) : resOf [] e σ = some (.tuple []) := by simp [resOf, resAV]
theorem X_res1 (r : ARes) (e : Env) (σ : St) : resOf [r] e σ = resA e σ r := by
 simp only [resOf, resAV_eq, resAs]; cases resA e σ r <;> simp
theorem X_res2 (r s : ARes) (rs : List ARes) (e : Env) (σ : St) : resOf (r :: s :: rs) e σ = (resAs e σ (r :: s :: rs)).map .tuple := by
 simp only [resOf, resAV_eq, resAs]; cases resA e σ r <;> cases resA e σ s <;> cases resAs e σ rs <;> simp
theorem X_ra0 (e : Env) (σ : St) : resAs e σ [] = some [] := by simp only [resAs]
theorem X_ra1 (r : ARes) (rs : List ARes) (e : Env) (σ : St) : resAs e σ (r :: rs) = (resA e σ r).bind fun v => (resAs e σ rs).map (v :: ·) := by simp only [resAs]
theorem X_rt (t : Nat) (e : Env) (σ : St) : resA e σ (.tmp t) = some (Env.get e t) := by simp only [resA]
theorem X_rc (t : Nat) (sh : Option Nat) (e : Env) (σ : St) : resA e σ (.cell t sh) = loadAV sh σ (Env.get e t) := by simp only [resA]
theorem X_bn (id : Nat) (K : KJ) (e : Env) (σ : St) : blockK id K none e σ = K none e σ := by simp only [blockK]
theorem X_br (id : Nat) (K : KJ) (e : Env) (σ : St) : blockK id K (some .ret) e σ = K (some .ret) e σ := by simp only [blockK]
theorem X_be1 (id : Nat) (K : KJ) (e : Env) (σ : St) : blockK id K (some (.exit id)) e σ = K none e σ := by simp [blockK]
theorem X_be2 (id i : Nat) (K : KJ) (e : Env) (σ : St) (h : i ≠ id) : blockK id K (some (.exit i)) e σ = K (some (.exit i)) e σ := by simp [blockK, h]
theorem V_idxN {α : Type} {sz : Nat} {enc : α → AV} {l : List α} {k : Nat} {t : Option Nat} (h : k < l.length) (hs : ∀ x, (enc x).cells.length = sz) : vIdx sz (l.map enc) (k : Int) t = some (.lptr (l.map enc) k 0 t) := by
 simp [vIdx, List.getElem?_map, h, hs]
theorem V_getN {α : Type} {enc : α → AV} {l : List α} {k : Nat} (h : k < l.length) : (l.map enc)[k]? = some (enc l[k]) := by simp [List.getElem?_map, h]
theorem V_idxI {α : Type} {sz : Nat} {enc : α → AV} {l : List α} {i : Int} {t : Option Nat} (h0 : 0 ≤ i) (h : i.toNat < l.length) (hs : ∀ x, (enc x).cells.length = sz) : vIdx sz (l.map enc) i t = some (.lptr (l.map enc) i.toNat 0 t) := by
 simp [vIdx, List.getElem?_map, h, hs, h0]
theorem rd0 {ds : List ADOper} {e : Env} {σ : St} {K : KJ} (hz : allocsOf ds = []) (h : wpD T ds e σ σ.length [σ] [] fun e σ => K none e σ) : rK (K := ⟨K⟩) T (.dreg ds) e σ := by
 refine rK_dreg ?_
 rw [hz, List.append_nil]
 exact h
theorem rK_dreg1 {ds : List ADOper} {e : Env} {σ : St} {K : KJ} (zs : St) (hz : allocsOf ds = zs) (h : wpD T ds e (σ ++ zs) σ.length [σ ++ zs] [] fun e σ => K none e σ) : rK (K := ⟨K⟩) T (.dreg ds) e σ := by
 subst hz
 exact rK_dreg h
theorem wrapN {k n : Nat} (h : k < n) (hn : n < 9223372036854775808) : IntKind.i64.wrap ((k : Int) + 1) = ((k + 1 : Nat) : Int) := by rw [wrap64 ⟨by omega, by omega⟩]; omega
def ints (l : List Int) : AV := .lit (l.map (.int .i64)) false none
theorem data_ints (l : List Int) : Data (ints l) := data_list (data_int .i64) l
theorem S_mapI (σ : St) (m d : Nat) (k : IntKind) (l : List Int) : snapMs σ m d (l.map (.int k)) = some (l.map (.int k)) := S_datas (datas_map (data_int k) l) σ m d
theorem S_mapS (σ : St) (m d : Nat) (l : List ByteArray) : snapMs σ m d (l.map .str) = some (l.map .str) := S_datas (datas_map data_str l) σ m d
theorem S_app (σ : St) (m d : Nat) : ∀ xs ys : List AV, snapMs σ m d (xs ++ ys) = (snapMs σ m d xs).bind fun a => (snapMs σ m d ys).map (a ++ ·)
 | [], ys => by rw [S_nil]; simp
 | x :: xs, ys => by
  rw [List.cons_append, S_cons, S_cons, S_app σ m d xs ys]
  cases snapM σ m d x <;> simp
  cases snapMs σ m d xs <;> simp
  cases snapMs σ m d ys <;> simp
theorem S_ints (σ : St) (m d : Nat) (l : List Int) : snapM σ m d (ints l) = some (ints l) := S_data (data_ints l) σ m d
theorem S_mapL (σ : St) (m d : Nat) (l : List (List Int)) : snapMs σ m d (l.map ints) = some (l.map ints) := S_datas (datas_map data_ints l) σ m d
theorem V_min2 (k : IntKind) (a b : Int) : minAV [.int k a, .int k b] = some (.int k (min a b)) := by
 simp only [minAV, minFrom, if_true, Option.some.injEq, AV.int.injEq, true_and]; split <;> omega
theorem V_max2 (k : IntKind) (a b : Int) : maxAV [.int k a, .int k b] = some (.int k (max a b)) := by
 simp only [maxAV, maxFrom, if_true, Option.some.injEq, AV.int.injEq, true_and]; split <;> omega
def byteAt (s : ByteArray) (k : Nat) : Int := (((s[k]?).getD 0).toNat : Int)
theorem byteAt_lt (s : ByteArray) (k : Nat) : 0 ≤ byteAt s k ∧ byteAt s k < 256 := by
 have := ((s[k]?).getD 0).toNat_lt
 unfold byteAt
 omega
theorem V_sidx {s : ByteArray} {k : Nat} (h : k < s.size) : vSindex (.str s) (.int .i64 (k : Int)) = some (.int .u8 (byteAt s k)) := by
 simp [vSindex, intOf, byteAt, h]
structure Span where
 lo : Int
 hi : Int
 deriving DecidableEq
def encSpan (s : Span) : AV := .agg [.int .i64 s.lo, .int .i64 s.hi]
theorem encSpan_eq (s : Span) : encSpan s = .agg [.int .i64 s.lo, .int .i64 s.hi] := by simp only [encSpan]
theorem data_span (s : Span) : Data (encSpan s) := data_agg (datas_cons (data_int _ _) (datas_cons (data_int _ _) datas_nil))
def strs (l : List ByteArray) : AV := .lit (l.map .str) false none
theorem data_strs (l : List ByteArray) : Data (strs l) := data_list data_str l
end Go.Am
namespace Go.Am
variable {T : FuncId → Option AFunc}
def Same (T : FuncId → Option AFunc) (f : AV) (args : List AV) (σ : St) (v : AV) : Prop := Run T (.callv f args σ) fun o => o.v = v ∧ o.σ = σ
def BaseR (o : Option AV) (σ0 σ : St) (v : AV) : Prop := ∃ v0 τ, o = some v0 ∧ σ = σ0 ++ τ ∧ snapM σ σ0.length 20 v0 = some v
@[congr] theorem BaseR_congr {o o' : Option AV} {σ0 σ σ' : St} {v : AV} (h : o = o') (h2 : σ = σ') : BaseR o σ0 σ v = BaseR o' σ0 σ' v := by rw [h, h2]
def BaseK (rs : List ARes) (σ0 : St) (v : AV) : KJ := fun j e σ => (j = none ∨ j = some .ret) ∧ BaseR (resOf rs e σ) σ0 σ v
theorem Y_none (rs : List ARes) (σ0 : St) (v : AV) (e : Env) (σ : St) : BaseK rs σ0 v none e σ = BaseR (resOf rs e σ) σ0 σ v := by simp [BaseK]
theorem Y_ret (rs : List ARes) (σ0 : St) (v : AV) (e : Env) (σ : St) : BaseK rs σ0 v (some .ret) e σ = BaseR (resOf rs e σ) σ0 σ v := by simp [BaseK]
theorem baseR {v0 : AV} {σ0 σ : St} {v : AV} (τ : St) (h1 : σ = σ0 ++ τ) (h2 : snapM σ σ0.length 20 v0 = some v) : BaseR (some v0) σ0 σ v := ⟨v0, τ, rfl, h1, h2⟩
theorem same_fn {f : FuncId} {first cap args : List AV} {σ : St} {af : AFunc} {v : AV} (hf : T f = some af) (hn : (first ++ args ++ cap).length ≤ af.ntmps) (h : wp T af.body (argsEnv 0 (first ++ args ++ cap)) σ (BaseK af.results σ v)) : Same T (.func f first cap) args σ v := by
 refine .callf (.call hf hn (run_wp h fun o ho => ho) fun o ho => ?_)
 obtain ⟨h1, v0, τ, h2, h3, h4⟩ := ho
 refine ⟨h1, v0, h2, ?_⟩
 unfold snapM at h4
 cases hs : snap o.σ σ.length 20 v0 with
 | none => rw [hs] at h4; cases h4
 | some v1 =>
  rw [hs] at h4
  simp at h4
  exact .inr ⟨20, v1, v, hs, .inr h4.symm, fun i hi => .inl (by rw [h3]; exact List.getElem?_append_left hi), by rw [h3]; simp, rfl, by rw [h3]; simp⟩
theorem callK_same {f : AV} {args : List AV} {v : AV} {σ : St} {K : AV → St → Prop} (h : Same T f args σ v) (k : K v σ) : cK (K := ⟨K⟩) T f args σ := .mono h fun o ho => by rw [ho.1, ho.2]; exact k
def Keeps (σ : St) (v : AV) : Prop := ∀ τ, snapM (σ ++ τ) σ.length 20 v = some v
theorem Keeps.nil {σ : St} {v : AV} (h : Keeps σ v) : snapM σ σ.length 20 v = some v := by simpa using h []
theorem T_sr (m : Nat) : ∀ (σ τ : St), EqS m σ (σ ++ τ) σ = True
 | [], τ => by cases τ <;> simp [EqS]
 | b :: σ, τ => by simp [EqS, T_sr m σ τ]
theorem T_sr0 (m : Nat) (σ : St) : EqS m σ σ σ = True := by simpa using T_sr m σ []
theorem st_app (σ τ υ : St) : σ ++ τ ++ υ = σ ++ (τ ++ υ) := List.append_assoc _ _ _
theorem V_snextT {s : ByteArray} {k : Nat} (h : k < s.size) : vSnext [.siter s k] (.ptr 0 0) = some (.tuple [.bool true, .int .i64 k, .int .i32 (Utf8.decode s k).1], [.siter s (k + (Utf8.decode s k).2)]) := by
 simp [vSnext, h]
theorem V_snextF {s : ByteArray} {k : Nat} (h : ¬ k < s.size) : vSnext [.siter s k] (.ptr 0 0) = some (.tuple [.bool false], [.siter s k]) := by
 simp [vSnext, h]
theorem byteAt_ascii {s : ByteArray} {k : Nat} (h : k < s.size) (hb : byteAt s k < 128) : Utf8.decode s k = ((byteAt s k).toNat, 1) := by
 have e : byteAt s k = ((s[k]'h).toNat : Int) := by simp [byteAt, h]
 rw [decode_ascii s k h (by omega), e]
 simp
theorem byteAt_high {s : ByteArray} {k : Nat} (h : k < s.size) (hb : 128 ≤ byteAt s k) : 128 ≤ (Utf8.decode s k).1 := by
 have e : byteAt s k = ((s[k]'h).toNat : Int) := by simp [byteAt, h]
 exact (decode_high s k h (by omega)).1
theorem V_take {α : Type} {sz : Nat} {enc : α → AV} {l : List α} {i : Nat} {σ : St} {t : Option Nat} (hi : i ≤ l.length) (hs : ∀ x, (enc x).cells.length = sz) : vSlicev sz σ (.lit (l.map enc) false t) none (some (.int .i64 (i : Int))) none = some (.lit ((l.take i).map enc) false t) := by
 have hc : cutFits sz (l.map enc) 0 (i : Int) = true := by
  unfold cutFits
  by_cases h0 : i = 0
  ·subst h0; simp
  ·cases l with
   | nil => simp at hi; omega
   | cons x l => simp [hs]
 simp only [vSlicev, lenAV, vBound, Option.map_none, intOf, sliceAV]
 rw [if_pos ⟨by omega, by omega, by simp; omega, hc⟩]
 simp [List.map_take]
theorem callK_v {f : FuncId} {args args0 : List AV} {v : AV} {σ : St} {K : AV → St → Prop} (h : Pure T f args0 v) (ha : clrs args = args0) (hk : okVs 0 args) (k : K v σ) : cK (K := ⟨K⟩) T (.func f [] []) args σ :=
 callK_fn h (by simpa using ha) (by simpa using hk) k
theorem callD_v {f : FuncId} {args args0 : List AV} {v : AV} {σ : St} {K : AV → St → Prop} (h : Pure T f args0 v) (ha : clrs args = args0) (hk : okVs 0 args) (k : K v σ) : cD (K := ⟨K⟩) T (.func f [] []) args σ :=
 callD_fn h (by simpa using ha) (by simpa using hk) k
end Go.Am
namespace Go.Am
def QV := And.intro @V_str (And.intro @st_set (And.intro @st_set0 (And.intro @st_app (And.intro @V_sidx (And.intro @V_min2 (And.intro @V_max2 (And.intro @q_put (And.intro @q_put0 (And.intro @q_get (And.intro @q_evt (And.intro @q_evc (And.intro @q_arg (And.intro @q_arg0 (And.intro @W_bindB (And.intro @W_bindG1 (And.intro @W_bindG0 (And.intro @W_bindGT (And.intro @iteP_true (And.intro @iteP_false (And.intro @E_evs0 (And.intro @E_evs1 (And.intro @E_ovs0 (And.intro @E_ovs1 (And.intro @B_some (And.intro @O_map (And.intro @O_bind (And.intro @V_nilP (And.intro @V_nilL (And.intro @V_nilF (And.intro @V_field (And.intro @V_conv (And.intro @V_neg (And.intro @V_pickT (And.intro @V_pickF (And.intro @V_eqI (And.intro @V_eqB (And.intro @V_eqS (And.intro @V_oand (And.intro @V_eqC0 (And.intro @V_eqC1 (And.intro @V_eq1 (And.intro @V_ne1 (And.intro @V_eqA (And.intro @V_neA (And.intro @V_add (And.intro @V_sub (And.intro @V_mul (And.intro @V_lss (And.intro @V_leq (And.intro @V_gtr (And.intro @V_geq (And.intro @V_len (And.intro @V_lenS (And.intro @V_lenR (And.intro @q_faddrP (And.intro @q_faddrL (And.intro @q_extT (And.intro @q_notB (And.intro @M_ptr (And.intro @M_lptr (And.intro @M_at0 (And.intro @M_atS (And.intro @M_base (And.intro @M_base0 (And.intro @M_sh1 (And.intro @M_shN (And.intro @M_store (And.intro @M_set (And.intro @C_cells (And.intro @C_int (And.intro @C_bool (And.intro @C_str (And.intro @C_lit (And.intro @C_ref (And.intro @C_ptr (And.intro @C_func (And.intro @C_map (And.intro @C_nilPtr (And.intro @C_nilFunc (And.intro @C_agg (And.intro @C_0 (And.intro @C1_int (And.intro @C1_bool (And.intro @C1_str (And.intro @C1_lit (And.intro @C1_ref (And.intro @C1_ptr (And.intro @C1_func (And.intro @C1_map (And.intro @C1_nilPtr (And.intro @C1_nilFunc (And.intro @K_int (And.intro @K_bool (And.intro @K_str (And.intro @K_lit (And.intro @K_ref (And.intro @K_ptr (And.intro @K_func (And.intro @K_map (And.intro @K_agg (And.intro @K_nilPtr (And.intro @K_nilFunc (And.intro @M_bc0 (And.intro @M_bc1 (And.intro @L_all0 (And.intro @L_all1 (And.intro @L_lit (And.intro @V_iaL (And.intro @V_iaA (And.intro @V_iaAL (And.intro @V_iaR (And.intro @X_res0 (And.intro @X_res1 (And.intro @X_res2 (And.intro @X_ra0 (And.intro @X_ra1 (And.intro @X_rt (And.intro @X_rc (And.intro @R_some (And.intro @I_some (And.intro @A_mov (And.intro @A_pick (And.intro @A_alloc (And.intro @A_box (And.intro @A_build (And.intro @A_mklit (And.intro @A_mkref (And.intro @A_load (And.intro @A_store (And.intro @A_nilCheck (And.intro @A_bin (And.intro @A_eql (And.intro @A_not (And.intro @A_neg (And.intro @A_conv (And.intro @A_mkfun (And.intro @A_mkmap (And.intro @A_mkslice (And.intro @A_slicev (And.intro @A_slicea (And.intro @A_faddr (And.intro @A_field (And.intro @A_iaddr (And.intro @A_index (And.intro @A_sindex (And.intro @A_lookup (And.intro @A_mapset (And.intro @A_ext (And.intro @A_len (And.intro @A_append (And.intro @A_apref (And.intro @A_copy (And.intro @A_min (And.intro @A_max (And.intro @A_srange (@A_snext))))))))))))))))))))))))))))))))))))))))))))))))))))))))))))))))))))))))))))))))))))))))))))))))))))))))))))))))))))))))))))))))))))))))))))))))))))))))))))
def QP := And.intro @Y_none (And.intro @Y_ret (And.intro @q_reg (And.intro @q_seq (And.intro @q_jump (And.intro @q_then (And.intro @q_thenJ (And.intro @q_skip (And.intro @q_block (And.intro @q_scope (And.intro @q_nil (And.intro @X_bn (And.intro @X_br (And.intro @X_be1 (And.intro @X_be2 (And.intro @V_idxN (And.intro @V_getN (And.intro @W_call (And.intro @W_guard (And.intro @W_cond (And.intro @W_loop (And.intro @W_range (And.intro @D_reg (And.intro @R_none (And.intro @R_ret (And.intro @I_none (And.intro @I_ret (And.intro @T_back (And.intro @T_out (And.intro @W_mov (And.intro @W_pick (And.intro @W_alloc (And.intro @W_box (And.intro @W_build (And.intro @W_mklit (And.intro @W_mkref (And.intro @W_load (And.intro @W_store (And.intro @W_nilCheck (And.intro @W_bin (And.intro @W_eql (And.intro @W_not (And.intro @W_neg (And.intro @W_conv (And.intro @W_mkfun (And.intro @W_mkmap (And.intro @W_mkslice (And.intro @W_slicev (And.intro @W_slicea (And.intro @W_faddr (And.intro @W_field (And.intro @W_iaddr (And.intro @W_index (And.intro @W_sindex (And.intro @W_lookup (And.intro @W_mapset (And.intro @W_ext (And.intro @W_len (And.intro @W_append (And.intro @W_apref (And.intro @W_copy (And.intro @W_min (And.intro @W_max (And.intro @W_srange (@W_snext))))))))))))))))))))))))))))))))))))))))))))))))))))))))))))))))
def QD := And.intro @D_nil (And.intro @D_call (And.intro @D_alloc (And.intro @D_guardC (And.intro @D_mov (And.intro @D_pick (And.intro @D_box (And.intro @D_build (And.intro @D_mklit (And.intro @D_mkref (And.intro @D_load (And.intro @D_store (And.intro @D_nilCheck (And.intro @D_bin (And.intro @D_eql (And.intro @D_not (And.intro @D_neg (And.intro @D_conv (And.intro @D_mkfun (And.intro @D_mkmap (And.intro @D_mkslice (And.intro @D_slicev (And.intro @D_slicea (And.intro @D_faddr (And.intro @D_field (And.intro @D_iaddr (And.intro @D_index (And.intro @D_sindex (And.intro @D_lookup (And.intro @D_mapset (And.intro @D_ext (And.intro @D_len (And.intro @D_append (And.intro @D_apref (And.intro @D_copy (And.intro @D_min (And.intro @D_max (And.intro @D_srange (And.intro @D_snext (And.intro @G_mov (And.intro @G_pick (And.intro @G_box (And.intro @G_build (And.intro @G_mklit (And.intro @G_mkref (And.intro @G_load (And.intro @G_store (And.intro @G_nilCheck (And.intro @G_bin (And.intro @G_eql (And.intro @G_not (And.intro @G_neg (And.intro @G_conv (And.intro @G_mkfun (And.intro @G_mkmap (And.intro @G_mkslice (And.intro @G_slicev (And.intro @G_slicea (And.intro @G_faddr (And.intro @G_field (And.intro @G_iaddr (And.intro @G_index (And.intro @G_sindex (And.intro @G_lookup (And.intro @G_mapset (And.intro @G_ext (And.intro @G_len (And.intro @G_append (And.intro @G_apref (And.intro @G_copy (And.intro @G_min (And.intro @G_max (And.intro @G_srange (@G_snext)))))))))))))))))))))))))))))))))))))))))))))))))))))))))))))))))))))))))
def QS := And.intro @S_mapL (And.intro @S_ints (And.intro @S_app (And.intro @S_mapI (And.intro @S_mapS (And.intro @S_int (And.intro @S_bool (And.intro @S_str (And.intro @S_nilPtr (And.intro @S_nilFunc (And.intro @S_ptr (And.intro @S_map (And.intro @S_nil (And.intro @S_cons (And.intro @S_tuple (And.intro @S_agg (And.intro @S_lit0 (And.intro @S_lit1 (And.intro @S_func (And.intro @O_map (@O_bind))))))))))))))))))))
def QR := And.intro @D_readsN (And.intro @D_readsC (And.intro @D_readN (@D_readC)))
def QT := And.intro @T_sr (And.intro @T_sr0 (And.intro @T_e0 (And.intro @T_e1 (And.intro @T_s0 (And.intro @T_s1 (And.intro @T_s2 (And.intro @T_w0 (And.intro @T_w1 (@q_get)))))))))
variable {T : FuncId → Option AFunc}
mutual
theorem okV_up {m : Nat} : ∀ v, okV 0 v → okV m v
 | .func _ first cap, h => ⟨okVs_up first h.1, okVs_up cap h.2⟩
 | .lptr xs _ _ tk, h => ⟨fun t e => absurd (h.1 t e) (by omega), okVs_up xs h.2⟩
 | .lit xs _ tk, h => ⟨fun t e => absurd (h.1 t e) (by omega), okVs_up xs h.2⟩
 | .agg cs, h => okVs_up cs h
 | .tuple vs, h => okVs_up vs h
 | .yield _, h | .ptr _ _, h | .ref _ _ _ _, h | .map _, h => absurd h (by simp [okV])
 | .undef, _ | .int _ _, _ | .bool _, _ | .str _, _ | .nilFunc, _ | .nilPtr, _ | .nilMap, _ => trivial
theorem okVs_up {m : Nat} : ∀ vs, okVs 0 vs → okVs m vs
 | [], _ => trivial
 | v :: vs, h => ⟨okV_up v h.1, okVs_up vs h.2⟩
end
theorem S_refK {σ : St} {m d id off len sz : Nat} (h : id < m) : snapM σ m d (.ref id off len sz) = some (.ref id off len sz) := by
 cases d <;> simp [snapM, snap, h, clr]
theorem okVs_app {m : Nat} : ∀ {xs ys : List AV}, okVs m xs → okVs m ys → okVs m (xs ++ ys)
 | [], _, _, h => h
 | x :: xs, ys, h, h2 => ⟨h.1, okVs_app h.2 h2⟩
end Go.Am
namespace Go.Am
theorem ints_def (l : List Int) : ints l = .lit (l.map (.int .i64)) false none := by simp only [ints]
theorem strs_def (l : List ByteArray) : strs l = .lit (l.map .str) false none := by simp only [strs]
def QC := And.intro @and_self (And.intro @and_true (And.intro @true_and (And.intro @true_or (And.intro @or_true (And.intro @ints_def (And.intro @strs_def (And.intro @decide_true (And.intro @decide_false (And.intro @Nat.lt_irrefl (And.intro @Nat.le_refl (And.intro @List.length_cons.{0} (And.intro @List.length_nil.{0} (And.intro @List.cons_append.{0} (And.intro @List.nil_append.{0} (And.intro @List.append_nil.{0} (And.intro @List.getElem?_cons_zero.{0} (And.intro @List.getElem?_cons_succ.{0} (And.intro @List.take_zero.{0} (And.intro @List.drop_zero.{0} (And.intro @List.take_succ_cons.{0} (And.intro @List.drop_succ_cons.{0} (And.intro @List.take_nil.{0} (And.intro @List.drop_nil.{0} (And.intro @List.set_cons_zero.{0} (And.intro @List.set_cons_succ.{0} (And.intro @List.length_map.{0, 0} (And.intro @Bool.and_true (And.intro @Bool.true_and (And.intro @Bool.and_self (And.intro @Bool.not_true (And.intro @Bool.not_false (And.intro @beq_self_eq_true.{0} (And.intro @Nat.zero_add (And.intro @implies_true.{0} (And.intro @implies_true.{1} (And.intro @forall_const.{0} (And.intro @forall_const.{1} (And.intro @ne_eq.{1} (And.intro @not_false_eq_true (@not_true_eq_false))))))))))))))))))))))))))))))))))))))))
def QA := And.intro QP QD
def QB := And.intro QR (And.intro QV (And.intro QS QC))
def QE := And.intro QT (And.intro QS (And.intro @q_get (And.intro @List.length_append.{0} (And.intro @Nat.le_add_right QC))))
class Dat (v : AV) : Prop where
 h : Data v
class Dats (vs : List AV) : Prop where
 h : Datas vs
theorem dd {vs : List AV} [k : Dats vs] : Datas vs := k.h
instance : Dats [] := ⟨datas_nil⟩
instance {v : AV} {vs : List AV} [a : Dat v] [b : Dats vs] : Dats (v :: vs) := ⟨datas_cons a.h b.h⟩
instance (k : IntKind) (n : Int) : Dat (.int k n) := ⟨data_int k n⟩
instance (b : Bool) : Dat (.bool b) := ⟨data_bool b⟩
instance (s : ByteArray) : Dat (.str s) := ⟨data_str s⟩
instance (l : List Int) : Dat (ints l) := ⟨data_ints l⟩
instance (l : List ByteArray) : Dat (strs l) := ⟨data_strs l⟩
instance (s : Span) : Dat (encSpan s) := ⟨data_span s⟩
instance {cs : List AV} [a : Dats cs] : Dat (.agg cs) := ⟨data_agg a.h⟩
instance {cs : List AV} [a : Dats cs] : Dat (.tuple cs) := ⟨data_tuple a.h⟩
instance {cs : List AV} [a : Dats cs] : Dat (.lit cs false none) := ⟨data_lit a.h⟩
instance (k : IntKind) (l : List Int) : Dats (l.map (.int k)) := ⟨datas_map (data_int k) l⟩
end Go.Am
namespace Go.Am.Room
def inR (n lo hi : Int) : Bool := decide (lo ≤ n) && decide (n ≤ hi)
def ends (s : Span) (lo hi : Int) : Int := if !inR s.lo lo hi || !inR s.hi lo hi then 7 else if s.hi < s.lo then 2 else 0
def join (s : Span) (n : Int) : Span := ⟨min s.lo n, max s.hi n⟩
def less : List Int → List Int → Bool
 | _, [] => false
 | [], _ :: _ => true
 | a :: az, b :: bs => if a = b then less az bs else decide (a < b)
theorem less_step {a b : List Int} {k : Nat} (ha : k < a.length) (hb : k < b.length) (h : a[k] = b[k]) : less (a.drop (k + 1)) (b.drop (k + 1)) = less (a.drop k) (b.drop k) := by
 rw [List.drop_eq_getElem_cons ha, List.drop_eq_getElem_cons hb]; simp [less, h]
theorem less_ok (a b : List Int) (ha : a.length < 9223372036854775808) (hb : b.length < 9223372036854775808) : Pure T 68 [ints a, ints b] (.bool (less a b)) := by
 refine pure_fn (af := a68) rfl (by simp [a68]) dd ?_
 (repeat (first | simp only [↓QA, QB, Nat.reduceLT, reduceIte, Nat.reduceEqDiff, Nat.reduceAdd, Nat.reduceLeDiff, Nat.reduceMul, Nat.reduceBEq, a68] | refine rd0 rfl ?_))
 refine loopE (S := Nat) 0 (fun k => k ≤ a.length ∧ k ≤ b.length ∧ less (a.drop k) (b.drop k) = less a b) (fun k => a.length - k) (fun k => [(0, ints a), (1, ints b), (5, .int .i64 k)]) (fun _ => []) ⟨Nat.zero_le _, Nat.zero_le _, rfl⟩ rfl ?_ fun k hk => ?_
 ·try simp only [TrimX, QE, Nat.reduceLT, reduceIte, Nat.reduceEqDiff, Nat.reduceAdd, Nat.reduceLeDiff, Nat.reduceMul, Nat.reduceBEq]
  try simp
 ·obtain ⟨hka, hkb, hl⟩ := hk
  (repeat (first | simp only [↓QA, QB, Nat.reduceLT, reduceIte, Nat.reduceEqDiff, Nat.reduceAdd, Nat.reduceLeDiff, Nat.reduceMul, Nat.reduceBEq, L68_0] | refine rd0 rfl ?_))
  by_cases h1 : k < a.length
  ·have g1 : decide ((k : Int) < a.length) = true := by simpa using h1
   by_cases h2 : k < b.length
   ·have g2 : decide ((k : Int) < b.length) = true := by simpa using h2
    (repeat (first | simp only [↓QA, QB, Nat.reduceLT, reduceIte, Nat.reduceEqDiff, Nat.reduceAdd, Nat.reduceLeDiff, Nat.reduceMul, Nat.reduceBEq, g1, g2, h1, h2] | refine rd0 rfl ?_))
    refine iteP_intro (fun h3 => ?_) fun h3 => ?_
    ·have h3' : a[k] = b[k] := by simpa using h3
     (repeat (first | simp only [↓QA, QB, Nat.reduceLT, reduceIte, Nat.reduceEqDiff, Nat.reduceAdd, Nat.reduceLeDiff, Nat.reduceMul, Nat.reduceBEq, h3] | refine rd0 rfl ?_))
     refine ⟨k + 1, ⟨by omega, by omega, (less_step h1 h2 h3').trans hl⟩, by omega, ?_⟩
     try simp only [TrimX, QE, Nat.reduceLT, reduceIte, Nat.reduceEqDiff, Nat.reduceAdd, Nat.reduceLeDiff, Nat.reduceMul, Nat.reduceBEq, wrapN h1 ha]
    ·have h3' : a[k] ≠ b[k] := by simpa using h3
     have e1 : ((k : Int) == b.length) = false := by simp; omega
     have e2 : ((k : Int) == a.length) = false := by simp; omega
     (repeat (first | simp only [↓QA, QB, Nat.reduceLT, reduceIte, Nat.reduceEqDiff, Nat.reduceAdd, Nat.reduceLeDiff, Nat.reduceMul, Nat.reduceBEq, h3, e1, e2, h1, h2] | refine rd0 rfl ?_))
     rw [← hl, List.drop_eq_getElem_cons h1, List.drop_eq_getElem_cons h2]
     simp [less, h3']
   ·have hkb' : k = b.length := by omega
    have g2 : decide ((k : Int) < b.length) = false := by simp; omega
    have e1 : ((k : Int) == b.length) = true := by simp; omega
    (repeat (first | simp only [↓QA, QB, Nat.reduceLT, reduceIte, Nat.reduceEqDiff, Nat.reduceAdd, Nat.reduceLeDiff, Nat.reduceMul, Nat.reduceBEq, g1, g2, e1] | refine rd0 rfl ?_))
    rw [← hl, hkb', List.drop_length]
    cases List.drop b.length a <;> simp [less]
  ·have g1 : decide ((k : Int) < a.length) = false := by simp; omega
   have e2 : ((k : Int) == a.length) = true := by simp; omega
   have hka' : k = a.length := by omega
   (repeat (first | simp only [↓QA, QB, Nat.reduceLT, reduceIte, Nat.reduceEqDiff, Nat.reduceAdd, Nat.reduceLeDiff, Nat.reduceMul, Nat.reduceBEq, g1] | refine rd0 rfl ?_))
   refine iteP_intro (fun h3 => ?_) fun h3 => ?_
   ·have h3' : k = b.length := by simp at h3; omega
    (repeat (first | simp only [↓QA, QB, Nat.reduceLT, reduceIte, Nat.reduceEqDiff, Nat.reduceAdd, Nat.reduceLeDiff, Nat.reduceMul, Nat.reduceBEq] | refine rd0 rfl ?_))
    rw [← hl, h3', List.drop_length]
    cases List.drop b.length a <;> simp [less]
   ·have h3' : k < b.length := by simp at h3; omega
    (repeat (first | simp only [↓QA, QB, Nat.reduceLT, reduceIte, Nat.reduceEqDiff, Nat.reduceAdd, Nat.reduceLeDiff, Nat.reduceMul, Nat.reduceBEq, h3, e2] | refine rd0 rfl ?_))
    rw [← hl, hka', List.drop_length, List.drop_eq_getElem_cons (by omega)]
    simp [less]
theorem less_irr : ∀ a, less a a = false
 | [] => rfl
 | a :: az => by simp [less, less_irr az]
theorem less_tri : ∀ a b, less a b = false → less b a = false → a = b
 | [], [], _, _ => rfl
 | [], b :: bs, h, _ => by simp [less] at h
 | a :: az, [], _, h => by simp [less] at h
 | a :: az, b :: bs, h1, h2 => by
  by_cases hab : a = b
  ·subst hab
   simp [less] at h1 h2
   rw [less_tri az bs h1 h2]
  ·simp [less, hab, Ne.symm hab] at h1 h2
   omega
theorem ints_ok (a b : List Int) (ha : a.length < 9223372036854775808) (hb : b.length < 9223372036854775808) : Pure T 23 [ints a, ints b] (.bool (decide (a = b))) := by
 refine pure_fn (af := a23) rfl (by simp [a23]) dd ?_
 (repeat (first | simp only [↓QA, QB, Nat.reduceLT, reduceIte, Nat.reduceEqDiff, Nat.reduceAdd, Nat.reduceLeDiff, Nat.reduceMul, Nat.reduceBEq, a23] | refine rd0 rfl ?_))
 refine iteP_intro (fun h => ?_) fun h => ?_
 ·(repeat (first | simp only [↓QA, QB, Nat.reduceLT, reduceIte, Nat.reduceEqDiff, Nat.reduceAdd, Nat.reduceLeDiff, Nat.reduceMul, Nat.reduceBEq, h] | refine rd0 rfl ?_))
  refine callK_d (less_ok a b ha hb) rfl dd ?_
  (repeat (first | simp only [↓QA, QB, Nat.reduceLT, reduceIte, Nat.reduceEqDiff, Nat.reduceAdd, Nat.reduceLeDiff, Nat.reduceMul, Nat.reduceBEq, h] | refine rd0 rfl ?_))
  cases h1 : less a b
  ·(repeat (first | simp only [↓QA, QB, Nat.reduceLT, reduceIte, Nat.reduceEqDiff, Nat.reduceAdd, Nat.reduceLeDiff, Nat.reduceMul, Nat.reduceBEq, h] | refine rd0 rfl ?_))
   refine callK_d (less_ok b a hb ha) rfl dd ?_
   (repeat (first | simp only [↓QA, QB, Nat.reduceLT, reduceIte, Nat.reduceEqDiff, Nat.reduceAdd, Nat.reduceLeDiff, Nat.reduceMul, Nat.reduceBEq, h] | refine rd0 rfl ?_))
   cases h2 : less b a
   ·rw [less_tri a b h1 h2]; simp
   ·have : a ≠ b := by rintro rfl; rw [less_irr] at h2; cases h2
    simp [this]
  ·have : a ≠ b := by rintro rfl; rw [less_irr] at h1; cases h1
   (repeat (first | simp only [↓QA, QB, Nat.reduceLT, reduceIte, Nat.reduceEqDiff, Nat.reduceAdd, Nat.reduceLeDiff, Nat.reduceMul, Nat.reduceBEq, h] | refine rd0 rfl ?_))
   simp [this]
 ·have : a ≠ b := by rintro rfl; simp at h
  (repeat (first | simp only [↓QA, QB, Nat.reduceLT, reduceIte, Nat.reduceEqDiff, Nat.reduceAdd, Nat.reduceLeDiff, Nat.reduceMul, Nat.reduceBEq, h] | refine rd0 rfl ?_))
  simp [this]
def fewer (a b : List Int) : Bool := if a.length = b.length then less a b else decide (a.length < b.length)
theorem str_beq (a b : ByteArray) : (a.toList == b.toList) = decide (a = b) := by
 rw [Bool.eq_iff_iff]; simp
 constructor
 ·intro h; rw [Go.Lib.toList_data, Go.Lib.toList_data] at h; exact ByteArray.ext (Array.toList_inj.1 h)
 ·rintro rfl; rfl
def ahead (s : ByteArray) : List ByteArray → Nat
 | [] => 0
 | x :: xs => if x = s then 0 else ahead s xs + 1
def okByte (i : Nat) (b : Int) : Bool := inR b 97 122 || (decide (0 < i) && (b == 46 || inR b 48 57))
def okUpTo (s : ByteArray) : Nat → Bool
 | 0 => true
 | k + 1 => okUpTo s k && okByte k (byteAt s k)
def nameOk (s : ByteArray) : Bool := inR s.size 1 16 && okUpTo s s.size
def fresh (s : ByteArray) (before : List ByteArray) : Int := if nameOk s = false then 6 else if ahead s before = before.length then 0 else 5
def numbers (a : Int) : Nat → List Int
 | 0 => []
 | n + 1 => a :: numbers (a + 1) n
theorem numbers_len : ∀ n a, (numbers a n).length = n
 | 0, _ => rfl
 | n + 1, a => by simp [numbers, numbers_len n]
theorem numbers_mem : ∀ n a x, x ∈ numbers a n ↔ a ≤ x ∧ x < a + n
 | 0, a, x => by simp [numbers]
 | n + 1, a, x => by simp [numbers, numbers_mem n]; omega
def least (i : Nat) (c : List Int) : Int := if 0 < i then (c[i - 1]?).getD 0 + 1 else 0
def nexts (below i : Nat) (c : List Int) : List (List Int) := (numbers (least i c) ((below : Int) - least i c).toNat).map fun n => c ++ [n]
def choices (below : Nat) : Nat → List (List Int)
 | 0 => [[]]
 | i + 1 => (choices below i).flatMap (nexts below i)
theorem choices_spec (below : Nat) : ∀ i c, c ∈ choices below i → c.length = i ∧ ∀ x ∈ c, 0 ≤ x ∧ x < below
 | 0, c, h => by simp [choices] at h; subst h; simp
 | i + 1, c, h => by
  simp only [choices, List.mem_flatMap] at h
  obtain ⟨d, h1, h2⟩ := h
  obtain ⟨q1, q2⟩ := choices_spec below i d h1
  simp only [nexts, List.mem_map, numbers_mem] at h2
  obtain ⟨n, h3, rfl⟩ := h2
  refine ⟨by simp [q1], fun x hx => ?_⟩
  rcases List.mem_append.1 hx with hx | hx
  ·exact q2 x hx
  ·simp at hx
   subst hx
   have : 0 ≤ least i d := by
    unfold least
    split
    ·rename_i hi
     have hlt : i - 1 < d.length := by omega
     have := q2 d[i - 1] (List.getElem_mem hlt)
     simp [hlt]
     omega
    ·omega
   omega
theorem allCells_int (l : List Int) : allCells 1 (l.map (.int .i64)) = true := L_allM 1 _ l fun x => C_int _ _
theorem less_trans : ∀ {a b c : List Int}, less a b = true → less b c = true → less a c = true
 | a, b, [], h1, h2 => by cases b <;> simp [less] at h2
 | a, [], c :: cs, h1, h2 => by cases a <;> simp [less] at h1
 | [], b :: bs, c :: cs, h1, h2 => by simp [less]
 | a :: az, b :: bs, c :: cs, h1, h2 => by
  simp only [less] at *
  by_cases hab : a = b
  ·subst hab
   by_cases hac : a = c
   ·subst hac
    simp only [if_true] at *
    exact less_trans h1 h2
   ·simp only [hac, if_false, if_true] at *
    exact h2
  ·by_cases hbc : b = c
   ·subst hbc
    simp only [hab, if_false, if_true, decide_eq_true_eq] at *
    exact h1
   ·simp only [hab, hbc, if_false, decide_eq_true_eq] at *
    rw [if_neg (by omega)]
    simp; omega
theorem fewer_irr (a : List Int) : fewer a a = false := by simp [fewer, less_irr]
theorem fewer_trans {a b c : List Int} (h1 : fewer a b = true) (h2 : fewer b c = true) : fewer a c = true := by
 simp only [fewer] at *
 by_cases e1 : a.length = b.length <;> by_cases e2 : b.length = c.length
 ·simp only [e1, e2, if_true] at *; exact less_trans h1 h2
 ·simp only [e1, e2, if_true, if_false, decide_eq_true_eq] at *; exact h2
 ·rw [if_neg e1] at h1; rw [if_neg (by omega)]; simp at h1 ⊢; omega
 ·simp only [e1, e2, if_false, decide_eq_true_eq] at *
  rw [if_neg (by omega)]; simp; omega
theorem fewer_tri {a b : List Int} (h1 : fewer a b = false) (h2 : fewer b a = false) : a = b := by
 simp only [fewer] at *
 by_cases e1 : a.length = b.length
 ·simp only [e1, if_true] at *
  exact less_tri a b h1 h2
 ·rw [if_neg e1] at h1; rw [if_neg (Ne.symm e1)] at h2
  simp at h1 h2; omega
theorem nfewer_trans {a b c : List Int} (h1 : fewer b a = false) (h2 : fewer c b = false) : fewer c a = false := by
 rw [Bool.eq_false_iff]
 intro h
 by_cases hab : fewer a b = true
 ·rw [fewer_trans h hab] at h2; cases h2
 ·have := fewer_tri (by simpa using hab) h1
  subst this
  rw [h] at h2; cases h2
def lst (n s : Nat) : List Int := (numbers 0 n).filter fun i => decide (s / 2 ^ i.toNat % 2 = 1)
theorem lst_in : ∀ n : Fin 7, ∀ s : Fin 64, s.val < 2 ^ n.val → lst n s ∈ choices n (lst n s).length := by decide +kernel
theorem in_lst : ∀ n m : Fin 7, ∀ c ∈ choices n m, ∃ s : Fin 64, s.val < 2 ^ n.val ∧ lst n s = c := by decide +kernel
theorem choices_sorted : ∀ n m : Fin 7, (choices n m).Pairwise fun a b => less a b = true := by decide +kernel
theorem choices_one : ∀ n : Fin 7, (choices n n).length = 1 := by decide +kernel
theorem lst_len (n s : Nat) : (lst n s).length ≤ n := by
 have := List.length_filter_le (fun i : Int => decide (s / 2 ^ i.toNat % 2 = 1)) (numbers 0 n)
 rw [numbers_len] at this
 exact this
def firstFrom (f : List Int → Bool) (n : Nat) : Nat → Nat → Option (List Int)
 | 0, _ => none
 | k + 1, m => match (choices n m).find? f with
  | some l => some l
  | none => firstFrom f n k (m + 1)
theorem all_contains : ∀ n : Fin 7, ∀ c ∈ choices n n, ∀ j : Fin 7, j.val < n.val → c.contains ((j.val : Nat) : Int) = true := by decide +kernel
def fewStep (f : List Int → Bool) (o : Option (List Int)) (l : List Int) : Option (List Int) := match o with
 | none => if f l = true then some l else none
 | some b => if fewer b l = true then some b else if f l = true then some l else some b
def fewFold (f : List Int → Bool) (n : Nat) : Nat → Nat → Option (List Int) → Option (List Int)
 | 0, _, o => o
 | k + 1, s, o => fewFold f n k (s + 1) (fewStep f o (lst n s))
theorem fewFold_spec (f : List Int → Bool) (n : Nat) : ∀ k s o, (∀ w, o = some w → f w = true ∧ ∃ t, t < s ∧ w = lst n t ∧ ∀ t', t' < s → f (lst n t') = true → fewer (lst n t') w = false) → (o = none → ∀ t, t < s → f (lst n t) = false) →
  (∀ w, fewFold f n k s o = some w → f w = true ∧ ∃ t, t < s + k ∧ w = lst n t ∧ ∀ t', t' < s + k → f (lst n t') = true → fewer (lst n t') w = false) ∧ (fewFold f n k s o = none → ∀ t, t < s + k → f (lst n t) = false)
 | 0, s, o, h1, h2 => ⟨h1, h2⟩
 | k + 1, s, o, h1, h2 => by
  have ih := fewFold_spec f n k (s + 1) (fewStep f o (lst n s))
  rw [show s + 1 + k = s + (k + 1) by omega] at ih
  simp only [fewFold]
  have last : ∀ (w : List Int) t', t' < s + 1 → (∀ t'', t'' < s → f (lst n t'') = true → fewer (lst n t'') w = false) → (f (lst n s) = true → fewer (lst n s) w = false) → f (lst n t') = true → fewer (lst n t') w = false := by
   intro w t' ht h3 h4 hs
   by_cases he : t' = s
   ·subst he; exact h4 hs
   ·exact h3 t' (by omega) hs
  refine ih (fun w hw => ?_) fun hn t ht => ?_
  ·cases o with
   | none =>
    simp only [fewStep] at hw
    split at hw
    ·rename_i hs
     simp only [Option.some.injEq] at hw
     subst hw
     refine ⟨hs, s, by omega, rfl, fun t' ht hst => last _ t' ht (fun t'' h4 h5 => by rw [h2 rfl t'' h4] at h5; cases h5) (fun _ => fewer_irr _) hst⟩
    ·cases hw
   | some b =>
    obtain ⟨q1, t, q2, q3, q4⟩ := h1 b rfl
    simp only [fewStep] at hw
    split at hw
    ·rename_i hf
     simp only [Option.some.injEq] at hw
     subst hw
     refine ⟨q1, t, by omega, q3, fun t' ht hst => last _ t' ht q4 (fun _ => ?_) hst⟩
     rw [Bool.eq_false_iff]
     intro h5
     have := fewer_trans hf h5
     rw [fewer_irr] at this; cases this
    ·rename_i hf
     split at hw
     ·rename_i hs
      simp only [Option.some.injEq] at hw
      subst hw
      refine ⟨hs, s, by omega, rfl, fun t' ht hst => last _ t' ht (fun t'' h4 h5 => ?_) (fun _ => fewer_irr _) hst⟩
      exact nfewer_trans (by simpa using hf) (q4 t'' h4 h5)
     ·rename_i hs
      simp only [Option.some.injEq] at hw
      subst hw
      exact ⟨q1, t, by omega, q3, fun t' ht hst => last _ t' ht q4 (fun h5 => absurd h5 hs) hst⟩
  ·cases o with
   | none =>
    simp only [fewStep] at hn
    split at hn
    ·cases hn
    ·rename_i hs
     by_cases he : t = s
     ·subst he; simpa using hs
     ·exact h2 rfl t (by omega)
   | some b =>
    simp only [fewStep] at hn
    split at hn
    ·cases hn
    ·split at hn <;> cases hn
theorem choices_le : ∀ {n i : Nat} {c : List Int}, c ∈ choices n i → i ≤ n := by
 intro n i
 cases i with
 | zero => intros; omega
 | succ i =>
  intro c hc
  simp only [choices, List.mem_flatMap, nexts, List.mem_map, numbers_mem] at hc
  obtain ⟨d, hd, x, hx, rfl⟩ := hc
  have key : ∀ j (d : List Int), d ∈ choices n j → (j : Int) ≤ least j d := by
   intro j
   induction j with
   | zero => intro d _; simp [least]
   | succ j ih =>
    intro d hd
    simp only [choices, List.mem_flatMap, nexts, List.mem_map, numbers_mem] at hd
    obtain ⟨d', hd', y, hy, rfl⟩ := hd
    have h5 := ih d' hd'
    have h6 := (choices_spec n j d' hd').1
    simp only [least, Nat.succ_pos, if_true, Nat.add_sub_cancel]
    rw [List.getElem?_append_right (by omega), h6, Nat.sub_self]
    simp only [List.getElem?_cons_zero, Option.getD_some]
    omega
  have := key i d hd
  omega
theorem firstFrom_spec (f : List Int → Bool) (n : Nat) (hN : n ≤ 6) : ∀ k m, (∀ m', m' < m → ∀ c ∈ choices n m', f c = false) →
  (∀ l, firstFrom f n k m = some l → l ∈ choices n l.length ∧ f l = true ∧ ∀ m', ∀ c ∈ choices n m', f c = true → fewer c l = false) ∧ (firstFrom f n k m = none → ∀ m', m' < m + k → ∀ c ∈ choices n m', f c = false)
 | 0, m, hlow => ⟨fun l h => by simp [firstFrom] at h, fun _ m' h c hc => hlow m' (by omega) c hc⟩
 | k + 1, m, hlow => by
  simp only [firstFrom]
  cases hf : (choices n m).find? f with
  | none =>
   simp only
   have ih := firstFrom_spec f n hN k (m + 1) fun m' hm' c hc => by
    by_cases he : m' = m
    ·subst he
     rw [List.find?_eq_none] at hf
     simpa using hf c hc
    ·exact hlow m' (by omega) c hc
   exact ⟨ih.1, fun h m' hm' => ih.2 h m' (by omega)⟩
  | some l =>
   simp only
   refine ⟨fun l' h => ?_, fun h => by cases h⟩
   cases h
   have hmem := List.mem_of_find?_eq_some hf
   have hs := List.find?_some hf
   have hlen := (choices_spec _ _ _ hmem).1
   rw [hlen]
   refine ⟨hmem, hs, fun m' c hc hsc => ?_⟩
   have hcl := (choices_spec _ _ _ hc).1
   by_cases h1 : m' < m
   ·rw [hlow m' h1 c hc] at hsc; cases hsc
   ·by_cases he : m' = m
    ·subst he
     rw [Bool.eq_false_iff]
     intro hlt
     simp only [fewer, hcl, hlen, if_true] at hlt
     obtain ⟨pre, post, e1, e2⟩ := (List.find?_eq_some_iff_append.1 hf).2
     have hmn := choices_le hmem
     have hpw := choices_sorted ⟨n, by omega⟩ ⟨m', by omega⟩
     simp only at hpw
     rw [e1] at hc hpw
     rcases List.mem_append.1 hc with hc | hc
     ·have := e2 c hc
      rw [hsc] at this; cases this
     ·rcases List.mem_cons.1 hc with rfl | hc
      ·rw [less_irr] at hlt; cases hlt
      ·have := (List.pairwise_append.1 hpw).2.1
       have := (List.pairwise_cons.1 this).1 c hc
       have h3 := less_trans hlt this
       rw [less_irr] at h3; cases h3
    ·simp only [fewer]; rw [if_neg (by omega)]; simp; omega
theorem few_eq (f : List Int → Bool) (n : Nat) (hN : n ≤ 6) : fewFold f n (2 ^ n) 0 none = firstFrom f n (n + 1) 0 := by
 have hp : 2 ^ n ≤ 2 ^ 6 := Nat.pow_le_pow_right (by omega) hN
 obtain ⟨w1, w2⟩ := firstFrom_spec f n hN (n + 1) 0 (fun m' h => by omega)
 obtain ⟨s1, s2⟩ := fewFold_spec f n (2 ^ n) 0 none (fun w h => by cases h) (fun _ t h => by omega)
 rw [Nat.zero_add] at s1 s2
 cases hf : fewFold f n (2 ^ n) 0 none with
 | none =>
  cases hg : firstFrom f n (n + 1) 0 with
  | none => rfl
  | some l =>
   obtain ⟨a, b, c⟩ := w1 l hg
   have hle := choices_le a
   obtain ⟨t, ht, hlt⟩ := in_lst ⟨n, by omega⟩ ⟨l.length, by omega⟩ l a
   have := s2 hf t.val ht
   rw [show lst n t.val = l from hlt, b] at this; cases this
 | some w =>
  obtain ⟨q1, t', q2, q3, q4⟩ := s1 w hf
  have hin := lst_in ⟨n, by omega⟩ ⟨t', by omega⟩ q2
  simp only at hin
  rw [← q3] at hin
  have hle : w.length ≤ n := by rw [q3]; exact lst_len _ _
  cases hg : firstFrom f n (n + 1) 0 with
  | none =>
   have := w2 hg w.length (by omega) w hin
   rw [q1] at this; cases this
  | some l =>
   obtain ⟨a, b, c⟩ := w1 l hg
   have hll := choices_le a
   obtain ⟨t, ht, hlt⟩ := in_lst ⟨n, by omega⟩ ⟨l.length, by omega⟩ l a
   have a1 := q4 t.val ht (by rw [show lst n t.val = l from hlt]; exact b)
   rw [show lst n t.val = l from hlt] at a1
   have a2 := c w.length w hin q1
   rw [fewer_tri a1 a2]
def firstBad {α : Type} (f : Nat → α → Int) : List α → Nat → Option (Nat × Int)
 | [], _ => none
 | x :: xs, i => if f i x = 0 then firstBad f xs (i + 1) else some (i, f i x)
theorem firstBad_step {α : Type} {f : Nat → α → Int} {l : List α} {k : Nat} (h : k < l.length) : firstBad f (l.drop k) k = if f k l[k] = 0 then firstBad f (l.drop (k + 1)) (k + 1) else some (k, f k l[k]) := by
 rw [List.drop_eq_getElem_cons h]; rfl
theorem firstBad_end {α : Type} {f : Nat → α → Int} {l : List α} {k : Nat} (h : k = l.length) : firstBad f (l.drop k) k = none := by
 rw [h, List.drop_length]; rfl
def spanL : List Int → Span
 | [] => ⟨0, 0⟩
 | x :: xs => xs.foldl join ⟨x, x⟩
def settled (yes all : Nat) : Int := if yes = all then 1 else if yes = 0 then 2 else 0
theorem inR_iff {n lo hi : Int} : inR n lo hi = true ↔ lo ≤ n ∧ n ≤ hi := by simp [inR]
theorem ends_zero {s : Span} {lo hi : Int} (h : ends s lo hi = 0) : lo ≤ s.lo ∧ s.lo ≤ s.hi ∧ s.hi ≤ hi := by
 unfold ends at h
 split at h
 ·omega
 ·rename_i h1
  split at h
  ·omega
  ·simp [inR] at h1; omega
theorem firstBad_all {α : Type} {f : Nat → α → Int} : ∀ {l : List α} {i : Nat}, firstBad f l i = none → ∀ k (h : k < l.length), f (i + k) l[k] = 0
 | [], _, _, k, h => by simp at h
 | x :: xs, i, h, k, hk => by
  simp only [firstBad] at h
  split at h
  ·rename_i h0
   cases k with
   | zero => exact h0
   | succ k =>
    have := firstBad_all h k (by simpa using hk)
    simpa [Nat.add_assoc, Nat.add_comm 1 k] using this
  ·cases h
theorem firstBad_nz {α : Type} {f : Nat → α → Int} : ∀ {l : List α} {i j : Nat} {e : Int}, firstBad f l i = some (j, e) → e ≠ 0
 | [], _, _, _, h => by cases h
 | x :: xs, i, j, e, h => by
  simp only [firstBad] at h
  split at h
  ·exact firstBad_nz h
  ·rename_i hn
   simp at h
   rw [← h.2]
   exact hn
theorem numbers_snoc : ∀ (n : Nat) (a : Int), numbers a (n + 1) = numbers a n ++ [a + n]
 | 0, a => by simp [numbers]
 | n + 1, a => by
  rw [numbers, numbers_snoc n (a + 1)]
  simp only [numbers, List.cons_append]
  congr 3
  omega
theorem filter_up {n : Nat} {bl l : List Int} (h : ∀ x : Int, 0 ≤ x → x < n → (x ∈ bl ↔ x ∈ l)) : (numbers 0 n).filter (fun h => bl.contains h) = (numbers 0 n).filter (fun h => l.contains h) := by
 refine List.filter_congr fun x hx => ?_
 have := (numbers_mem _ _ _).1 hx
 have := h x (by omega) (by omega)
 rw [Bool.eq_iff_iff]
 simpa using this
structure Kp where
 name : ByteArray
 frm : Int
structure Door where
 hour : Int
 sure : Bool
structure Look where
 lot : Int
 hour : Int
 turned : Bool
structure Voy where
 hours : Int
 delay : Span
 keepers : List Kp
 doors : List Door
 lots : Int
 looks : List Look
def encKp (k : Kp) : AV := .agg [.str k.name, .int .i64 k.frm]
theorem encKp_eq (k : Kp) : encKp k = .agg [.str k.name, .int .i64 k.frm] := by simp only [encKp]
theorem data_kp (k : Kp) : Data (encKp k) := data_agg (datas_cons (data_str _) (datas_cons (data_int _ _) datas_nil))
instance (k : Kp) : Dat (encKp k) := ⟨data_kp k⟩
def encDoor (d : Door) : AV := .agg [.int .i64 d.hour, .bool d.sure]
theorem encDoor_eq (d : Door) : encDoor d = .agg [.int .i64 d.hour, .bool d.sure] := by simp only [encDoor]
theorem data_door (d : Door) : Data (encDoor d) := data_agg (datas_cons (data_int _ _) (datas_cons (data_bool _) datas_nil))
instance (d : Door) : Dat (encDoor d) := ⟨data_door d⟩
def encLook (x : Look) : AV := .agg [.int .i64 x.lot, .int .i64 x.hour, .bool x.turned]
theorem encLook_eq (x : Look) : encLook x = .agg [.int .i64 x.lot, .int .i64 x.hour, .bool x.turned] := by simp only [encLook]
theorem data_look (x : Look) : Data (encLook x) := data_agg (datas_cons (data_int _ _) (datas_cons (data_int _ _) (datas_cons (data_bool _) datas_nil)))
instance (x : Look) : Dat (encLook x) := ⟨data_look x⟩
instance (l : List Kp) : Dats (l.map encKp) := ⟨datas_map data_kp l⟩
instance (l : List Door) : Dats (l.map encDoor) := ⟨datas_map data_door l⟩
instance (l : List Look) : Dats (l.map encLook) := ⟨datas_map data_look l⟩
def voyCells (v : Voy) : List AV := [.int .i64 v.hours, .int .i64 v.delay.lo, .int .i64 v.delay.hi, .lit (v.keepers.map encKp) false none, .lit (v.doors.map encDoor) false none, .int .i64 v.lots, .lit (v.looks.map encLook) false none]
theorem voyCells_eq (v : Voy) : voyCells v = [.int .i64 v.hours, .int .i64 v.delay.lo, .int .i64 v.delay.hi, .lit (v.keepers.map encKp) false none, .lit (v.doors.map encDoor) false none, .int .i64 v.lots, .lit (v.looks.map encLook) false none] := by simp only [voyCells]
def encVoy (v : Voy) : AV := .agg (voyCells v)
theorem encVoy_eq (v : Voy) : encVoy v = .agg (voyCells v) := by simp only [encVoy]
theorem data_voy (v : Voy) : Data (encVoy v) := data_agg (datas_cons (data_int _ _) (datas_cons (data_int _ _) (datas_cons (data_int _ _) (datas_cons (data_list data_kp _) (datas_cons (data_list data_door _) (datas_cons (data_int _ _) (datas_cons (data_list data_look _) datas_nil)))))))
instance (v : Voy) : Dat (encVoy v) := ⟨data_voy v⟩
theorem S_mapKp (σ : St) (m d : Nat) (l : List Kp) : snapMs σ m d (l.map encKp) = some (l.map encKp) := S_datas (datas_map data_kp l) σ m d
theorem S_mapDoor (σ : St) (m d : Nat) (l : List Door) : snapMs σ m d (l.map encDoor) = some (l.map encDoor) := S_datas (datas_map data_door l) σ m d
theorem S_mapLook (σ : St) (m d : Nat) (l : List Look) : snapMs σ m d (l.map encLook) = some (l.map encLook) := S_datas (datas_map data_look l) σ m d
structure Fits (v : Voy) : Prop where
 keepers : v.keepers.length < 9223372036854775808
 doors : v.doors.length < 9223372036854775808
 looks : v.looks.length < 9223372036854775808
 names : ∀ k ∈ v.keepers, k.name.size < 9223372036854775808
def frmAt (v : Voy) (i : Nat) : Int := match v.keepers[i]? with | some k => k.frm | none => 0
def kpErr2 (v : Voy) (i : Nat) : Int := if inR (frmAt v i) 0 v.hours = false then 7 else if (i = 0 ∧ frmAt v i ≠ 0) ∨ (0 < i ∧ frmAt v i ≤ frmAt v (i - 1)) then 2 else 0
def kpErr (v : Voy) (i : Nat) (k : Kp) : Int := if fresh k.name ((v.keepers.take i).map Kp.name) = 0 then kpErr2 v i else fresh k.name ((v.keepers.take i).map Kp.name)
def drErr (v : Voy) (_ : Nat) (d : Door) : Int := if inR d.hour 0 v.hours then 0 else 7
def lkErr (v : Voy) (_ : Nat) (x : Look) : Int := if inR x.lot 0 (v.lots - 1) = false then 4 else if inR x.hour 0 v.hours then 0 else 7
def check4 (v : Voy) : Int × Int × Int := if 5 < v.looks.length then (4, 0, 3) else match firstBad (lkErr v) v.looks 0 with | some (i, e) => (4, i, e) | none => (0, 0, 0)
def check3 (v : Voy) : Int × Int × Int := if 4 < v.doors.length then (3, 0, 3) else match firstBad (drErr v) v.doors 0 with | some (i, e) => (3, i, e) | none => check4 v
def check2 (v : Voy) : Int × Int × Int := if inR v.keepers.length 1 5 = false then (2, 0, 3) else match firstBad (kpErr v) v.keepers 0 with | some (i, e) => (2, i, e) | none => check3 v
def check (v : Voy) : Int × Int × Int := if inR v.hours 1 24 = false ∨ ends v.delay 0 8 = 7 ∨ inR v.lots 1 3 = false then (1, 0, 7) else if ends v.delay 0 8 = 0 then check2 v else (1, 0, ends v.delay 0 8)
def grow (d : Door) (n : Nat) (l : List Int) : List (List Int) := (if d.sure then [] else [l]) ++ [l ++ [(n : Int)]]
def setsUp (v : Voy) : Nat → List (List Int)
 | 0 => [[]]
 | n + 1 => match v.doors[n]? with | some d => (setsUp v n).flatMap (grow d n) | none => setsUp v n
def setsOf (v : Voy) : List (List Int) := setsUp v v.doors.length
structure Tn where
 hour : Int
 door : Int
 deriving DecidableEq
def doorHour (v : Voy) (d : Int) : Int := match v.doors[d.toNat]? with | some x => x.hour | none => 0
def waysOf (v : Voy) (d : Int) : List Tn := (numbers v.delay.lo (v.delay.hi + 1 - v.delay.lo).toNat).filterMap fun n => if inR (doorHour v d + n) 0 v.hours then some ⟨doorHour v d + n, d⟩ else none
def allTurns (v : Voy) (op : List Int) : List Tn := ⟨-1, -1⟩ :: op.flatMap (waysOf v)
def soAt (x : Look) (at_ : Int) : Bool := x.turned == (decide (at_ ≠ -1) && decide (at_ ≤ x.hour))
def lookOk (lot : Int) (but : List Int) (t : Tn) (k : Nat) (x : Look) : Bool := !decide (x.lot = lot) || but.contains (k : Int) || soAt x t.hour
def turnOk (v : Voy) (lot : Int) (but : List Int) (t : Tn) : Bool := (List.range v.looks.length).all fun k => match v.looks[k]? with | some x => lookOk lot but t k x | none => true
def turnsOf (v : Voy) (lot : Int) (op but : List Int) : List Tn := (allTurns v op).filter (turnOk v lot but)
structure Truth where
 op : List Int
 turns : List (List Tn)
def truthOf (v : Voy) (but op : List Int) : Option Truth :=
 let l := (List.range v.lots.toNat).map fun (n : Nat) => turnsOf v (n : Int) op but
 if l.all (fun x => !x.isEmpty) then some ⟨op, l⟩ else none
def truths (v : Voy) (but : List Int) : List Truth := (setsOf v).filterMap (truthOf v but)
def someB (v : Voy) (but : List Int) : Bool := !(truths v but).isEmpty
def errAsk (v : Voy) (n : Int) : Int := if (check v).2.2 = 0 then (if inR n 0 (v.lots - 1) then 0 else 4) else (check v).2.2
def errKnown (v : Voy) (e : Int) : Int := if e = 0 then (if (truths v []).isEmpty then 8 else 0) else e
def wholeErr (v : Voy) : Int := errKnown v (check v).2.2
def lotErr (v : Voy) (n : Int) : Int := errKnown v (errAsk v n)
def turnsIn (l : List Truth) (n : Nat) : List Tn := l.flatMap fun t => (t.turns[n]?).getD []
def hoursIn (l : List Truth) (n : Nat) : List Int := ((turnsIn l n).map Tn.hour).filter fun h => decide (h ≠ -1)
def turnedOf (v : Voy) (n : Int) : Span × Int × Int :=
 if lotErr v n = 0 then (spanL (hoursIn (truths v []) n.toNat), settled (hoursIn (truths v []) n.toNat).length (turnsIn (truths v []) n.toNat).length, 0) else (⟨0, 0⟩, 0, lotErr v n)
def isCause (l : List Truth) (n : Nat) (d : Int) : Bool := (turnsIn l n).any fun t => decide (t.door = d)
def causesIn (v : Voy) (l : List Truth) (n : Nat) : List Int := (numbers 0 v.doors.length).filter (isCause l n)
def causesOf (v : Voy) (n : Int) : List Int × Int := if lotErr v n = 0 then (causesIn v (truths v []) n.toNat, 0) else ([], lotErr v n)
def keeperFrom (v : Voy) (at_ : Int) : Nat → Int
 | 0 => 0
 | k + 1 => if frmAt v k ≤ at_ then k else keeperFrom v at_ k
def keeperAt (v : Voy) (at_ : Int) : Int := keeperFrom v at_ v.keepers.length
def whoseIn (v : Voy) (ds : List Int) : List Int := (numbers 0 v.keepers.length).filter fun k => ds.any fun d => decide (keeperAt v (doorHour v d) = k)
def whoseOf (v : Voy) (n : Int) : List Int × Int := if lotErr v n = 0 then (whoseIn v (causesIn v (truths v []) n.toNat), 0) else ([], lotErr v n)
def sureOp (l : List Truth) (d : Int) : Bool := l.all fun t => t.op.contains d
def mayOp (l : List Truth) (d : Int) : Bool := l.any fun t => t.op.contains d
def openedOf (v : Voy) : List Int × List Int × Int :=
 if wholeErr v = 0 then ((numbers 0 v.doors.length).filter (sureOp (truths v [])), (numbers 0 v.doors.length).filter (mayOp (truths v [])), 0) else ([], [], wholeErr v)
def isSure (v : Voy) (d : Int) : Bool := match v.doors[d.toNat]? with | some x => x.sure | none => false
def unsure (v : Voy) (ds : List Int) : List Int := ds.filter fun d => !isSure v d
def best (a b : List Int) : List Int := if fewer b a then b else a
def fewestL (v : Voy) : List Truth → List Int
 | [] => []
 | t :: l => (l.map fun u => unsure v u.op).foldl best (unsure v t.op)
def fewestOf (v : Voy) : List Int × Int := if wholeErr v = 0 then (fewestL v (truths v []), 0) else ([], wholeErr v)
def isHour (l : List Truth) (n : Nat) (at_ : Int) : Bool := (turnsIn l n).any fun t => decide (t.hour = at_)
def canIn (v : Voy) (l : List Truth) (n : Nat) : List Int := (numbers (-1) (v.hours + 2).toNat).filter (isHour l n)
def leaves (hs : List Int) (at_ : Int) : Int := max ((hs.filter fun h => decide (h ≠ -1) && decide (h ≤ at_)).length : Int) ((hs.length : Int) - ((hs.filter fun h => decide (h ≠ -1) && decide (h ≤ at_)).length : Int))
def splitTo (hs : List Int) : Nat → Int
 | 0 => 0
 | k + 1 => if leaves hs ((k : Int) + 1) < leaves hs (splitTo hs k) then (k : Int) + 1 else splitTo hs k
def splitIn (v : Voy) (hs : List Int) : Int × Int × Int := if hs.length = 1 then (0, 0, 9) else (splitTo hs v.hours.toNat, leaves hs (splitTo hs v.hours.toNat), 0)
def splitOf (v : Voy) (n : Int) : Int × Int × Int := if lotErr v n = 0 then splitIn v (canIn v (truths v []) n.toNat) else (0, 0, lotErr v n)
def wrongL (v : Voy) : List Int := (firstFrom (someB v) v.looks.length v.looks.length 0).getD (((choices v.looks.length v.looks.length)[0]?).getD [])
def wrongOf (v : Voy) : List Int × Int := if (check v).2.2 = 0 then (wrongL v, 0) else ([], (check v).2.2)
def nmTram : ByteArray := ⟨#[116, 114, 97, 109]⟩
def nmShip : ByteArray := ⟨#[115, 104, 105, 112]⟩
def nmTrain : ByteArray := ⟨#[116, 114, 97, 105, 110]⟩
def exV (l : List Look) : Voy := ⟨12, ⟨2, 4⟩, [⟨nmTram, 0⟩, ⟨nmShip, 4⟩, ⟨nmTrain, 9⟩], [⟨2, true⟩, ⟨5, false⟩, ⟨9, true⟩], 1, l⟩
def exL : Voy := exV [⟨0, 6, false⟩, ⟨0, 10, true⟩]
def exW : Voy := exV [⟨0, 6, false⟩, ⟨0, 10, true⟩, ⟨0, 3, true⟩]
def exN : Voy := exV [⟨0, 12, false⟩]
theorem x1 : turnedOf (exV []) 0 = (⟨4, 12⟩, 0, 0) := by decide +kernel
theorem x2 : turnedOf exL 0 = (⟨7, 9⟩, 1, 0) := by decide +kernel
theorem x3 : causesOf exL 0 = ([1], 0) := by decide +kernel
theorem x4 : whoseOf exL 0 = ([1], 0) := by decide +kernel
theorem x5 : openedOf (exV []) = ([0, 2], [0, 1, 2], 0) := by decide +kernel
theorem x6 : fewestOf exL = ([1], 0) := by decide +kernel
theorem x7 : splitOf (exV []) 0 = (7, 5, 0) := by decide +kernel
theorem x8 : wrongOf exW = ([2], 0) := by decide +kernel
theorem x9 : causesOf exW 0 = ([], 8) := by decide +kernel
theorem x10 : splitOf exN 0 = (0, 0, 9) := by decide +kernel
theorem x11 : turnedOf exN 0 = (⟨0, 0⟩, 2, 0) := by decide +kernel
theorem y3 : openedOf exL = ([0, 1, 2], [0, 1, 2], 0) := by decide +kernel
structure Vd (v : Voy) : Prop where
 hours : 1 ≤ v.hours ∧ v.hours ≤ 24
 delay : 0 ≤ v.delay.lo ∧ v.delay.lo ≤ v.delay.hi ∧ v.delay.hi ≤ 8
 lots : 1 ≤ v.lots ∧ v.lots ≤ 3
 nkp : 1 ≤ v.keepers.length ∧ v.keepers.length ≤ 5
 kp : ∀ i (h : i < v.keepers.length), kpErr v i v.keepers[i] = 0
 ndr : v.doors.length ≤ 4
 dr : ∀ d ∈ v.doors, 0 ≤ d.hour ∧ d.hour ≤ v.hours
 nlk : v.looks.length ≤ 5
 lk : ∀ x ∈ v.looks, (0 ≤ x.lot ∧ x.lot < v.lots) ∧ 0 ≤ x.hour ∧ x.hour ≤ v.hours
theorem vd_of_check {v : Voy} (h : (check v).2.2 = 0) : Vd v := by
 unfold check at h
 split at h
 ·simp at h
 rename_i c1
 split at h
 case isFalse hn => exact absurd h hn
 rename_i c0
 unfold check2 at h
 split at h
 ·simp at h
 rename_i c2
 split at h
 ·rename_i i e he; exact absurd h (firstBad_nz he)
 rename_i f1
 unfold check3 at h
 split at h
 ·simp at h
 rename_i c3
 split at h
 ·rename_i i e he; exact absurd h (firstBad_nz he)
 rename_i f2
 unfold check4 at h
 split at h
 ·simp at h
 rename_i c4
 split at h
 ·rename_i i e he; exact absurd h (firstBad_nz he)
 rename_i f3
 simp only [not_or, Bool.not_eq_false] at c1 c2
 obtain ⟨d1, d2, d3⟩ := c1
 rw [inR_iff] at d1 d3 c2
 refine ⟨d1, ends_zero c0, d3, by omega, fun i hi => by simpa using firstBad_all f1 i hi, by omega, ?_, by omega, ?_⟩
 ·intro x hx
  obtain ⟨k, hk, rfl⟩ := List.getElem_of_mem hx
  have := firstBad_all f2 k hk
  unfold drErr at this
  split at this
  ·rename_i hi; exact inR_iff.1 hi
  ·omega
 ·intro x hx
  obtain ⟨k, hk, rfl⟩ := List.getElem_of_mem hx
  have := firstBad_all f3 k hk
  unfold lkErr at this
  split at this
  ·omega
  rename_i hi
  split at this
  ·rename_i hj
   rw [Bool.not_eq_false, inR_iff] at hi
   rw [inR_iff] at hj
   omega
  ·omega
theorem kp_frm {v : Voy} (h : Vd v) {i : Nat} (hi : i < v.keepers.length) : (0 ≤ frmAt v i ∧ frmAt v i ≤ v.hours) ∧ (i = 0 → frmAt v i = 0) ∧ (0 < i → frmAt v (i - 1) < frmAt v i) := by
 have := h.kp i hi
 unfold kpErr at this
 split at this
 ·unfold kpErr2 at this
  split at this
  ·omega
  ·rename_i h1
   split at this
   ·omega
   ·rename_i h2
    rw [Bool.not_eq_false, inR_iff] at h1
    refine ⟨h1, fun e => ?_, fun e => ?_⟩
    ·by_cases h3 : frmAt v i = 0
     ·exact h3
     ·exact absurd (.inl ⟨e, h3⟩) h2
    ·by_cases h3 : frmAt v i ≤ frmAt v (i - 1)
     ·exact absurd (.inr ⟨e, h3⟩) h2
     ·omega
 ·rename_i h0; exact absurd this h0
end Go.Am.Room
set_option maxRecDepth 4000
namespace Go.Am.Room
def enc3 (x : Int × Int × Int) : AV := .tuple [.int .i64 x.1, .int .i64 x.2.1, .int .i64 x.2.2]
theorem frm_at {v : Voy} {i : Nat} (hi : i < v.keepers.length) : frmAt v i = v.keepers[i].frm := by simp [frmAt, hi]
theorem append_at {σ : St} {sz b : Nat} {xs ys : List AV} {ex f : Bool} {t : Nat} {tk : Option Nat} (h : AppOk sz b xs ys) (h0 : ys.length ≠ 0) (n : Nat) (hn : n = xs.length) (ht : σ[t]? = some (.tok sz n ex)) :
  appendAV sz b σ (.lit xs false (some t)) (.lit ys f tk) = some (.lit (xs ++ ys) false (some t), σ.set t (.tok sz (n + ys.length) true)) := by
 subst hn
 exact app_tok h h0 ht
theorem T_sapp (m : Nat) : ∀ (σ a b c : St), EqS m (σ ++ a) (σ ++ b) (σ ++ c) = EqS m a b c
 | [], a, b, c => rfl
 | x :: σ, a, b, c => by simp only [List.cons_append, EqS, T_sapp m σ a b c, true_or, true_and, and_self]
theorem and1 (a : Nat) (h : a < 9223372036854775808) : Go.Am.bits .and .i64 (a : Int) 1 = ((a % 2 : Nat) : Int) := by
 have e1 : (BitVec.ofInt 64 (a : Int) &&& BitVec.ofInt 64 1).toNat = a % 2 := by
  rw [BitVec.toNat_and]
  have h1 : (BitVec.ofInt 64 (a : Int)).toNat = a := by
   rw [BitVec.toNat_ofInt]
   omega
  have h2 : (BitVec.ofInt 64 1).toNat = 1 := by decide
  rw [h1, h2, Nat.and_one_is_mod]
 show IntKind.i64.wrap (((BitVec.ofInt 64 (a : Int) &&& BitVec.ofInt 64 1).toNat : Nat) : Int) = _
 rw [e1]
 exact wrap64 ⟨by omega, by omega⟩
theorem V_and1 (a : Nat) (h : a < 9223372036854775808) : binAV .and (.int .i64 (a : Int)) (.int .i64 1) = some (.int .i64 ((a % 2 : Nat) : Int)) := by
 simp [binAV, binInt, and1 a h]
theorem V_shr (a i : Nat) (h : i ≤ 60) : binAV .shr (.int .i64 (a : Int)) (.int .i64 (i : Int)) = some (.int .i64 ((a / 2 ^ i : Nat) : Int)) := by
 have hm : Nat.min i 64 = i := Nat.min_eq_left (by omega)
 have h0 : ¬ (i : Int) < 0 := by omega
 simp only [binAV, h0, if_false, IntKind.bits, Int.toNat_natCast, hm, Option.some.injEq, AV.int.injEq, true_and]
 rw [Int.fdiv_eq_ediv_of_nonneg _ (Int.pow_nonneg (by omega))]
 norm_cast
theorem T_sapp0 (m : Nat) (σ b c : St) : EqS m σ (σ ++ b) (σ ++ c) = EqS m [] b c := by have := T_sapp m σ [] b c; rwa [List.append_nil] at this
def Does (T : FuncId → Option AFunc) (f : AV) (args : List AV) (σ : St) (v : AV) (σ' : St) : Prop := Run T (.callv f args σ) fun o => o.v = v ∧ o.σ = σ'
theorem callK_do {f : AV} {args : List AV} {v : AV} {σ σ' : St} {K : AV → St → Prop} (h : Does T f args σ v σ') (k : K v σ') : cK (K := ⟨K⟩) T f args σ := .mono h fun o ho => by rw [ho.1, ho.2]; exact k
theorem callD_do {f : AV} {args : List AV} {v : AV} {σ σ' : St} {K : AV → St → Prop} (h : Does T f args σ v σ') (k : K v σ') : cD (K := ⟨K⟩) T f args σ := ⟨v, σ', h, k⟩
theorem V_lookS (z v : AV) : vLook true z (some (some v)) = some (.tuple [v, .bool true]) := rfl
theorem V_lookN (z : AV) : vLook true z (some none) = some (.tuple [z, .bool false]) := rfl
theorem eqS_set (k : Nat) (x : ABlk) (hx : okBlk k x) : ∀ (A a b c : St) (i : Nat), EqS k (A ++ a) (A.set i x ++ b) (A.set i x ++ c) = EqS k a b c
 | [], a, b, c, i => by simp
 | y :: A, a, b, c, 0 => by
  simp only [List.set_cons_zero, List.cons_append, EqS, T_sapp, hx, or_true, true_and, and_self]
 | y :: A, a, b, c, i + 1 => by
  have := eqS_set k x hx A a b c i
  simp only [List.set_cons_succ, List.cons_append, EqS, this, true_or, true_and, and_self]
theorem C_yield (i : Nat) : cellsOk 1 (.yield i) = true := by simp [cellsOk, AV.cells, AV.cell]
theorem K_yield (i : Nat) : (AV.yield i).cells = [.yield i] := by simp [AV.cells]
theorem rK_range {f : AOpd} {g : FuncId} {first cap : List AV} {ps : List Nat} {a b : ACode} {e : Env} {σ : St} {K : KJ} {R : Out → Prop} (hf : f.ev e = .func g first cap)
  (h : Run T (.call g (first ++ [.yield σ.length] ++ cap) (σ ++ [.loop .ready none e ps a b])) R)
  (h1 : ∀ o, R o → ∃ st pend env' ps' a' b', o.σ[σ.length]? = some (.loop st pend env' ps' a' b') ∧ st ≠ .busy ∧ K pend e (o.σ.set σ.length .dead)) : rK (K := ⟨K⟩) T (.rangeFunc f ps a b) e σ := .rangeFunc hf h h1
theorem append_intT {σ : St} {l : List Int} {a : Int} {ex : Bool} {t : Nat} (hn : l.length < 100) (ht : σ[t]? = some (.tok 1 l.length ex)) : appendAV 1 8 σ (.lit (l.map (.int .i64)) false (some t)) (.lit [.int .i64 a] true none) = some (.lit ((l ++ [a]).map (.int .i64)) false (some t), σ.set t (.tok 1 (l.length + 1) true)) := by
 rw [app_tok (ex := ex) ⟨L_allM 1 _ l (fun x => C_int _ _), by simp [allCells, AV.cells, AV.cell], by simp [room]; omega, by simp [room]; omega⟩ (by simp) (by simpa using ht)]
 simp
theorem ok_datas {vs : List AV} (h : Datas vs) (m : Nat) : okVs m vs := okVs_up _ h.1
theorem ok_data {v : AV} (h : Data v) (m : Nat) : okV m v := (ok_datas (datas_cons h datas_nil) m).1
theorem foldl_join : ∀ (l : List Int) (s : Span), s.lo ≤ s.hi → (l.foldl join s).lo ≤ s.lo ∧ s.hi ≤ (l.foldl join s).hi ∧ (∀ x ∈ l, (l.foldl join s).lo ≤ x ∧ x ≤ (l.foldl join s).hi) ∧ ((l.foldl join s).lo = s.lo ∨ (l.foldl join s).lo ∈ l) ∧ ((l.foldl join s).hi = s.hi ∨ (l.foldl join s).hi ∈ l)
 | [], s, h => ⟨Int.le_refl _, Int.le_refl _, fun x hx => by simp at hx, .inl rfl, .inl rfl⟩
 | y :: l, s, h => by
  have hj : (join s y).lo ≤ (join s y).hi := by simp only [join]; omega
  obtain ⟨a, b, c, d, e⟩ := foldl_join l (join s y) hj
  simp only [List.foldl_cons]
  have h1 : (join s y).lo ≤ s.lo ∧ (join s y).lo ≤ y ∧ ((join s y).lo = s.lo ∨ (join s y).lo = y) := by simp only [join]; omega
  have h2 : s.hi ≤ (join s y).hi ∧ y ≤ (join s y).hi ∧ ((join s y).hi = s.hi ∨ (join s y).hi = y) := by simp only [join]; omega
  refine ⟨by omega, by omega, fun x hx => ?_, ?_, ?_⟩
  ·rcases List.mem_cons.1 hx with rfl | hx
   ·omega
   ·exact c x hx
  ·rcases d with d | d
   ·rcases h1.2.2 with h | h
    ·left; omega
    ·right; rw [d, h]; simp
   ·right; simp [d]
  ·rcases e with e | e
   ·rcases h2.2.2 with h | h
    ·left; omega
    ·right; rw [e, h]; simp
   ·right; simp [e]
theorem spanL_spec {l : List Int} (h : l ≠ []) : (spanL l).lo ∈ l ∧ (spanL l).hi ∈ l ∧ ∀ x ∈ l, (spanL l).lo ≤ x ∧ x ≤ (spanL l).hi := by
 cases l with
 | nil => exact absurd rfl h
 | cons x l =>
  obtain ⟨a, b, c, d, e⟩ := foldl_join l ⟨x, x⟩ (Int.le_refl _)
  simp only [spanL]
  refine ⟨?_, ?_, fun y hy => ?_⟩
  ·rcases d with d | d
   ·rw [d]; simp
   ·simp [d]
  ·rcases e with e | e
   ·rw [e]; simp
   ·simp [e]
  ·rcases List.mem_cons.1 hy with rfl | hy
   ·exact ⟨a, b⟩
   ·exact c y hy
theorem filter_len {α : Type} {p : α → Bool} {l : List α} : (l.filter p).length = l.length ↔ ∀ x ∈ l, p x = true := by
 rw [List.length_filter_eq_length_iff]
theorem settled_one {α : Type} {p : α → Bool} {l : List α} : settled (l.filter p).length l.length = 1 ↔ ∀ x ∈ l, p x = true := by
 rw [← filter_len]
 unfold settled
 split
 ·rename_i h; simp [h]
 ·rename_i h
  split
  ·simp [h]
  ·simp [h]
theorem settled_two {α : Type} {p : α → Bool} {l : List α} : settled (l.filter p).length l.length = 2 ↔ l ≠ [] ∧ ∀ x ∈ l, p x = false := by
 unfold settled
 split
 ·rename_i h
  simp only [show ¬ (1 : Int) = 2 by omega, false_iff]
  rintro ⟨h1, h2⟩
  rw [filter_len] at h
  cases l with
  | nil => exact h1 rfl
  | cons x l =>
   have a := h x (by simp)
   have b := h2 x (by simp)
   rw [a] at b; cases b
 ·rename_i h
  split
  ·rename_i h0
   simp only [true_iff]
   refine ⟨fun e => ?_, fun x hx => ?_⟩
   ·subst e; simp at h
   ·have := List.eq_nil_of_length_eq_zero h0
    rw [List.filter_eq_nil_iff] at this
    simpa using this x hx
  ·rename_i h0
   simp only [show ¬ (0 : Int) = 2 by omega, false_iff]
   rintro ⟨h1, h2⟩
   apply h0
   rw [List.length_eq_zero_iff, List.filter_eq_nil_iff]
   intro x hx
   simp [h2 x hx]
theorem settled_cases (a b : Nat) : settled a b = 0 ∨ settled a b = 1 ∨ settled a b = 2 := by
 unfold settled; split
 ·simp
 ·split <;> simp
theorem mem_truths {v : Voy} {but : List Int} {t : Truth} : t ∈ truths v but ↔ t.op ∈ setsOf v ∧ t.turns = (List.range v.lots.toNat).map (fun (n : Nat) => turnsOf v (n : Int) t.op but) ∧ ∀ n : Nat, n < v.lots.toNat → turnsOf v (n : Int) t.op but ≠ [] := by
 simp only [truths, List.mem_filterMap, truthOf]
 constructor
 ·rintro ⟨bl, hbl, h⟩
  split at h
  ·rename_i ha
   cases h
   refine ⟨hbl, rfl, fun n hn => ?_⟩
   have := List.all_eq_true.1 ha (turnsOf v (n : Int) bl but) (List.mem_map.2 ⟨n, List.mem_range.2 hn, rfl⟩)
   simpa using this
  ·cases h
 ·rintro ⟨h1, h2, h3⟩
  refine ⟨t.op, h1, ?_⟩
  rw [if_pos]
  ·rw [← h2]
  ·rw [List.all_eq_true]
   intro x hx
   obtain ⟨n, hn, rfl⟩ := List.mem_map.1 hx
   have := h3 n (List.mem_range.1 hn)
   simpa using this
theorem turns_at {v : Voy} {but : List Int} {t : Truth} (ht : t ∈ truths v but) {n : Nat} (hn : n < v.lots.toNat) : (t.turns[n]?).getD [] = turnsOf v (n : Int) t.op but := by
 rw [(mem_truths.1 ht).2.1]
 simp [hn]
theorem mem_turnsIn {v : Voy} {but : List Int} {n : Nat} (hn : n < v.lots.toNat) {w : Tn} : w ∈ turnsIn (truths v but) n ↔ ∃ t ∈ truths v but, w ∈ turnsOf v (n : Int) t.op but := by
 simp only [turnsIn, List.mem_flatMap]
 exact ⟨fun ⟨t, ht, h⟩ => ⟨t, ht, by rwa [turns_at ht hn] at h⟩, fun ⟨t, ht, h⟩ => ⟨t, ht, by rwa [turns_at ht hn]⟩⟩
theorem some_iffT {v : Voy} {but : List Int} : someB v but = true ↔ ∃ t, t ∈ truths v but := by
 simp only [someB, Bool.not_eq_true', List.isEmpty_eq_false_iff]
 exact ⟨fun h => List.exists_mem_of_ne_nil _ h, fun ⟨t, ht⟩ => List.ne_nil_of_mem ht⟩
theorem turns_ne {v : Voy} {but : List Int} (h : someB v but = true) {n : Nat} (hn : n < v.lots.toNat) : turnsIn (truths v but) n ≠ [] := by
 obtain ⟨t, ht⟩ := some_iffT.1 h
 obtain ⟨w, hw⟩ := List.exists_mem_of_ne_nil _ ((mem_truths.1 ht).2.2 n hn)
 exact List.ne_nil_of_mem ((mem_turnsIn hn).2 ⟨t, ht, hw⟩)
def SetOk (v : Voy) (n : Nat) (bl : List Int) : Prop := bl = (numbers 0 n).filter (fun h => bl.contains h) ∧ ∀ h (hh : h < v.doors.length), h < n → v.doors[h].sure = true → (h : Int) ∈ bl
theorem setok_lt {v : Voy} {n : Nat} {bl : List Int} (h : SetOk v n bl) {x : Int} (hx : x ∈ bl) : 0 ≤ x ∧ x < n := by
 rw [h.1] at hx; have hx := (List.mem_filter.1 hx).1
 have := (numbers_mem _ _ _).1 hx
 omega
theorem mem_setsUp {v : Voy} : ∀ {n : Nat} {bl : List Int}, n ≤ v.doors.length → (bl ∈ setsUp v n ↔ SetOk v n bl)
 | 0, bl, _ => by
  simp only [setsUp, List.mem_singleton, SetOk, numbers, List.filter_nil]
  exact ⟨fun h => ⟨h, fun h _ hh => absurd hh (by omega)⟩, fun h => h.1⟩
 | n + 1, bl, hn => by
  have hlt : n < v.doors.length := by omega
  simp only [setsUp, List.getElem?_eq_getElem hlt, List.mem_flatMap]
  constructor
  ·rintro ⟨l, hl, hg⟩
   have ih := (mem_setsUp (by omega)).1 hl
   have hnl : ¬ (n : Int) ∈ l := fun hx => by have := setok_lt ih hx; omega
   simp only [grow, List.mem_append] at hg
   rcases hg with hg | hg
   ·split at hg
    ·simp at hg
    ·rename_i hd
     simp at hg
     subst hg
     refine ⟨?_, fun h hh h1 => ?_⟩
     ·rw [numbers_snoc, List.filter_append]
      have : List.filter (fun h => bl.contains h) [(0 : Int) + n] = [] := by simp; exact hnl
      rw [this, List.append_nil]
      exact ih.1
     ·by_cases he : h = n
      ·subst he; exact fun h2 => absurd h2 hd
      ·exact ih.2 h hh (by omega)
   ·simp at hg
    subst hg
    refine ⟨?_, fun h hh h1 => ?_⟩
    ·rw [numbers_snoc, List.filter_append]
     have : List.filter (fun h => (l ++ [(n : Int)]).contains h) [(0 : Int) + n] = [(n : Int)] := by simp
     rw [this, filter_up (l := l) (fun x h1 h2 => by simp; omega), ← ih.1]
    ·by_cases he : h = n
     ·subst he; exact fun _ => by simp
     ·have := ih.2 h hh (by omega)
      have hne : (h : Int) ≠ n := by omega
      simpa [hne] using this
  ·intro h
   have hd := h.2 n hlt (by omega)
   refine ⟨(numbers 0 n).filter (fun x => bl.contains x), (mem_setsUp (by omega)).2 ⟨?_, fun k hk hkn h1 => ?_⟩, ?_⟩
   ·refine (filter_up fun x h1 h2 => ?_).symm
    simp only [List.mem_filter, numbers_mem, List.contains_iff_mem]
    exact ⟨fun h => h.2, fun h => ⟨by omega, h⟩⟩
   ·have := h.2 k hk (by omega) h1
    simp only [List.mem_filter, numbers_mem, List.contains_iff_mem]
    exact ⟨by omega, this⟩
   ·have e := h.1
    rw [numbers_snoc, List.filter_append] at e
    simp only [grow, List.mem_append]
    by_cases hb : (n : Int) ∈ bl
    ·right
     rw [List.mem_singleton]
     have : List.filter (fun h => bl.contains h) [(0 : Int) + n] = [(n : Int)] := by simp [hb]
     rw [this] at e
     exact e
    ·left
     rw [if_neg (fun h0 => hb (hd h0)), List.mem_singleton]
     have : List.filter (fun h => bl.contains h) [(0 : Int) + n] = [] := by simp [hb]
     rw [this, List.append_nil] at e
     exact e
theorem mem_sets {v : Voy} {bl : List Int} : bl ∈ setsOf v ↔ SetOk v v.doors.length bl := mem_setsUp (Nat.le_refl _)
def sureDs (v : Voy) : List Int := (numbers 0 v.doors.length).filter (isSure v)
theorem isSure_at {v : Voy} {h : Nat} (hh : h < v.doors.length) : isSure v (h : Int) = v.doors[h].sure := by simp [isSure, hh]
theorem sureDs_set (v : Voy) : sureDs v ∈ setsOf v := by
 refine mem_sets.2 ⟨?_, fun h hh _ hs => ?_⟩
 ·unfold sureDs
  refine List.filter_congr fun x hx => ?_
  rw [Bool.eq_iff_iff, List.contains_iff_mem, List.mem_filter]
  exact ⟨fun h => ⟨hx, h⟩, fun h => h.2⟩
 ·rw [sureDs, List.mem_filter, numbers_mem, isSure_at hh]
  exact ⟨by omega, hs⟩
theorem mem_ways {v : Voy} {d : Int} {w : Tn} : w ∈ waysOf v d ↔ w.door = d ∧ (v.delay.lo ≤ w.hour - doorHour v d ∧ w.hour - doorHour v d ≤ v.delay.hi) ∧ 0 ≤ w.hour ∧ w.hour ≤ v.hours := by
 simp only [waysOf, List.mem_filterMap, numbers_mem]
 constructor
 ·rintro ⟨n, hn, h⟩
  split at h
  ·rename_i hr
   rw [inR_iff] at hr
   cases h
   refine ⟨rfl, ?_, hr⟩
   simp only
   omega
  ·cases h
 ·rintro ⟨h1, h2, h3⟩
  refine ⟨w.hour - doorHour v d, by omega, ?_⟩
  rw [show doorHour v d + (w.hour - doorHour v d) = w.hour by omega, if_pos (inR_iff.2 h3)]
  cases w
  simp only at h1
  rw [h1]
theorem mem_all {v : Voy} {op : List Int} {w : Tn} : w ∈ allTurns v op ↔ w = ⟨-1, -1⟩ ∨ ∃ d ∈ op, w ∈ waysOf v d := by
 simp only [allTurns, List.mem_cons, List.mem_flatMap]
theorem turn_iff {v : Voy} {lot : Int} {but : List Int} {w : Tn} : turnOk v lot but w = true ↔ ∀ k (hk : k < v.looks.length), lookOk lot but w k v.looks[k] = true := by
 simp only [turnOk, List.all_eq_true, List.mem_range]
 constructor
 ·intro h1 i hi
  have := h1 i hi
  rwa [List.getElem?_eq_getElem hi] at this
 ·intro h1 i hi
  rw [List.getElem?_eq_getElem hi]
  exact h1 i hi
theorem mem_turns {v : Voy} {lot : Int} {op but : List Int} {w : Tn} : w ∈ turnsOf v lot op but ↔ w ∈ allTurns v op ∧ turnOk v lot but w = true := List.mem_filter
theorem way_cases {v : Voy} {n : Nat} {but op : List Int} (hs : op ∈ setsOf v) {w : Tn} (h : w ∈ turnsOf v (n : Int) op but) : w = ⟨-1, -1⟩ ∨ (0 ≤ w.hour ∧ w.hour ≤ v.hours ∧ 0 ≤ w.door ∧ w.door < v.doors.length ∧ w.door ∈ op) := by
 rcases mem_all.1 (mem_turns.1 h).1 with e | ⟨d, hd, hw⟩
 ·exact .inl e
 ·have a := mem_ways.1 hw
  have b := setok_lt (mem_sets.1 hs) hd
  refine .inr ⟨a.2.2.1, a.2.2.2, by omega, by omega, by rw [a.1]; exact hd⟩
theorem never_turns {v : Voy} {lot : Int} {op but : List Int} (h : turnOk v lot but ⟨-1, -1⟩ = true) : (⟨-1, -1⟩ : Tn) ∈ turnsOf v lot op but := mem_turns.2 ⟨by simp [allTurns], h⟩
theorem some_free {v : Voy} {but : List Int} (hl : ∀ (lot : Int), turnOk v lot but ⟨-1, -1⟩ = true) : someB v but = true := by
 refine some_iffT.2 ⟨⟨sureDs v, (List.range v.lots.toNat).map fun (n : Nat) => turnsOf v (n : Int) (sureDs v) but⟩, mem_truths.2 ⟨sureDs_set v, rfl, fun n hn => ?_⟩⟩
 exact List.ne_nil_of_mem (never_turns (hl n))
theorem some_full {v : Voy} (hv : Vd v) : ∀ c ∈ choices v.looks.length v.looks.length, someB v c = true := fun c hc => by
 have hl := hv.nlk
 refine some_free fun lot => turn_iff.2 fun i hi => ?_
 have := all_contains ⟨v.looks.length, by omega⟩ c hc ⟨i, by omega⟩ hi
 simp only [lookOk]
 rw [this]
 simp
theorem firstFrom_snoc (f : List Int → Bool) (n : Nat) : ∀ k m, firstFrom f n (k + 1) m = (firstFrom f n k m).or ((choices n (m + k)).find? f)
 | 0, m => by simp only [firstFrom, Nat.add_zero]; cases (choices n m).find? f <;> rfl
 | k + 1, m => by
  rw [firstFrom, firstFrom_snoc f n k (m + 1)]
  rw [show firstFrom f n (k + 1) m = (match (choices n m).find? f with | some l => some l | none => firstFrom f n k (m + 1)) from rfl]
  rw [show m + 1 + k = m + (k + 1) by omega]
  cases (choices n m).find? f <;> rfl
theorem wrong_first {v : Voy} (hv : Vd v) : firstFrom (someB v) v.looks.length (v.looks.length + 1) 0 = some (wrongL v) := by
 have hl := hv.nlk
 have h1 := choices_one ⟨v.looks.length, by omega⟩
 simp only at h1
 obtain ⟨w, hw⟩ := List.length_eq_one_iff.1 h1
 have hs := some_full hv w (by rw [hw]; simp)
 rw [firstFrom_snoc, wrongL, Nat.zero_add, hw]
 cases firstFrom (someB v) v.looks.length v.looks.length 0 with
 | some l => rfl
 | none => simp [hs]
def mor (v : Voy) (x : Look) : Voy := { v with looks := v.looks ++ [x] }
theorem mor_up (v : Voy) (x : Look) : ∀ n, setsUp (mor v x) n = setsUp v n
 | 0 => rfl
 | n + 1 => by simp only [setsUp, mor_up v x n]; rfl
theorem mor_sets (v : Voy) (x : Look) : setsOf (mor v x) = setsOf v := mor_up v x _
theorem mor_all (v : Voy) (x : Look) (op : List Int) : allTurns (mor v x) op = allTurns v op := rfl
theorem mor_ok {v : Voy} {x : Look} {lot : Int} {w : Tn} : turnOk (mor v x) lot [] w = true ↔ turnOk v lot [] w = true ∧ (x.lot = lot → soAt x w.hour = true) := by
 rw [turn_iff, turn_iff]
 constructor
 ·intro h
  refine ⟨fun k hk => ?_, fun e => ?_⟩
  ·have h1 := h k (by simp [mor]; omega)
   have e1 : (mor v x).looks[k]'(by simp [mor]; omega) = v.looks[k] := by simp only [mor]; exact List.getElem_append_left hk
   rw [e1] at h1; exact h1
  ·have h1 := h v.looks.length (by simp [mor])
   have e1 : (mor v x).looks[v.looks.length]'(by simp [mor]) = x := by simp [mor]
   rw [e1] at h1
   simpa [lookOk, e] using h1
 ·rintro ⟨h1, h2⟩ k hk
  by_cases h : k < v.looks.length
  ·have e1 : (mor v x).looks[k] = v.looks[k] := by simp only [mor]; exact List.getElem_append_left h
   rw [e1]; exact h1 k h
  ·have e0 : k = v.looks.length := by simp [mor] at hk; omega
   subst e0
   have e1 : (mor v x).looks[v.looks.length] = x := by simp [mor]
   rw [e1]
   simp only [lookOk]
   by_cases e : x.lot = lot
   ·simp [h2 e]
   ·simp [e]
theorem mor_turns {v : Voy} {x : Look} {lot : Int} {op : List Int} {w : Tn} : w ∈ turnsOf (mor v x) lot op [] ↔ w ∈ turnsOf v lot op [] ∧ (x.lot = lot → soAt x w.hour = true) := by
 rw [mem_turns, mem_turns, mor_ok, mor_all, and_assoc]
theorem mor_truth {v : Voy} {x : Look} {t : Truth} (h : t ∈ truths (mor v x) []) : ∃ u ∈ truths v [], u.op = t.op := by
 obtain ⟨h1, _, h3⟩ := mem_truths.1 h
 rw [mor_sets] at h1
 refine ⟨⟨t.op, (List.range v.lots.toNat).map fun (n : Nat) => turnsOf v (n : Int) t.op []⟩, mem_truths.2 ⟨h1, rfl, fun n hn => ?_⟩, rfl⟩
 obtain ⟨w, hw⟩ := List.exists_mem_of_ne_nil _ (h3 n hn)
 exact List.ne_nil_of_mem (mor_turns.1 hw).1
theorem mor_in {v : Voy} {x : Look} {n : Nat} (hn : n < v.lots.toNat) (hx : x.lot = (n : Int)) {w : Tn} : w ∈ turnsIn (truths (mor v x) []) n ↔ w ∈ turnsIn (truths v []) n ∧ soAt x w.hour = true := by
 rw [mem_turnsIn (v := mor v x) hn, mem_turnsIn hn]
 constructor
 ·rintro ⟨t, ht, hw⟩
  obtain ⟨u, hu, e⟩ := mor_truth ht
  have := mor_turns.1 hw
  exact ⟨⟨u, hu, by rw [e]; exact this.1⟩, this.2 hx⟩
 ·rintro ⟨⟨t, ht, hw⟩, hs⟩
  obtain ⟨h1, _, h3⟩ := mem_truths.1 ht
  have key : ∀ m : Nat, m < v.lots.toNat → turnsOf (mor v x) (m : Int) t.op [] ≠ [] := fun m hm => by
   by_cases e : m = n
   ·subst e
    exact List.ne_nil_of_mem (mor_turns.2 ⟨hw, fun _ => hs⟩)
   ·obtain ⟨z, hz⟩ := List.exists_mem_of_ne_nil _ (h3 m hm)
    exact List.ne_nil_of_mem (mor_turns.2 ⟨hz, fun e2 => absurd (hx.symm.trans e2) (by omega)⟩)
  exact ⟨⟨t.op, (List.range v.lots.toNat).map fun (m : Nat) => turnsOf (mor v x) (m : Int) t.op []⟩, mem_truths.2 ⟨by rw [mor_sets]; exact h1, rfl, key⟩, mor_turns.2 ⟨hw, fun _ => hs⟩⟩
theorem mor_some {v : Voy} {x : Look} {n : Nat} (hn : n < v.lots.toNat) (hx : x.lot = (n : Int)) : someB (mor v x) [] = true ↔ ∃ w ∈ turnsIn (truths v []) n, soAt x w.hour = true := by
 constructor
 ·intro h
  obtain ⟨w, hw⟩ := List.exists_mem_of_ne_nil _ (turns_ne (v := mor v x) h (n := n) hn)
  exact ⟨w, (mor_in hn hx).1 hw⟩
 ·rintro ⟨w, hw, hs⟩
  obtain ⟨t, ht, _⟩ := (mem_turnsIn (v := mor v x) hn).1 ((mor_in hn hx).2 ⟨hw, hs⟩)
  exact some_iffT.2 ⟨t, ht⟩
theorem way_in {v : Voy} {but : List Int} {n : Nat} (hn : n < v.lots.toNat) {w : Tn} (h : w ∈ turnsIn (truths v but) n) : w = ⟨-1, -1⟩ ∨ (0 ≤ w.hour ∧ w.hour ≤ v.hours ∧ 0 ≤ w.door ∧ w.door < v.doors.length) := by
 obtain ⟨t, ht, hw⟩ := (mem_turnsIn hn).1 h
 rcases way_cases (mem_truths.1 ht).1 hw with e | e
 ·exact .inl e
 ·exact .inr ⟨e.1, e.2.1, e.2.2.1, e.2.2.2.1⟩
theorem mem_hours {l : List Truth} {n : Nat} {h : Int} : h ∈ hoursIn l n ↔ h ≠ -1 ∧ ∃ w ∈ turnsIn l n, w.hour = h := by
 simp only [hoursIn, List.mem_filter, List.mem_map, decide_eq_true_eq]
 exact ⟨fun ⟨h1, h2⟩ => ⟨h2, h1⟩, fun ⟨h1, h2⟩ => ⟨h2, h1⟩⟩
def howIn (l : List Truth) (n : Nat) : Int := settled (hoursIn l n).length (turnsIn l n).length
theorem how_eq (l : List Truth) (n : Nat) : howIn l n = settled (((turnsIn l n).map Tn.hour).filter fun h => decide (h ≠ -1)).length ((turnsIn l n).map Tn.hour).length := by simp only [howIn, hoursIn, List.length_map]
theorem how_one {l : List Truth} {n : Nat} : howIn l n = 1 ↔ ∀ w ∈ turnsIn l n, w.hour ≠ -1 := by
 rw [how_eq, settled_one]
 simp
theorem how_two {l : List Truth} {n : Nat} : howIn l n = 2 ↔ turnsIn l n ≠ [] ∧ ∀ w ∈ turnsIn l n, w.hour = -1 := by
 rw [how_eq, settled_two]
 simp
theorem how_cases (l : List Truth) (n : Nat) : howIn l n = 0 ∨ howIn l n = 1 ∨ howIn l n = 2 := settled_cases _ _
theorem mem_causes {v : Voy} {l : List Truth} {n : Nat} {d : Int} : d ∈ causesIn v l n ↔ (0 ≤ d ∧ d < v.doors.length) ∧ ∃ w ∈ turnsIn l n, w.door = d := by
 simp only [causesIn, List.mem_filter, numbers_mem, isCause, List.any_eq_true, decide_eq_true_eq]
 exact ⟨fun ⟨h1, h2⟩ => ⟨by omega, h2⟩, fun ⟨h1, h2⟩ => ⟨by omega, h2⟩⟩
theorem keeperFrom_in (v : Voy) (a : Int) : ∀ k, 0 ≤ keeperFrom v a k ∧ (0 < k → keeperFrom v a k < k)
 | 0 => ⟨Int.le_refl _, fun h => absurd h (by omega)⟩
 | k + 1 => by
  have ih := keeperFrom_in v a k
  simp only [keeperFrom]
  split
  ·omega
  ·refine ⟨ih.1, fun _ => ?_⟩
   by_cases h : 0 < k
   ·have := ih.2 h; omega
   ·have : k = 0 := by omega
    subst this; simp [keeperFrom]
theorem keeper_in {v : Voy} (hv : Vd v) (a : Int) : 0 ≤ keeperAt v a ∧ keeperAt v a < v.keepers.length := by
 have := keeperFrom_in v a v.keepers.length
 have := hv.nkp
 exact ⟨(keeperFrom_in v a _).1, (keeperFrom_in v a _).2 (by omega)⟩
theorem soAt_true {n h a : Int} : soAt ⟨n, h, true⟩ a = true ↔ a ≠ -1 ∧ a ≤ h := by simp [soAt]
def spanIn (l : List Truth) (n : Nat) : Span := spanL (hoursIn l n)
theorem short_never {v : Voy} {n : Nat} (hn : n < v.lots.toNat) (h : howIn (truths v []) n = 2) (a : Int) : someB (mor v ⟨n, a, true⟩) [] = false ∧ spanIn (truths v []) n = ⟨0, 0⟩ := by
 obtain ⟨h1, h2⟩ := how_two.1 h
 constructor
 ·rw [Bool.eq_false_iff]
  intro hs
  obtain ⟨w, hw, h3⟩ := (mor_some hn rfl).1 hs
  exact (soAt_true.1 h3).1 (h2 w hw)
 ·have : hoursIn (truths v []) n = [] := by
   rw [List.eq_nil_iff_forall_not_mem]
   intro x hx
   obtain ⟨h3, w, hw, e⟩ := mem_hours.1 hx
   exact h3 (by rw [← e]; exact h2 w hw)
  rw [spanIn, this]; rfl
theorem mem_can {v : Voy} (hv : Vd v) {n : Nat} (hn : n < v.lots.toNat) {a : Int} : a ∈ canIn v (truths v []) n ↔ ∃ w ∈ turnsIn (truths v []) n, w.hour = a := by
 simp only [canIn, List.mem_filter, numbers_mem, isHour, List.any_eq_true, decide_eq_true_eq]
 constructor
 ·exact fun h => h.2
 ·rintro ⟨w, hw, rfl⟩
  refine ⟨?_, w, hw, rfl⟩
  rcases way_in hn hw with e | e
  ·have := hv.hours
   rw [e]; simp only; omega
  ·omega
theorem splitTo_spec (hs : List Int) : ∀ k : Nat, (0 ≤ splitTo hs k ∧ splitTo hs k ≤ k) ∧ ∀ j : Nat, j ≤ k → leaves hs (splitTo hs k) ≤ leaves hs j ∧ (leaves hs (splitTo hs k) = leaves hs j → splitTo hs k ≤ j)
 | 0 => ⟨⟨Int.le_refl _, Int.le_refl _⟩, fun j hj => by
   have : j = 0 := by omega
   subst this; simp [splitTo]⟩
 | k + 1 => by
  obtain ⟨h1, h2⟩ := splitTo_spec hs k
  simp only [splitTo]
  split
  ·rename_i hlt
   refine ⟨by omega, fun j hj => ?_⟩
   by_cases e : j = k + 1
   ·subst e; exact ⟨by simp, fun _ => by simp⟩
   ·have := h2 j (by omega)
    exact ⟨by omega, fun h => by omega⟩
  ·rename_i hlt
   refine ⟨by omega, fun j hj => ?_⟩
   by_cases e : j = k + 1
   ·subst e
    rw [show (((k + 1 : Nat)) : Int) = (k : Int) + 1 by omega]
    exact ⟨by omega, fun h => by omega⟩
   ·exact h2 j (by omega)
def toldLook (τ : Nat → Tn) (y : Look) : Look := { y with turned := decide ((τ y.lot.toNat).hour ≠ -1) && decide ((τ y.lot.toNat).hour ≤ y.hour) }
def told (v : Voy) (τ : Nat → Tn) : Voy := { v with looks := v.looks.map (toldLook τ) }
theorem ofInt_nat {a : Nat} (h : a < 9223372036854775808) : (BitVec.ofInt 64 (a : Int)).toNat = a := by
 rw [BitVec.toNat_ofInt]
 omega
theorem V_and (a b : Nat) (ha : a < 9223372036854775808) (hb : b < 9223372036854775808) : binAV .and (.int .i64 (a : Int)) (.int .i64 (b : Int)) = some (.int .i64 ((a &&& b : Nat) : Int)) := by
 have h1 : (BitVec.ofInt 64 (a : Int) &&& BitVec.ofInt 64 (b : Int)).toNat = a &&& b := by rw [BitVec.toNat_and, ofInt_nat ha, ofInt_nat hb]
 have h2 : a &&& b ≤ a := Nat.and_le_left
 have h3 : Go.Am.bits .and .i64 (a : Int) (b : Int) = ((a &&& b : Nat) : Int) := by
  show IntKind.i64.wrap (((BitVec.ofInt 64 (a : Int) &&& BitVec.ofInt 64 (b : Int)).toNat : Nat) : Int) = _
  rw [h1]
  exact wrap64 ⟨by omega, by omega⟩
 simp [binAV, binInt, h3]
theorem V_or (a b : Nat) (ha : a < 4611686018427387904) (hb : b < 4611686018427387904) : binAV .or (.int .i64 (a : Int)) (.int .i64 (b : Int)) = some (.int .i64 ((a ||| b : Nat) : Int)) := by
 have h1 : (BitVec.ofInt 64 (a : Int) ||| BitVec.ofInt 64 (b : Int)).toNat = a ||| b := by rw [BitVec.toNat_or, ofInt_nat (by omega), ofInt_nat (by omega)]
 have h2 : a ||| b < 2 ^ 62 := Nat.or_lt_two_pow (by omega) (by omega)
 have h3 : Go.Am.bits .or .i64 (a : Int) (b : Int) = ((a ||| b : Nat) : Int) := by
  show IntKind.i64.wrap (((BitVec.ofInt 64 (a : Int) ||| BitVec.ofInt 64 (b : Int)).toNat : Nat) : Int) = _
  rw [h1]
  exact wrap64 ⟨by omega, by omega⟩
 simp [binAV, binInt, h3]
def andN (a b : Nat) : Nat := a &&& (2 ^ 64 - (b + 1))
theorem andN_bit {b : Nat} (hb : b < 9223372036854775808) (a i : Nat) (ha : a < 9223372036854775808) : (andN a b).testBit i = (a.testBit i && !b.testBit i) := by
 rw [andN, Nat.testBit_and, Nat.testBit_two_pow_sub_succ (by omega)]
 by_cases hi : i < 64
 ·simp [hi]
 ·have : a.testBit i = false := Nat.testBit_lt_two_pow (Nat.lt_of_lt_of_le (show a < 2 ^ 63 by omega) (Nat.pow_le_pow_right (by omega) (by omega)))
  simp [this]
theorem andN_le (a b : Nat) : andN a b ≤ a := Nat.and_le_left
theorem V_andNot (a b : Nat) (ha : a < 9223372036854775808) (hb : b < 9223372036854775808) : binAV .andNot (.int .i64 (a : Int)) (.int .i64 (b : Int)) = some (.int .i64 ((andN a b : Nat) : Int)) := by
 have h1 : (BitVec.ofInt 64 (a : Int) &&& ~~~BitVec.ofInt 64 (b : Int)).toNat = andN a b := by
  rw [BitVec.toNat_and, BitVec.toNat_not, ofInt_nat ha, ofInt_nat hb, andN]
  congr 1
  omega
 have h2 := andN_le a b
 have h3 : Go.Am.bits .andNot .i64 (a : Int) (b : Int) = ((andN a b : Nat) : Int) := by
  show IntKind.i64.wrap (((BitVec.ofInt 64 (a : Int) &&& ~~~BitVec.ofInt 64 (b : Int)).toNat : Nat) : Int) = _
  rw [h1]
  exact wrap64 ⟨by omega, by omega⟩
 simp [binAV, binInt, h3]
theorem pow_small {i : Nat} (h : i ≤ 60) : 2 ^ i ≤ 1152921504606846976 := by
 calc 2 ^ i ≤ 2 ^ 60 := Nat.pow_le_pow_right (by omega) h
  _ = 1152921504606846976 := by decide
theorem V_shl1 (i : Nat) (h : i ≤ 60) : binAV .shl (.int .i64 1) (.int .i64 (i : Int)) = some (.int .i64 ((2 ^ i : Nat) : Int)) := by
 have hm : Nat.min i 64 = i := Nat.min_eq_left (by omega)
 have h0 : ¬ (i : Int) < 0 := by omega
 have hp := pow_small h
 have hc : (1 : Int) * 2 ^ i = ((2 ^ i : Nat) : Int) := by rw [Int.one_mul]; exact (Int.natCast_pow 2 i).symm
 simp only [binAV, h0, if_false, IntKind.bits, Int.toNat_natCast, hm, hc]
 generalize 2 ^ i = q at hp
 rw [wrap64 ⟨by omega, by omega⟩]
theorem bit_div (a i : Nat) : a.testBit i = decide (a / 2 ^ i % 2 = 1) := Nat.testBit_eq_decide_div_mod_eq
theorem mem_lst {n s : Nat} {x : Int} : x ∈ lst n s ↔ (0 ≤ x ∧ x < n) ∧ s.testBit x.toNat = true := by
 simp only [lst, List.mem_filter, numbers_mem, bit_div]
 constructor
 ·rintro ⟨h1, h2⟩; exact ⟨by omega, h2⟩
 ·rintro ⟨h1, h2⟩; exact ⟨by omega, h2⟩
theorem has_lst {n s i : Nat} (h : i < n) : (lst n s).contains (i : Int) = s.testBit i := by
 rw [Bool.eq_iff_iff, List.contains_iff_mem, mem_lst]
 simp only [Int.toNat_natCast]
 constructor
 ·rintro ⟨_, h2⟩; exact h2
 ·intro h2; exact ⟨⟨by omega, by omega⟩, h2⟩
theorem lst_succ (n s : Nat) : lst (n + 1) s = lst n s ++ (if s.testBit n = true then [(n : Int)] else []) := by
 simp only [lst, numbers_snoc, List.filter_append, Int.zero_add]
 congr 1
 simp only [List.filter_cons, List.filter_nil, Int.toNat_natCast, bit_div]
theorem lst_low {n s t : Nat} (h : ∀ i, i < n → s.testBit i = t.testBit i) : lst n s = lst n t := by
 simp only [lst]
 refine List.filter_congr fun x hx => ?_
 have := (numbers_mem _ _ _).1 hx
 rw [← bit_div, ← bit_div, h x.toNat (by omega)]
theorem lst_skip {n s : Nat} (h : s < 2 ^ n) : lst (n + 1) s = lst n s := by
 rw [lst_succ, Nat.testBit_lt_two_pow h]
 simp
theorem lst_take {n s : Nat} (h : s < 2 ^ n) : lst (n + 1) (s ||| 2 ^ n) = lst n s ++ [(n : Int)] := by
 rw [lst_succ, lst_low (t := s)]
 ·simp [Nat.testBit_or, Nat.testBit_two_pow_self]
 ·intro i hi
  rw [Nat.testBit_or, Nat.testBit_two_pow_of_ne (by omega), Bool.or_false]
theorem nat_eq0 (a : Nat) : ((a : Int) == 0) = decide (a = 0) := by rw [Bool.eq_iff_iff]; simp
structure ButIs (b : Nat) (bl : List Int) : Prop where
 lt : b < 9223372036854775808
 bit : ∀ i : Nat, i < 5 → (((b / 2 ^ i % 2 : Nat) : Int) == 0) = !bl.contains (i : Int)
theorem but0 : ButIs 0 [] := ⟨by omega, fun i hi => by simp⟩
theorem but_lst {n set : Nat} (hn : n ≤ 5) (hs : set < 2 ^ n) : ButIs set (lst n set) := by
 have hp : 2 ^ n ≤ 2 ^ 5 := Nat.pow_le_pow_right (by omega) hn
 refine ⟨by omega, fun i hi => ?_⟩
 have e : (((set / 2 ^ i % 2 : Nat) : Int) == 0) = !set.testBit i := by
  rw [bit_div, nat_eq0, Bool.eq_iff_iff]
  simp
 rw [e]
 by_cases h : i < n
 ·rw [has_lst h]
 ·have h1 : set.testBit i = false := Nat.testBit_lt_two_pow (Nat.lt_of_lt_of_le hs (Nat.pow_le_pow_right (by omega) (by omega)))
  have h2 : (lst n set).contains (i : Int) = false := by
   rw [Bool.eq_false_iff]
   intro hc
   rw [List.contains_iff_mem, mem_lst] at hc
   omega
  rw [h1, h2]
def nextL : List Door → Nat → Nat → List Nat
 | [], _, set => [set]
 | x :: xs, h, set => (if x.sure = true then [] else nextL xs (h + 1) set) ++ nextL xs (h + 1) (set ||| 2 ^ h)
theorem nextL_lt : ∀ (xs : List Door) (h set : Nat), set < 2 ^ h → ∀ a ∈ nextL xs h set, a < 2 ^ (h + xs.length)
 | [], h, set, hs, a, ha => by simp [nextL] at ha; subst ha; simpa using hs
 | x :: xs, h, set, hs, a, ha => by
  simp only [nextL, List.mem_append] at ha
  have e : h + (x :: xs).length = (h + 1) + xs.length := by simp; omega
  have h1 : set < 2 ^ (h + 1) := by rw [Nat.pow_succ]; omega
  have h2 : set ||| 2 ^ h < 2 ^ (h + 1) := Nat.or_lt_two_pow h1 (by rw [Nat.pow_succ]; have := Nat.two_pow_pos h; omega)
  rw [e]
  rcases ha with ha | ha
  ·split at ha
   ·simp at ha
   ·exact nextL_lt xs (h + 1) set h1 a ha
  ·exact nextL_lt xs (h + 1) _ h2 a ha
theorem next_lt {v : Voy} (hv : Vd v) : ∀ a ∈ nextL v.doors 0 0, a < 16 ∧ a < 2 ^ v.doors.length := by
 intro a ha
 have := nextL_lt v.doors 0 0 (by simp) a ha
 rw [Nat.zero_add] at this
 have hno := hv.ndr
 exact ⟨Nat.lt_of_lt_of_le this (show 2 ^ v.doors.length ≤ 2 ^ 4 from Nat.pow_le_pow_right (by omega) hno), this⟩
def goL : List Door → Nat → List Int → List (List Int)
 | [], _, l => [l]
 | x :: xs, h, l => (grow x h l).flatMap (goL xs (h + 1))
theorem setsUp_succ {v : Voy} {h : Nat} (hh : h < v.doors.length) : setsUp v (h + 1) = (setsUp v h).flatMap (grow v.doors[h] h) := by
 simp only [setsUp, List.getElem?_eq_getElem hh]
theorem goL_sets (v : Voy) : ∀ (k h : Nat), h + k = v.doors.length → (setsUp v h).flatMap (goL (v.doors.drop h) h) = setsOf v
 | 0, h, hk => by
  have hh : h = v.doors.length := by omega
  rw [hh, List.drop_length]
  have : goL [] v.doors.length = fun l => [l] := by funext l; rfl
  rw [this]
  simp [setsOf]
 | k + 1, h, hk => by
  have hh : h < v.doors.length := by omega
  rw [← goL_sets v k (h + 1) (by omega), setsUp_succ hh, List.flatMap_assoc, List.drop_eq_getElem_cons hh]
  rfl
theorem goL_next : ∀ (xs : List Door) (h set : Nat), set < 2 ^ h → goL xs h (lst h set) = (nextL xs h set).map (lst (h + xs.length))
 | [], h, set, hs => by simp [goL, nextL]
 | x :: xs, h, set, hs => by
  have h1 : set < 2 ^ (h + 1) := by rw [Nat.pow_succ]; omega
  have h2 : set ||| 2 ^ h < 2 ^ (h + 1) := Nat.or_lt_two_pow h1 (by rw [Nat.pow_succ]; have := Nat.two_pow_pos h; omega)
  have i1 := goL_next xs (h + 1) set h1
  have i2 := goL_next xs (h + 1) (set ||| 2 ^ h) h2
  rw [lst_skip hs] at i1
  rw [lst_take hs] at i2
  have e : h + (x :: xs).length = h + 1 + xs.length := by simp; omega
  rw [e]
  simp only [goL, grow, nextL, List.flatMap_append, List.map_append]
  congr 1
  ·split
   ·rfl
   ·simp [i1]
  ·simp [i2]
theorem sets_next (v : Voy) : setsOf v = (nextL v.doors 0 0).map (lst v.doors.length) := by
 rw [← goL_sets v v.doors.length 0 (by omega), List.drop_zero]
 have := goL_next v.doors 0 0 (by simp)
 rw [Nat.zero_add] at this
 rw [← this]
 simp [setsUp, lst, numbers]
def hAt (i : Nat) : Int := if i = 25 then -1 else (i : Int)
def opensAt (v : Voy) (op d i : Nat) : Bool := op.testBit d && inR ((i : Int) - doorHour v d) v.delay.lo v.delay.hi && decide ((i : Int) ≤ v.hours)
def rawN (v : Voy) (op : Nat) : Nat → Nat → Nat
 | 0, i => if i = 25 then 16 else 0
 | d + 1, i => rawN v op d i ||| (if opensAt v op d i = true then 2 ^ d else 0)
theorem rawN_bit (v : Voy) (op i : Nat) : ∀ (k d : Nat), (rawN v op k i).testBit d = ((decide (d < k) && opensAt v op d i) || (decide (i = 25) && decide (d = 4)))
 | 0, d => by
  simp only [rawN]
  by_cases h : i = 25
  ·simp only [h, if_true]
   rw [show (16 : Nat) = 2 ^ 4 from rfl, Nat.testBit_two_pow]
   simp
   exact eq_comm
  ·simp [h]
 | k + 1, d => by
  simp only [rawN, Nat.testBit_or, rawN_bit v op i k d]
  by_cases h1 : d = k
  ·subst h1
   cases h2 : opensAt v op d i
   ·simp [h2]
   ·simp [h2, Nat.testBit_two_pow_self]
  ·have h3 : (if opensAt v op k i = true then 2 ^ k else 0).testBit d = false := by
    split
    ·exact Nat.testBit_two_pow_of_ne (fun e => h1 e.symm)
    ·simp
   have h4 : decide (d < k + 1) = decide (d < k) := by rw [decide_eq_decide]; omega
   rw [h3, h4, Bool.or_false]
theorem rawN_lt (v : Voy) (op i : Nat) : ∀ k, k ≤ 4 → rawN v op k i < 32
 | 0, _ => by simp only [rawN]; split <;> omega
 | k + 1, hk => by
  simp only [rawN]
  have h1 := rawN_lt v op i k (by omega)
  refine Nat.or_lt_two_pow (n := 5) h1 ?_
  split
  ·have : 2 ^ k ≤ 2 ^ 3 := Nat.pow_le_pow_right (by omega) (by omega)
   omega
  ·omega
def okL (v : Voy) (bl : List Int) (n i : Nat) : Bool := turnOk v (n : Int) bl ⟨hAt i, 0⟩
def tF (v : Voy) (bl : List Int) (n op i : Nat) : Nat := if okL v bl n i = true then rawN v op v.doors.length i else 0
theorem ok_hour {v : Voy} {lot : Int} {but : List Int} {w u : Tn} (h : w.hour = u.hour) : turnOk v lot but w = turnOk v lot but u := by
 simp only [turnOk, lookOk, h]
theorem tF_lt {v : Voy} (hv : Vd v) (bl : List Int) (n op i : Nat) : tF v bl n op i < 32 := by
 unfold tF; split
 ·exact rawN_lt v op i _ hv.ndr
 ·omega
theorem opens_25 {v : Voy} (hv : Vd v) (op d : Nat) : opensAt v op d 25 = false := by
 have := hv.hours
 have h : decide (((25 : Nat) : Int) ≤ v.hours) = false := by simp; omega
 simp only [opensAt, h, Bool.and_false]
theorem tF_bit {v : Voy} (hv : Vd v) {bl : List Int} {n op i d : Nat} (hi : i < 25) : (tF v bl n op i).testBit d = true ↔ d < v.doors.length ∧ (⟨(i : Int), (d : Int)⟩ : Tn) ∈ turnsOf v (n : Int) (lst v.doors.length op) bl := by
 have h25 : decide (i = 25) = false := by simp; omega
 have ha : hAt i = (i : Int) := by simp only [hAt]; rw [if_neg (by omega)]
 have hok : okL v bl n i = turnOk v (n : Int) bl ⟨(i : Int), (d : Int)⟩ := by unfold okL; exact ok_hour (by simp [ha])
 rw [mem_turns, mem_all]
 unfold tF
 rw [hok]
 cases h : turnOk v (n : Int) bl ⟨(i : Int), (d : Int)⟩
 ·simp
 ·simp only [if_true, and_true, rawN_bit, h25, Bool.false_and, Bool.or_false, Bool.and_eq_true, decide_eq_true_eq]
  refine and_congr_right fun hd => ?_
  constructor
  ·intro ho
   simp only [opensAt, Bool.and_eq_true, decide_eq_true_eq, inR_iff] at ho
   refine .inr ⟨(d : Int), mem_lst.2 ⟨by omega, by simpa using ho.1.1⟩, mem_ways.2 ⟨rfl, by simp only; omega, by simp only; omega⟩⟩
  ·rintro (e | ⟨d', hd', hw⟩)
   ·simp only [Tn.mk.injEq] at e; omega
   ·obtain ⟨e1, e2, e3⟩ := mem_ways.1 hw
    simp only at e1 e2 e3
    subst e1
    have := mem_lst.1 hd'
    simp only [opensAt, Bool.and_eq_true, decide_eq_true_eq, inR_iff]
    exact ⟨⟨by simpa using this.2, by omega⟩, by omega⟩
theorem tF_never {v : Voy} (hv : Vd v) {bl : List Int} {n op : Nat} : tF v bl n op 25 = (if turnOk v (n : Int) bl ⟨-1, -1⟩ = true then 16 else 0) := by
 have hok : okL v bl n 25 = turnOk v (n : Int) bl ⟨-1, -1⟩ := by unfold okL; exact ok_hour rfl
 have hr : ∀ k, rawN v op k 25 = 16 := by
  intro k
  induction k with
  | zero => rfl
  | succ k ih => simp [rawN, ih, opens_25 hv]
 simp only [tF, hok, hr]
theorem never_mem {v : Voy} {n : Nat} {op bl : List Int} : (⟨-1, -1⟩ : Tn) ∈ turnsOf v (n : Int) op bl ↔ turnOk v (n : Int) bl ⟨-1, -1⟩ = true := by
 rw [mem_turns, mem_all]; simp
theorem nz_bit {a : Nat} (h : a ≠ 0) : ∃ d, a.testBit d = true := Nat.exists_testBit_of_ne_zero h
theorem tF_nz {v : Voy} (hv : Vd v) {bl : List Int} {n op i : Nat} (hi : i < 26) : tF v bl n op i ≠ 0 ↔ ∃ w ∈ turnsOf v (n : Int) (lst v.doors.length op) bl, w.hour = hAt i := by
 by_cases h : i = 25
 ·subst h
  rw [tF_never hv]
  constructor
  ·intro h1
   refine ⟨⟨-1, -1⟩, never_mem.2 ?_, rfl⟩
   by_cases h2 : turnOk v (n : Int) bl ⟨-1, -1⟩ = true
   ·exact h2
   ·rw [if_neg h2] at h1; exact absurd rfl h1
  ·rintro ⟨w, hw, e⟩
   have h2 := (mem_turns.1 hw).2
   rw [ok_hour (u := ⟨-1, -1⟩) e] at h2
   rw [if_pos h2]; omega
 ·have hi2 : i < 25 := by omega
  have ha : hAt i = (i : Int) := by simp only [hAt]; rw [if_neg h]
  rw [ha]
  constructor
  ·intro h1
   obtain ⟨d, hd⟩ := nz_bit h1
   exact ⟨_, ((tF_bit hv hi2).1 hd).2, rfl⟩
  ·rintro ⟨w, hw, e⟩ h0
   rcases mem_all.1 (mem_turns.1 hw).1 with e2 | ⟨d, hd, hww⟩
   ·rw [e2] at e; simp only at e; omega
   ·have hl := mem_lst.1 hd
    have hdw := (mem_ways.1 hww).1
    have hb : (tF v bl n op i).testBit d.toNat = true := (tF_bit hv hi2).2 ⟨by omega, by
     have : (⟨(i : Int), ((d.toNat : Nat) : Int)⟩ : Tn) = w := by
      cases w; simp only at e hdw; rw [e, hdw]; congr 1; omega
     rw [this]; exact hw⟩
    rw [h0] at hb; simp at hb
def zeroF (f : Nat → Nat) : Bool := (List.range 26).all fun i => decide (f i = 0)
theorem zero_iff {v : Voy} (hv : Vd v) {bl : List Int} {n op : Nat} : zeroF (tF v bl n op) = (turnsOf v (n : Int) (lst v.doors.length op) bl).isEmpty := by
 rw [Bool.eq_iff_iff, List.isEmpty_iff]
 simp only [zeroF, List.all_eq_true, List.mem_range, decide_eq_true_eq]
 constructor
 ·intro h
  rw [List.eq_nil_iff_forall_not_mem]
  intro w hw
  have hr : w.hour = -1 ∨ (0 ≤ w.hour ∧ w.hour ≤ 24) := by
   rcases mem_all.1 (mem_turns.1 hw).1 with e | ⟨d, hd, hww⟩
   ·left; rw [e]
   ·have := (mem_ways.1 hww).2.2
    have := hv.hours
    right; omega
  rcases hr with e | e
  ·exact (tF_nz hv (by omega : 25 < 26)).2 ⟨w, hw, e⟩ (h 25 (by omega))
  ·have ha : hAt w.hour.toNat = w.hour := by simp only [hAt]; rw [if_neg (by omega)]; omega
   exact (tF_nz hv (by omega : w.hour.toNat < 26)).2 ⟨w, hw, ha.symm⟩ (h _ (by omega))
 ·intro h i hi
  by_cases h0 : tF v bl n op i = 0
  ·exact h0
  ·obtain ⟨w, hw, _⟩ := (tF_nz hv hi).1 h0
   rw [h] at hw; cases hw
def leafOk (v : Voy) (bl : List Int) (op : Nat) : Bool := (List.range v.lots.toNat).all fun n => !zeroF (tF v bl n op)
def TL (v : Voy) (bl : List Int) : List Nat := (nextL v.doors 0 0).filter (leafOk v bl)
def truthAt (v : Voy) (bl : List Int) (op : Nat) : Truth := ⟨lst v.doors.length op, (List.range v.lots.toNat).map fun (n : Nat) => turnsOf v (n : Int) (lst v.doors.length op) bl⟩
theorem truths_TL {v : Voy} (hv : Vd v) (bl : List Int) : truths v bl = (TL v bl).map (truthAt v bl) := by
 simp only [truths, TL, sets_next, List.filterMap_map]
 induction nextL v.doors 0 0 with
 | nil => rfl
 | cons op l ih =>
  have hl : leafOk v bl op = ((List.range v.lots.toNat).map fun (n : Nat) => turnsOf v (n : Int) (lst v.doors.length op) bl).all (fun x => !x.isEmpty) := by
   rw [List.all_map]
   unfold leafOk
   congr 1
   funext n
   simp only [Function.comp_apply, zero_iff hv]
  simp only [List.filterMap_cons, Function.comp_apply, List.filter_cons]
  cases h : leafOk v bl op
  ·rw [h] at hl
   simp only [truthOf, ← hl, Bool.false_eq_true, if_false]
   exact ih
  ·rw [h] at hl
   simp only [truthOf, ← hl, if_true, List.map_cons]
   rw [ih]; rfl
theorem TL_some {v : Voy} (hv : Vd v) (bl : List Int) : (TL v bl).isEmpty = (truths v bl).isEmpty := by
 rw [truths_TL hv]; simp
theorem TL_lt {v : Voy} (hv : Vd v) {bl : List Int} : ∀ t ∈ TL v bl, t < 16 ∧ t < 2 ^ v.doors.length := fun t ht => next_lt hv t (List.mem_filter.1 ht).1
def orF (f g : Nat → Nat) (i : Nat) : Nat := f i ||| g i
def allF (v : Voy) (n : Nat) : Nat → Nat := (TL v []).foldl (fun f op => orF f (tF v [] n op)) fun _ => 0
theorem fold_bit (v : Voy) (n i d : Nat) : ∀ (l : List Nat) (f : Nat → Nat), ((l.foldl (fun f op => orF f (tF v [] n op)) f) i).testBit d = ((f i).testBit d || l.any fun op => (tF v [] n op i).testBit d)
 | [], f => by simp
 | op :: l, f => by
  rw [List.foldl_cons, fold_bit v n i d l, List.any_cons]
  simp only [orF, Nat.testBit_or, Bool.or_assoc]
theorem all_bit {v : Voy} (hv : Vd v) {n i d : Nat} (hn : n < v.lots.toNat) (hi : i < 25) : (allF v n i).testBit d = true ↔ d < v.doors.length ∧ (⟨(i : Int), (d : Int)⟩ : Tn) ∈ turnsIn (truths v []) n := by
 simp only [allF, fold_bit, Nat.zero_testBit, Bool.false_or, List.any_eq_true, tF_bit hv hi]
 rw [mem_turnsIn hn, truths_TL hv]
 simp only [List.mem_map]
 constructor
 ·rintro ⟨op, ho, hd, hw⟩
  exact ⟨hd, _, ⟨op, ho, rfl⟩, hw⟩
 ·rintro ⟨hd, _, ⟨op, ho, rfl⟩, hw⟩
  exact ⟨op, ho, hd, hw⟩
theorem all_nz {v : Voy} (hv : Vd v) {n i : Nat} (hn : n < v.lots.toNat) (hi : i < 26) : allF v n i ≠ 0 ↔ ∃ w ∈ turnsIn (truths v []) n, w.hour = hAt i := by
 constructor
 ·intro h
  obtain ⟨d, hd⟩ := nz_bit h
  simp only [allF, fold_bit, Nat.zero_testBit, Bool.false_or, List.any_eq_true] at hd
  obtain ⟨op, ho, hb⟩ := hd
  obtain ⟨w, hw, e⟩ := (tF_nz hv (bl := []) (n := n) (op := op) hi).1 (fun h0 => by rw [h0] at hb; simp at hb)
  exact ⟨w, (mem_turnsIn hn).2 ⟨truthAt v [] op, by rw [truths_TL hv]; exact List.mem_map.2 ⟨op, ho, rfl⟩, hw⟩, e⟩
 ·rintro ⟨w, hw, e⟩ h0
  obtain ⟨t, ht, hw2⟩ := (mem_turnsIn hn).1 hw
  rw [truths_TL hv] at ht
  obtain ⟨op, ho, rfl⟩ := List.mem_map.1 ht
  obtain ⟨d, hd⟩ := nz_bit ((tF_nz hv hi).2 ⟨w, hw2, e⟩)
  have : (allF v n i).testBit d = true := by
   simp only [allF, fold_bit, Nat.zero_testBit, Bool.false_or, List.any_eq_true]
   exact ⟨op, ho, hd⟩
  rw [h0] at this; simp at this
end Go.Am.Room
set_option maxRecDepth 4000
namespace Go.Am.Room
def encSNE (x : Span × Int × Int) : AV := .tuple [encSpan x.1, .int .i64 x.2.1, .int .i64 x.2.2]
def encLE (x : List Int × Int) : AV := .tuple [ints x.1, .int .i64 x.2]
def encLLE (x : List Int × List Int × Int) : AV := .tuple [ints x.1, ints x.2.1, .int .i64 x.2.2]
theorem errAsk_ok {v : Voy} {n : Int} (h : errAsk v n = 0) : Vd v ∧ 0 ≤ n ∧ n < v.lots := by
 unfold errAsk at h
 split at h
 ·rename_i h0
  split at h
  ·rename_i h1; have := inR_iff.1 h1; exact ⟨vd_of_check h0, by omega, by omega⟩
  ·omega
 ·rename_i h0; exact absurd h h0
theorem errKnown_ok {v : Voy} {e : Int} (h : errKnown v e = 0) : e = 0 ∧ truths v [] ≠ [] := by
 unfold errKnown at h
 split at h
 ·rename_i h0
  split at h
  ·omega
  ·rename_i h1; exact ⟨h0, by simpa using h1⟩
 ·rename_i h0; exact absurd h h0
end Go.Am.Room
set_option maxRecDepth 4000
namespace Go.Am.Room
def idxOf {α : Type} (p : α → Bool) : List α → Nat → Int
 | [], _ => -1
 | x :: xs, k => if p x then k else idxOf p xs (k + 1)
theorem idxOf_any {α : Type} (p : α → Bool) : ∀ (l : List α) (k : Nat), decide (0 ≤ idxOf p l k) = l.any p
 | [], k => by simp [idxOf]
 | x :: xs, k => by
  cases h : p x
  ·simp [idxOf, h, idxOf_any p xs (k + 1)]
  ·simp [idxOf, h]
theorem index_int (σ : St) (f : AV) (l : List Int) (p : Int → Bool) (hl : l.length < 9223372036854775808) (hk : Keeps σ f) (h : ∀ x ∈ l, Same T f [.int .i64 x] σ (.bool (p x))) : Same T (.func 105 [] []) [ints l, f] σ (.int .i64 (idxOf p l 0)) := by
 refine same_fn (af := a105) rfl (by simp [a105]) ?_
 have hk0 := hk.nil
 (repeat (first | simp only [↓QA, QB, Nat.reduceLT, reduceIte, Nat.reduceEqDiff, Nat.reduceAdd, Nat.reduceLeDiff, Nat.reduceMul, Nat.reduceBEq, a105] | refine rd0 rfl ?_))
 refine loopE (S := Nat) 0 (fun k => k ≤ l.length ∧ idxOf p (l.drop k) k = idxOf p l 0) (fun k => l.length - k) (fun k => [(0, ints l), (1, f), (7, .int .i64 l.length), (8, .int .i64 k)]) (fun _ => σ) ⟨Nat.zero_le _, by simp⟩ rfl ?_ fun k hk1 => ?_
 ·try simp only [TrimX, QE, Nat.reduceLT, reduceIte, Nat.reduceEqDiff, Nat.reduceAdd, Nat.reduceLeDiff, Nat.reduceMul, Nat.reduceBEq]
  try simp
 ·obtain ⟨hkl, hi⟩ := hk1
  (repeat (first | simp only [↓QA, QB, Nat.reduceLT, reduceIte, Nat.reduceEqDiff, Nat.reduceAdd, Nat.reduceLeDiff, Nat.reduceMul, Nat.reduceBEq, L105_0] | refine rd0 rfl ?_))
  refine iteP_intro (fun hd => ?_) fun hd => ?_
  ·have hlt : k < l.length := by simpa using hd
   rw [List.drop_eq_getElem_cons hlt] at hi
   simp only [idxOf] at hi
   have hw := wrapN hlt hl
   (repeat (first | simp only [↓QA, QB, Nat.reduceLT, reduceIte, Nat.reduceEqDiff, Nat.reduceAdd, Nat.reduceLeDiff, Nat.reduceMul, Nat.reduceBEq, hlt] | refine rd0 rfl ?_))
   refine callK_same (h l[k] (List.getElem_mem hlt)) ?_
   (repeat (first | simp only [↓QA, QB, Nat.reduceLT, reduceIte, Nat.reduceEqDiff, Nat.reduceAdd, Nat.reduceLeDiff, Nat.reduceMul, Nat.reduceBEq] | refine rd0 rfl ?_))
   cases hp : p l[k]
   ·(repeat (first | simp only [↓QA, QB, Nat.reduceLT, reduceIte, Nat.reduceEqDiff, Nat.reduceAdd, Nat.reduceLeDiff, Nat.reduceMul, Nat.reduceBEq, hw] | refine rd0 rfl ?_))
    refine ⟨k + 1, ⟨by omega, by rw [← hi, hp]; rfl⟩, by omega, ?_⟩
    try simp only [TrimX, QE, Nat.reduceLT, reduceIte, Nat.reduceEqDiff, Nat.reduceAdd, Nat.reduceLeDiff, Nat.reduceMul, Nat.reduceBEq, hw, hk0, Nat.le_refl]
   ·(repeat (first | simp only [↓QA, QB, Nat.reduceLT, reduceIte, Nat.reduceEqDiff, Nat.reduceAdd, Nat.reduceLeDiff, Nat.reduceMul, Nat.reduceBEq] | refine rd0 rfl ?_))
    refine baseR [] (by first | rfl | simp) ?_
    rw [← hi, hp]
    try simp only [QS, QC, Nat.reduceLT, reduceIte, Nat.reduceEqDiff, Nat.reduceAdd, Nat.reduceLeDiff, Nat.reduceMul, Nat.reduceBEq]
  ·have hlt : k = l.length := by simp at hd; omega
   (repeat (first | simp only [↓QA, QB, Nat.reduceLT, reduceIte, Nat.reduceEqDiff, Nat.reduceAdd, Nat.reduceLeDiff, Nat.reduceMul, Nat.reduceBEq] | refine rd0 rfl ?_))
   refine baseR [] (by first | rfl | simp) ?_
   rw [← hi, hlt, List.drop_length]
   try simp only [QS, QC, Nat.reduceLT, reduceIte, Nat.reduceEqDiff, Nat.reduceAdd, Nat.reduceLeDiff, Nat.reduceMul, Nat.reduceBEq, idxOf]
theorem contains_int (σ : St) (f : AV) (l : List Int) (p : Int → Bool) (hl : l.length < 9223372036854775808) (hk : Keeps σ f) (h : ∀ x ∈ l, Same T f [.int .i64 x] σ (.bool (p x))) : Same T (.func 100 [] []) [ints l, f] σ (.bool (l.any p)) := by
 refine same_fn (af := a100) rfl (by simp [a100]) ?_
 (repeat (first | simp only [↓QA, QB, Nat.reduceLT, reduceIte, Nat.reduceEqDiff, Nat.reduceAdd, Nat.reduceLeDiff, Nat.reduceMul, Nat.reduceBEq, a100] | refine rd0 rfl ?_))
 refine callK_same (index_int σ f l p hl hk h) ?_
 (repeat (first | simp only [↓QA, QB, Nat.reduceLT, reduceIte, Nat.reduceEqDiff, Nat.reduceAdd, Nat.reduceLeDiff, Nat.reduceMul, Nat.reduceBEq] | refine rd0 rfl ?_))
 refine baseR [] (by first | rfl | simp) ?_
 rw [← idxOf_any p l 0]
 try simp only [QS, QC, Nat.reduceLT, reduceIte, Nat.reduceEqDiff, Nat.reduceAdd, Nat.reduceLeDiff, Nat.reduceMul, Nat.reduceBEq]
def outside (lo hi n : Int) : Bool := decide (n < lo) || decide (hi < n)
theorem beyond1_ok (lo hi n : Int) : Same T (.func 101 [] [.ptr 0 0, .ptr 1 0]) [.int .i64 n] [.cells [.int .i64 lo], .cells [.int .i64 hi]] (.bool (outside lo hi n)) := by
 refine same_fn (af := a101) rfl (by simp [a101]) ?_
 (repeat (first | simp only [↓QA, QB, Nat.reduceLT, reduceIte, Nat.reduceEqDiff, Nat.reduceAdd, Nat.reduceLeDiff, Nat.reduceMul, Nat.reduceBEq, a101] | refine rd0 rfl ?_))
 refine iteP_intro (fun h => ?_) fun h => ?_
 all_goals
  (repeat (first | simp only [↓QA, QB, Nat.reduceLT, reduceIte, Nat.reduceEqDiff, Nat.reduceAdd, Nat.reduceLeDiff, Nat.reduceMul, Nat.reduceBEq, h] | refine rd0 rfl ?_))
  refine baseR [] (by first | rfl | simp) ?_
  try simp only [QS, QC, Nat.reduceLT, reduceIte, Nat.reduceEqDiff, Nat.reduceAdd, Nat.reduceLeDiff, Nat.reduceMul, Nat.reduceBEq, outside, h]
  try simp
def beyond (lo hi : Int) (ns : List Int) : Bool := ns.any (outside lo hi)
theorem beyond_ok (lo hi : Int) (ns : List Int) (hl : ns.length < 9223372036854775808) : Pure T 78 [.int .i64 lo, .int .i64 hi, ints ns] (.bool (beyond lo hi ns)) := by
 refine pure_fn (af := a78) rfl (by simp [a78]) dd ?_
 (repeat (first | simp only [↓QA, QB, Nat.reduceLT, reduceIte, Nat.reduceEqDiff, Nat.reduceAdd, Nat.reduceLeDiff, Nat.reduceMul, Nat.reduceBEq, a78] | refine rd0 rfl ?_))
 refine callK_same (contains_int _ _ ns (outside lo hi) hl (fun τ => ?_) fun x _ => beyond1_ok lo hi x) ?_
 ·try simp only [QS, QC, Nat.reduceLT, reduceIte, Nat.reduceEqDiff, Nat.reduceAdd, Nat.reduceLeDiff, Nat.reduceMul, Nat.reduceBEq]
 ·(repeat (first | simp only [↓QA, QB, Nat.reduceLT, reduceIte, Nat.reduceEqDiff, Nat.reduceAdd, Nat.reduceLeDiff, Nat.reduceMul, Nat.reduceBEq, beyond] | refine rd0 rfl ?_))
theorem off1_ok (lo hi n : Int) : Same T (.func 106 [] [.ptr 0 0, .ptr 1 0]) [.int .i64 n] [.cells [.int .i64 lo], .cells [.int .i64 hi]] (.bool (outside lo hi n)) := by
 refine same_fn (af := a106) rfl (by simp [a106]) ?_
 (repeat (first | simp only [↓QA, QB, Nat.reduceLT, reduceIte, Nat.reduceEqDiff, Nat.reduceAdd, Nat.reduceLeDiff, Nat.reduceMul, Nat.reduceBEq, a106] | refine rd0 rfl ?_))
 refine iteP_intro (fun h => ?_) fun h => ?_
 all_goals
  (repeat (first | simp only [↓QA, QB, Nat.reduceLT, reduceIte, Nat.reduceEqDiff, Nat.reduceAdd, Nat.reduceLeDiff, Nat.reduceMul, Nat.reduceBEq, h] | refine rd0 rfl ?_))
  refine baseR [] (by first | rfl | simp) ?_
  try simp only [QS, QC, Nat.reduceLT, reduceIte, Nat.reduceEqDiff, Nat.reduceAdd, Nat.reduceLeDiff, Nat.reduceMul, Nat.reduceBEq, outside, h]
  try simp
theorem off_ok (lo hi : Int) (ns : List Int) (hl : ns.length < 9223372036854775808) : Pure T 102 [.int .i64 lo, .int .i64 hi, ints ns] (.bool (beyond lo hi ns)) := by
 refine pure_fn (af := a102) rfl (by simp [a102]) dd ?_
 (repeat (first | simp only [↓QA, QB, Nat.reduceLT, reduceIte, Nat.reduceEqDiff, Nat.reduceAdd, Nat.reduceLeDiff, Nat.reduceMul, Nat.reduceBEq, a102] | refine rd0 rfl ?_))
 refine callK_same (contains_int _ _ ns (outside lo hi) hl (fun τ => ?_) fun x _ => off1_ok lo hi x) ?_
 ·try simp only [QS, QC, Nat.reduceLT, reduceIte, Nat.reduceEqDiff, Nat.reduceAdd, Nat.reduceLeDiff, Nat.reduceMul, Nat.reduceBEq]
 ·(repeat (first | simp only [↓QA, QB, Nat.reduceLT, reduceIte, Nat.reduceEqDiff, Nat.reduceAdd, Nat.reduceLeDiff, Nat.reduceMul, Nat.reduceBEq, beyond] | refine rd0 rfl ?_))
theorem okUpTo_mono (s : ByteArray) : ∀ n k, k ≤ n → okUpTo s k = false → okUpTo s n = false
  | 0, k, h, h1 => by have : k = 0 := by omega
                      subst this; exact h1
  | n + 1, k, h, h1 => by
    by_cases hk : k = n + 1
    · subst hk; exact h1
    · simp [okUpTo, okUpTo_mono s n k (by omega) h1]
theorem beyond1 (lo hi n : Int) : beyond lo hi [n] = !inR n lo hi := by
 rw [Bool.eq_iff_iff]; simp [beyond, outside, inR]
theorem beyond2 (lo hi n m : Int) : beyond lo hi [n, m] = (!inR n lo hi || !inR m lo hi) := by
 rw [Bool.eq_iff_iff]; simp [beyond, outside, inR]
theorem handname_ok (s : ByteArray) (hs : s.size < 9223372036854775808) : Pure T 82 [.str s] (.bool (nameOk s)) := by
 refine pure_fn (af := a82) rfl (by simp [a82]) dd ?_
 (repeat (first | simp only [↓QA, QB, Nat.reduceLT, reduceIte, Nat.reduceEqDiff, Nat.reduceAdd, Nat.reduceLeDiff, Nat.reduceMul, Nat.reduceBEq, a82] | refine rd0 rfl ?_))
 refine loopE (S := Nat) 0 (fun k => k ≤ s.size ∧ okUpTo s k = true) (fun k => s.size - k) (fun k => [(0, .str s), (7, .ptr 0 0)]) (fun k => [.siter s k]) ⟨Nat.zero_le _, rfl⟩ rfl ?_ fun k hk => ?_
 ·try simp only [TrimX, QE, Nat.reduceLT, reduceIte, Nat.reduceEqDiff, Nat.reduceAdd, Nat.reduceLeDiff, Nat.reduceMul, Nat.reduceBEq]
  try simp
 ·obtain ⟨hkl, hok⟩ := hk
  by_cases hk1 : k < s.size
  ·obtain ⟨R, hR⟩ : ∃ R : Int, ((Utf8.decode s k).1 : Int) = R := ⟨_, rfl⟩
   obtain ⟨W, hW⟩ : ∃ W, (Utf8.decode s k).2 = W := ⟨_, rfl⟩
   have hstep : okUpTo s (k + 1) = okByte k (byteAt s k) := by simp [okUpTo, hok]
   have hbl := byteAt_lt s k
   have key : (97 ≤ R ∧ R ≤ 122 ∨ 0 < k ∧ (R = 46 ∨ 48 ≤ R ∧ R ≤ 57)) → W = 1 ∧ okUpTo s (k + 1) = true := by
    intro h
    by_cases hb : byteAt s k < 128
    ·have := byteAt_ascii hk1 hb
     rw [this] at hR hW
     have hR' : R = byteAt s k := by simp at hR; omega
     refine ⟨hW.symm, ?_⟩
     rw [hstep, okByte, ← hR']
     simp [inR]
     omega
    ·have := byteAt_high hk1 (by omega)
     omega
   have key2 : ¬ (97 ≤ R ∧ R ≤ 122 ∨ 0 < k ∧ (R = 46 ∨ 48 ≤ R ∧ R ≤ 57)) → nameOk s = false := by
    intro h
    have : okUpTo s (k + 1) = false := by
     rw [hstep, okByte]
     by_cases hb : byteAt s k < 128
     ·have := byteAt_ascii hk1 hb
      rw [this] at hR hW
      have hR' : R = byteAt s k := by simp at hR; omega
      rw [← hR']
      simp [inR]
      omega
     ·simp [inR]; omega
    simp [nameOk, okUpTo_mono s s.size (k + 1) (by omega) this]
   have go : ∀ (e : Env), W = 1 ∧ okUpTo s (k + 1) = true → Env.get e 0 = .str s → Env.get e 7 = .ptr 0 0 → ∃ s', (s' ≤ s.size ∧ okUpTo s s' = true) ∧ s.size - s' < s.size - k ∧ TrimX [.siter s k] e [.siter s (k + W)] [(0, .str s), (7, .ptr 0 0)] [.siter s s'] := by
    intro e h e0 e7
    refine ⟨k + 1, ⟨by omega, h.2⟩, by omega, ?_⟩
    try simp only [TrimX, QE, Nat.reduceLT, reduceIte, Nat.reduceEqDiff, Nat.reduceAdd, Nat.reduceLeDiff, Nat.reduceMul, Nat.reduceBEq, e0, e7, h.1]
    try simp [okBlk]
   (repeat (first | simp only [↓QA, QB, Nat.reduceLT, reduceIte, Nat.reduceEqDiff, Nat.reduceAdd, Nat.reduceLeDiff, Nat.reduceMul, Nat.reduceBEq, L82_0, V_snextT hk1, hR, hW] | refine rd0 rfl ?_))
   cases h1 : decide (97 ≤ R)
   ·have h1' : ¬ 97 ≤ R := by simpa using h1
    (repeat (first | simp only [↓QA, QB, Nat.reduceLT, reduceIte, Nat.reduceEqDiff, Nat.reduceAdd, Nat.reduceLeDiff, Nat.reduceMul, Nat.reduceBEq, h1] | refine rd0 rfl ?_))
    cases h3 : ((k : Int) == 0)
    ·have h3' : 0 < k := by simp at h3; omega
     (repeat (first | simp only [↓QA, QB, Nat.reduceLT, reduceIte, Nat.reduceEqDiff, Nat.reduceAdd, Nat.reduceLeDiff, Nat.reduceMul, Nat.reduceBEq, h3] | refine rd0 rfl ?_))
     cases h4 : (R == 46)
     ·have h4' : R ≠ 46 := by simpa using h4
      (repeat (first | simp only [↓QA, QB, Nat.reduceLT, reduceIte, Nat.reduceEqDiff, Nat.reduceAdd, Nat.reduceLeDiff, Nat.reduceMul, Nat.reduceBEq, h4] | refine rd0 rfl ?_))
      cases h5 : decide (R < 48)
      ·have h5' : ¬ R < 48 := by simpa using h5
       (repeat (first | simp only [↓QA, QB, Nat.reduceLT, reduceIte, Nat.reduceEqDiff, Nat.reduceAdd, Nat.reduceLeDiff, Nat.reduceMul, Nat.reduceBEq, h5] | refine rd0 rfl ?_))
       cases h6 : decide (57 < R)
       ·have h6' : ¬ 57 < R := by simpa using h6
        (repeat (first | simp only [↓QA, QB, Nat.reduceLT, reduceIte, Nat.reduceEqDiff, Nat.reduceAdd, Nat.reduceLeDiff, Nat.reduceMul, Nat.reduceBEq, h6] | refine rd0 rfl ?_))
        exact go _ (key (by omega)) (by try simp only [TrimX, QE, Nat.reduceLT, reduceIte, Nat.reduceEqDiff, Nat.reduceAdd, Nat.reduceLeDiff, Nat.reduceMul, Nat.reduceBEq]) (by try simp only [TrimX, QE, Nat.reduceLT, reduceIte, Nat.reduceEqDiff, Nat.reduceAdd, Nat.reduceLeDiff, Nat.reduceMul, Nat.reduceBEq])
       ·have h6' : 57 < R := by simpa using h6
        rw [key2 (by omega)]
        (repeat (first | simp only [↓QA, QB, Nat.reduceLT, reduceIte, Nat.reduceEqDiff, Nat.reduceAdd, Nat.reduceLeDiff, Nat.reduceMul, Nat.reduceBEq, h6] | refine rd0 rfl ?_))
      ·have h5' : R < 48 := by simpa using h5
       rw [key2 (by omega)]
       (repeat (first | simp only [↓QA, QB, Nat.reduceLT, reduceIte, Nat.reduceEqDiff, Nat.reduceAdd, Nat.reduceLeDiff, Nat.reduceMul, Nat.reduceBEq, h5] | refine rd0 rfl ?_))
     ·have h4' : R = 46 := by simpa using h4
      (repeat (first | simp only [↓QA, QB, Nat.reduceLT, reduceIte, Nat.reduceEqDiff, Nat.reduceAdd, Nat.reduceLeDiff, Nat.reduceMul, Nat.reduceBEq, h4] | refine rd0 rfl ?_))
      exact go _ (key (by omega)) (by try simp only [TrimX, QE, Nat.reduceLT, reduceIte, Nat.reduceEqDiff, Nat.reduceAdd, Nat.reduceLeDiff, Nat.reduceMul, Nat.reduceBEq]) (by try simp only [TrimX, QE, Nat.reduceLT, reduceIte, Nat.reduceEqDiff, Nat.reduceAdd, Nat.reduceLeDiff, Nat.reduceMul, Nat.reduceBEq])
    ·have h3' : k = 0 := by simp at h3; omega
     rw [key2 (by omega)]
     (repeat (first | simp only [↓QA, QB, Nat.reduceLT, reduceIte, Nat.reduceEqDiff, Nat.reduceAdd, Nat.reduceLeDiff, Nat.reduceMul, Nat.reduceBEq, h3] | refine rd0 rfl ?_))
   ·have h1' : 97 ≤ R := by simpa using h1
    (repeat (first | simp only [↓QA, QB, Nat.reduceLT, reduceIte, Nat.reduceEqDiff, Nat.reduceAdd, Nat.reduceLeDiff, Nat.reduceMul, Nat.reduceBEq, h1] | refine rd0 rfl ?_))
    cases h2 : decide (R ≤ 122)
    ·have h2' : ¬ R ≤ 122 := by simpa using h2
     (repeat (first | simp only [↓QA, QB, Nat.reduceLT, reduceIte, Nat.reduceEqDiff, Nat.reduceAdd, Nat.reduceLeDiff, Nat.reduceMul, Nat.reduceBEq, h2] | refine rd0 rfl ?_))
     cases h3 : ((k : Int) == 0)
     ·have h3' : 0 < k := by simp at h3; omega
      (repeat (first | simp only [↓QA, QB, Nat.reduceLT, reduceIte, Nat.reduceEqDiff, Nat.reduceAdd, Nat.reduceLeDiff, Nat.reduceMul, Nat.reduceBEq, h3] | refine rd0 rfl ?_))
      cases h4 : (R == 46)
      ·have h4' : R ≠ 46 := by simpa using h4
       (repeat (first | simp only [↓QA, QB, Nat.reduceLT, reduceIte, Nat.reduceEqDiff, Nat.reduceAdd, Nat.reduceLeDiff, Nat.reduceMul, Nat.reduceBEq, h4] | refine rd0 rfl ?_))
       cases h5 : decide (R < 48)
       ·have h5' : ¬ R < 48 := by simpa using h5
        (repeat (first | simp only [↓QA, QB, Nat.reduceLT, reduceIte, Nat.reduceEqDiff, Nat.reduceAdd, Nat.reduceLeDiff, Nat.reduceMul, Nat.reduceBEq, h5] | refine rd0 rfl ?_))
        cases h6 : decide (57 < R)
        ·have h6' : ¬ 57 < R := by simpa using h6
         (repeat (first | simp only [↓QA, QB, Nat.reduceLT, reduceIte, Nat.reduceEqDiff, Nat.reduceAdd, Nat.reduceLeDiff, Nat.reduceMul, Nat.reduceBEq, h6] | refine rd0 rfl ?_))
         exact go _ (key (by omega)) (by try simp only [TrimX, QE, Nat.reduceLT, reduceIte, Nat.reduceEqDiff, Nat.reduceAdd, Nat.reduceLeDiff, Nat.reduceMul, Nat.reduceBEq]) (by try simp only [TrimX, QE, Nat.reduceLT, reduceIte, Nat.reduceEqDiff, Nat.reduceAdd, Nat.reduceLeDiff, Nat.reduceMul, Nat.reduceBEq])
        ·have h6' : 57 < R := by simpa using h6
         rw [key2 (by omega)]
         (repeat (first | simp only [↓QA, QB, Nat.reduceLT, reduceIte, Nat.reduceEqDiff, Nat.reduceAdd, Nat.reduceLeDiff, Nat.reduceMul, Nat.reduceBEq, h6] | refine rd0 rfl ?_))
       ·have h5' : R < 48 := by simpa using h5
        rw [key2 (by omega)]
        (repeat (first | simp only [↓QA, QB, Nat.reduceLT, reduceIte, Nat.reduceEqDiff, Nat.reduceAdd, Nat.reduceLeDiff, Nat.reduceMul, Nat.reduceBEq, h5] | refine rd0 rfl ?_))
      ·have h4' : R = 46 := by simpa using h4
       (repeat (first | simp only [↓QA, QB, Nat.reduceLT, reduceIte, Nat.reduceEqDiff, Nat.reduceAdd, Nat.reduceLeDiff, Nat.reduceMul, Nat.reduceBEq, h4] | refine rd0 rfl ?_))
       exact go _ (key (by omega)) (by try simp only [TrimX, QE, Nat.reduceLT, reduceIte, Nat.reduceEqDiff, Nat.reduceAdd, Nat.reduceLeDiff, Nat.reduceMul, Nat.reduceBEq]) (by try simp only [TrimX, QE, Nat.reduceLT, reduceIte, Nat.reduceEqDiff, Nat.reduceAdd, Nat.reduceLeDiff, Nat.reduceMul, Nat.reduceBEq])
     ·have h3' : k = 0 := by simp at h3; omega
      rw [key2 (by omega)]
      (repeat (first | simp only [↓QA, QB, Nat.reduceLT, reduceIte, Nat.reduceEqDiff, Nat.reduceAdd, Nat.reduceLeDiff, Nat.reduceMul, Nat.reduceBEq, h3] | refine rd0 rfl ?_))
    ·have h2' : R ≤ 122 := by simpa using h2
     (repeat (first | simp only [↓QA, QB, Nat.reduceLT, reduceIte, Nat.reduceEqDiff, Nat.reduceAdd, Nat.reduceLeDiff, Nat.reduceMul, Nat.reduceBEq, h2] | refine rd0 rfl ?_))
     exact go _ (key (by omega)) (by try simp only [TrimX, QE, Nat.reduceLT, reduceIte, Nat.reduceEqDiff, Nat.reduceAdd, Nat.reduceLeDiff, Nat.reduceMul, Nat.reduceBEq]) (by try simp only [TrimX, QE, Nat.reduceLT, reduceIte, Nat.reduceEqDiff, Nat.reduceAdd, Nat.reduceLeDiff, Nat.reduceMul, Nat.reduceBEq])
  ·have hk2 : k = s.size := by omega
   (repeat (first | simp only [↓QA, QB, Nat.reduceLT, reduceIte, Nat.reduceEqDiff, Nat.reduceAdd, Nat.reduceLeDiff, Nat.reduceMul, Nat.reduceBEq, L82_0, V_snextF hk1] | refine rd0 rfl ?_))
   ((first | refine callK_v (off_ok 1 16 [(s.size : Int)] (by simp)) (by simp [clr, clrs, ints]) (by simp [okV, okVs]) ?_ | refine callD_v (off_ok 1 16 [(s.size : Int)] (by simp)) (by simp [clr, clrs, ints]) (by simp [okV, okVs]) ?_); (repeat (first | simp only [↓QA, QB, Nat.reduceLT, reduceIte, Nat.reduceEqDiff, Nat.reduceAdd, Nat.reduceLeDiff, Nat.reduceMul, Nat.reduceBEq] | refine rd0 rfl ?_)))
   rw [beyond1]
   (repeat (first | simp only [↓QA, QB, Nat.reduceLT, reduceIte, Nat.reduceEqDiff, Nat.reduceAdd, Nat.reduceLeDiff, Nat.reduceMul, Nat.reduceBEq] | refine rd0 rfl ?_))
   simp [nameOk, ← hk2, hok]
def failing {α : Type} (least most : Int) (of : Nat → α → Int) (l : List α) : Int × Int := if inR l.length least most = false then (0, 3) else match firstBad of l 0 with | some (i, e) => (i, e) | none => (0, 0)
def enc2 (x : Int × Int) : AV := .tuple [.int .i64 x.1, .int .i64 x.2]
theorem any_nameOf {α : Type} (f : α → ByteArray) (s : ByteArray) : ∀ l : List α, l.any (fun x => decide (f x = s)) = decide (ahead s (l.map f) ≠ (l.map f).length)
 | [] => by simp [ahead]
 | x :: xs => by
  simp only [List.any_cons, any_nameOf f s xs, List.map_cons, ahead, List.length_cons]
  by_cases h : f x = s
  ·simp [h]
  ·simp [h]
end Go.Am.Room
set_option maxRecDepth 4000
namespace Go.Am.Room
def QXDDrP1 := And.intro @encVoy_eq (And.intro @voyCells_eq (And.intro @encKp_eq (And.intro @encDoor_eq (And.intro @encLook_eq (And.intro @encSpan_eq (And.intro @S_mapKp (And.intro @S_mapDoor (@S_mapLook))))))))
theorem index_kp (σ : St) (f : AV) (l : List Kp) (p : Kp → Bool) (hl : l.length < 9223372036854775808) (hk : Keeps σ f) (h : ∀ x ∈ l, Same T f [encKp x] σ (.bool (p x))) : Same T (.func 103 [] []) [.lit (l.map encKp) false none, f] σ (.int .i64 (idxOf p l 0)) := by
 refine same_fn (af := a103) rfl (by simp [a103]) ?_
 have hk0 := hk.nil
 (repeat (first | simp only [↓QA, QB, Nat.reduceLT, reduceIte, Nat.reduceEqDiff, Nat.reduceAdd, Nat.reduceLeDiff, Nat.reduceMul, Nat.reduceBEq, QXDDrP1, a103] | refine rd0 rfl ?_))
 refine loopE (S := Nat) 0 (fun k => k ≤ l.length ∧ idxOf p (l.drop k) k = idxOf p l 0) (fun k => l.length - k) (fun k => [(0, .lit (l.map encKp) false none), (1, f), (7, .int .i64 l.length), (8, .int .i64 k)]) (fun _ => σ) ⟨Nat.zero_le _, by simp⟩ rfl ?_ fun k hk1 => ?_
 ·try simp only [TrimX, QE, Nat.reduceLT, reduceIte, Nat.reduceEqDiff, Nat.reduceAdd, Nat.reduceLeDiff, Nat.reduceMul, Nat.reduceBEq, QXDDrP1]
  try simp
 ·obtain ⟨hkl, hi⟩ := hk1
  (repeat (first | simp only [↓QA, QB, Nat.reduceLT, reduceIte, Nat.reduceEqDiff, Nat.reduceAdd, Nat.reduceLeDiff, Nat.reduceMul, Nat.reduceBEq, QXDDrP1, L103_0] | refine rd0 rfl ?_))
  refine iteP_intro (fun hd => ?_) fun hd => ?_
  ·have hlt : k < l.length := by simpa using hd
   rw [List.drop_eq_getElem_cons hlt] at hi
   simp only [idxOf] at hi
   have hw := wrapN hlt hl
   (repeat (first | simp only [↓QA, QB, Nat.reduceLT, reduceIte, Nat.reduceEqDiff, Nat.reduceAdd, Nat.reduceLeDiff, Nat.reduceMul, Nat.reduceBEq, QXDDrP1, hlt] | refine rd0 rfl ?_))
   refine callK_same (h l[k] (List.getElem_mem hlt)) ?_
   (repeat (first | simp only [↓QA, QB, Nat.reduceLT, reduceIte, Nat.reduceEqDiff, Nat.reduceAdd, Nat.reduceLeDiff, Nat.reduceMul, Nat.reduceBEq, QXDDrP1] | refine rd0 rfl ?_))
   cases hp : p l[k]
   ·(repeat (first | simp only [↓QA, QB, Nat.reduceLT, reduceIte, Nat.reduceEqDiff, Nat.reduceAdd, Nat.reduceLeDiff, Nat.reduceMul, Nat.reduceBEq, QXDDrP1, hw] | refine rd0 rfl ?_))
    refine ⟨k + 1, ⟨by omega, by rw [← hi, hp]; rfl⟩, by omega, ?_⟩
    try simp only [TrimX, QE, Nat.reduceLT, reduceIte, Nat.reduceEqDiff, Nat.reduceAdd, Nat.reduceLeDiff, Nat.reduceMul, Nat.reduceBEq, QXDDrP1, hw, hk0, Nat.le_refl, S_mapKp]
   ·(repeat (first | simp only [↓QA, QB, Nat.reduceLT, reduceIte, Nat.reduceEqDiff, Nat.reduceAdd, Nat.reduceLeDiff, Nat.reduceMul, Nat.reduceBEq, QXDDrP1] | refine rd0 rfl ?_))
    refine baseR [] (by first | rfl | simp) ?_
    rw [← hi, hp]
    try simp only [QS, QC, Nat.reduceLT, reduceIte, Nat.reduceEqDiff, Nat.reduceAdd, Nat.reduceLeDiff, Nat.reduceMul, Nat.reduceBEq, QXDDrP1]
  ·have hlt : k = l.length := by simp at hd; omega
   (repeat (first | simp only [↓QA, QB, Nat.reduceLT, reduceIte, Nat.reduceEqDiff, Nat.reduceAdd, Nat.reduceLeDiff, Nat.reduceMul, Nat.reduceBEq, QXDDrP1] | refine rd0 rfl ?_))
   refine baseR [] (by first | rfl | simp) ?_
   rw [← hi, hlt, List.drop_length]
   try simp only [QS, QC, Nat.reduceLT, reduceIte, Nat.reduceEqDiff, Nat.reduceAdd, Nat.reduceLeDiff, Nat.reduceMul, Nat.reduceBEq, QXDDrP1, idxOf]
theorem contains_kp (σ : St) (f : AV) (l : List Kp) (p : Kp → Bool) (hl : l.length < 9223372036854775808) (hk : Keeps σ f) (h : ∀ x ∈ l, Same T f [encKp x] σ (.bool (p x))) : Same T (.func 83 [] []) [.lit (l.map encKp) false none, f] σ (.bool (l.any p)) := by
 refine same_fn (af := a83) rfl (by simp [a83]) ?_
 (repeat (first | simp only [↓QA, QB, Nat.reduceLT, reduceIte, Nat.reduceEqDiff, Nat.reduceAdd, Nat.reduceLeDiff, Nat.reduceMul, Nat.reduceBEq, QXDDrP1, a83] | refine rd0 rfl ?_))
 refine callK_same (index_kp σ f l p hl hk h) ?_
 (repeat (first | simp only [↓QA, QB, Nat.reduceLT, reduceIte, Nat.reduceEqDiff, Nat.reduceAdd, Nat.reduceLeDiff, Nat.reduceMul, Nat.reduceBEq, QXDDrP1] | refine rd0 rfl ?_))
 refine baseR [] (by first | rfl | simp) ?_
 rw [← idxOf_any p l 0]
 try simp only [QS, QC, Nat.reduceLT, reduceIte, Nat.reduceEqDiff, Nat.reduceAdd, Nat.reduceLeDiff, Nat.reduceMul, Nat.reduceBEq, QXDDrP1]
theorem failing_kp (σ : St) (f : AV) (l : List Kp) (least most : Int) (of : Nat → Kp → Int) (hl : l.length < 9223372036854775808) (hk : Keeps σ f)
  (h : ∀ i (hi : i < l.length), Same T f [.int .i64 i, encKp l[i]] (σ ++ [.cells (encKp l[i]).cells]) (.int .i64 (of i l[i]))) : Same T (.func 80 [] []) [.lit (l.map encKp) false none, .int .i64 least, .int .i64 most, f] σ (enc2 (failing least most of l)) := by
 refine same_fn (af := a80) rfl (by simp [a80]) ?_
 have hk0 := hk.nil
 have hk2 : ∀ τ, snapM (σ ++ τ) σ.length 20 f = some f := hk
 (repeat (first | simp only [↓QA, QB, Nat.reduceLT, reduceIte, Nat.reduceEqDiff, Nat.reduceAdd, Nat.reduceLeDiff, Nat.reduceMul, Nat.reduceBEq, QXDDrP1, a80] | refine rd0 rfl ?_))
 ((first | refine callK_v (beyond_ok least most [(l.length : Int)] (by simp)) (by simp [clr, clrs, ints]) (by simp [okV, okVs]) ?_ | refine callD_v (beyond_ok least most [(l.length : Int)] (by simp)) (by simp [clr, clrs, ints]) (by simp [okV, okVs]) ?_); (repeat (first | simp only [↓QA, QB, Nat.reduceLT, reduceIte, Nat.reduceEqDiff, Nat.reduceAdd, Nat.reduceLeDiff, Nat.reduceMul, Nat.reduceBEq, QXDDrP1, beyond1] | refine rd0 rfl ?_)))
 cases h1 : inR l.length least most
 ·(repeat (first | simp only [↓QA, QB, Nat.reduceLT, reduceIte, Nat.reduceEqDiff, Nat.reduceAdd, Nat.reduceLeDiff, Nat.reduceMul, Nat.reduceBEq, QXDDrP1] | refine rd0 rfl ?_))
  refine baseR [] (by first | rfl | simp) ?_
  try simp only [QS, QC, Nat.reduceLT, reduceIte, Nat.reduceEqDiff, Nat.reduceAdd, Nat.reduceLeDiff, Nat.reduceMul, Nat.reduceBEq, QXDDrP1, enc2, failing, h1]
 ·(repeat (first | simp only [↓QA, QB, Nat.reduceLT, reduceIte, Nat.reduceEqDiff, Nat.reduceAdd, Nat.reduceLeDiff, Nat.reduceMul, Nat.reduceBEq, QXDDrP1] | refine rd0 rfl ?_))
  refine loopE (S := Nat) 0 (fun k => k ≤ l.length ∧ firstBad of (l.drop k) k = firstBad of l 0) (fun k => l.length - k) (fun k => [(3, f), (19, .lit (l.map encKp) false none), (20, .int .i64 l.length), (21, .int .i64 k)]) (fun _ => σ) ⟨Nat.zero_le _, by simp⟩ rfl ?_ fun k hk1 => ?_
  ·try simp only [TrimX, QE, Nat.reduceLT, reduceIte, Nat.reduceEqDiff, Nat.reduceAdd, Nat.reduceLeDiff, Nat.reduceMul, Nat.reduceBEq, QXDDrP1]
   try simp
  ·obtain ⟨hkl, hi⟩ := hk1
   (repeat (first | simp only [↓QA, QB, Nat.reduceLT, reduceIte, Nat.reduceEqDiff, Nat.reduceAdd, Nat.reduceLeDiff, Nat.reduceMul, Nat.reduceBEq, QXDDrP1, L80_0] | refine rd0 rfl ?_))
   refine iteP_intro (fun hd => ?_) fun hd => ?_
   ·have hlt : k < l.length := by simpa using hd
    have hs := h k hlt
    rw [firstBad_step hlt] at hi
    have hw := wrapN hlt hl
    try simp only [↓QA, QB, Nat.reduceLT, reduceIte, Nat.reduceEqDiff, Nat.reduceAdd, Nat.reduceLeDiff, Nat.reduceMul, Nat.reduceBEq, QXDDrP1, hlt] at hs
    (repeat (first | simp only [↓QA, QB, Nat.reduceLT, reduceIte, Nat.reduceEqDiff, Nat.reduceAdd, Nat.reduceLeDiff, Nat.reduceMul, Nat.reduceBEq, QXDDrP1, hlt] | refine rd0 rfl ?_))
    refine callK_same hs ?_
    (repeat (first | simp only [↓QA, QB, Nat.reduceLT, reduceIte, Nat.reduceEqDiff, Nat.reduceAdd, Nat.reduceLeDiff, Nat.reduceMul, Nat.reduceBEq, QXDDrP1] | refine rd0 rfl ?_))
    cases hp : (of k l[k] == 0)
    ·have hp' : of k l[k] ≠ 0 := by simpa using hp
     rw [if_neg hp'] at hi
     (repeat (first | simp only [↓QA, QB, Nat.reduceLT, reduceIte, Nat.reduceEqDiff, Nat.reduceAdd, Nat.reduceLeDiff, Nat.reduceMul, Nat.reduceBEq, QXDDrP1, hp] | refine rd0 rfl ?_))
     refine baseR _ rfl ?_
     try simp only [QS, QC, Nat.reduceLT, reduceIte, Nat.reduceEqDiff, Nat.reduceAdd, Nat.reduceLeDiff, Nat.reduceMul, Nat.reduceBEq, QXDDrP1, enc2, failing, h1, ← hi, reduceCtorEq]
    ·have hp' : of k l[k] = 0 := by simpa using hp
     rw [if_pos hp'] at hi
     (repeat (first | simp only [↓QA, QB, Nat.reduceLT, reduceIte, Nat.reduceEqDiff, Nat.reduceAdd, Nat.reduceLeDiff, Nat.reduceMul, Nat.reduceBEq, QXDDrP1, hp, hw] | refine rd0 rfl ?_))
     refine ⟨k + 1, ⟨by omega, hi⟩, by omega, ?_⟩
     try simp only [TrimX, QE, Nat.reduceLT, reduceIte, Nat.reduceEqDiff, Nat.reduceAdd, Nat.reduceLeDiff, Nat.reduceMul, Nat.reduceBEq, QXDDrP1, hw, hk0, hk2, Nat.le_refl, S_mapKp]
   ·have hlt : k = l.length := by simp at hd; omega
    rw [firstBad_end hlt] at hi
    (repeat (first | simp only [↓QA, QB, Nat.reduceLT, reduceIte, Nat.reduceEqDiff, Nat.reduceAdd, Nat.reduceLeDiff, Nat.reduceMul, Nat.reduceBEq, QXDDrP1] | refine rd0 rfl ?_))
    refine baseR [] (by first | rfl | simp) ?_
    try simp only [QS, QC, Nat.reduceLT, reduceIte, Nat.reduceEqDiff, Nat.reduceAdd, Nat.reduceLeDiff, Nat.reduceMul, Nat.reduceBEq, QXDDrP1, enc2, failing, h1, ← hi, reduceCtorEq]
theorem failing_door (σ : St) (f : AV) (l : List Door) (least most : Int) (of : Nat → Door → Int) (hl : l.length < 9223372036854775808) (hk : Keeps σ f)
  (h : ∀ i (hi : i < l.length), Same T f [.int .i64 i, encDoor l[i]] (σ ++ [.cells (encDoor l[i]).cells]) (.int .i64 (of i l[i]))) : Same T (.func 86 [] []) [.lit (l.map encDoor) false none, .int .i64 least, .int .i64 most, f] σ (enc2 (failing least most of l)) := by
 refine same_fn (af := a86) rfl (by simp [a86]) ?_
 have hk0 := hk.nil
 have hk2 : ∀ τ, snapM (σ ++ τ) σ.length 20 f = some f := hk
 (repeat (first | simp only [↓QA, QB, Nat.reduceLT, reduceIte, Nat.reduceEqDiff, Nat.reduceAdd, Nat.reduceLeDiff, Nat.reduceMul, Nat.reduceBEq, QXDDrP1, a86] | refine rd0 rfl ?_))
 ((first | refine callK_v (beyond_ok least most [(l.length : Int)] (by simp)) (by simp [clr, clrs, ints]) (by simp [okV, okVs]) ?_ | refine callD_v (beyond_ok least most [(l.length : Int)] (by simp)) (by simp [clr, clrs, ints]) (by simp [okV, okVs]) ?_); (repeat (first | simp only [↓QA, QB, Nat.reduceLT, reduceIte, Nat.reduceEqDiff, Nat.reduceAdd, Nat.reduceLeDiff, Nat.reduceMul, Nat.reduceBEq, QXDDrP1, beyond1] | refine rd0 rfl ?_)))
 cases h1 : inR l.length least most
 ·(repeat (first | simp only [↓QA, QB, Nat.reduceLT, reduceIte, Nat.reduceEqDiff, Nat.reduceAdd, Nat.reduceLeDiff, Nat.reduceMul, Nat.reduceBEq, QXDDrP1] | refine rd0 rfl ?_))
  refine baseR [] (by first | rfl | simp) ?_
  try simp only [QS, QC, Nat.reduceLT, reduceIte, Nat.reduceEqDiff, Nat.reduceAdd, Nat.reduceLeDiff, Nat.reduceMul, Nat.reduceBEq, QXDDrP1, enc2, failing, h1]
 ·(repeat (first | simp only [↓QA, QB, Nat.reduceLT, reduceIte, Nat.reduceEqDiff, Nat.reduceAdd, Nat.reduceLeDiff, Nat.reduceMul, Nat.reduceBEq, QXDDrP1] | refine rd0 rfl ?_))
  refine loopE (S := Nat) 0 (fun k => k ≤ l.length ∧ firstBad of (l.drop k) k = firstBad of l 0) (fun k => l.length - k) (fun k => [(3, f), (19, .lit (l.map encDoor) false none), (20, .int .i64 l.length), (21, .int .i64 k)]) (fun _ => σ) ⟨Nat.zero_le _, by simp⟩ rfl ?_ fun k hk1 => ?_
  ·try simp only [TrimX, QE, Nat.reduceLT, reduceIte, Nat.reduceEqDiff, Nat.reduceAdd, Nat.reduceLeDiff, Nat.reduceMul, Nat.reduceBEq, QXDDrP1]
   try simp
  ·obtain ⟨hkl, hi⟩ := hk1
   (repeat (first | simp only [↓QA, QB, Nat.reduceLT, reduceIte, Nat.reduceEqDiff, Nat.reduceAdd, Nat.reduceLeDiff, Nat.reduceMul, Nat.reduceBEq, QXDDrP1, L86_0] | refine rd0 rfl ?_))
   refine iteP_intro (fun hd => ?_) fun hd => ?_
   ·have hlt : k < l.length := by simpa using hd
    have hs := h k hlt
    rw [firstBad_step hlt] at hi
    have hw := wrapN hlt hl
    try simp only [↓QA, QB, Nat.reduceLT, reduceIte, Nat.reduceEqDiff, Nat.reduceAdd, Nat.reduceLeDiff, Nat.reduceMul, Nat.reduceBEq, QXDDrP1, hlt] at hs
    (repeat (first | simp only [↓QA, QB, Nat.reduceLT, reduceIte, Nat.reduceEqDiff, Nat.reduceAdd, Nat.reduceLeDiff, Nat.reduceMul, Nat.reduceBEq, QXDDrP1, hlt] | refine rd0 rfl ?_))
    refine callK_same hs ?_
    (repeat (first | simp only [↓QA, QB, Nat.reduceLT, reduceIte, Nat.reduceEqDiff, Nat.reduceAdd, Nat.reduceLeDiff, Nat.reduceMul, Nat.reduceBEq, QXDDrP1] | refine rd0 rfl ?_))
    cases hp : (of k l[k] == 0)
    ·have hp' : of k l[k] ≠ 0 := by simpa using hp
     rw [if_neg hp'] at hi
     (repeat (first | simp only [↓QA, QB, Nat.reduceLT, reduceIte, Nat.reduceEqDiff, Nat.reduceAdd, Nat.reduceLeDiff, Nat.reduceMul, Nat.reduceBEq, QXDDrP1, hp] | refine rd0 rfl ?_))
     refine baseR _ rfl ?_
     try simp only [QS, QC, Nat.reduceLT, reduceIte, Nat.reduceEqDiff, Nat.reduceAdd, Nat.reduceLeDiff, Nat.reduceMul, Nat.reduceBEq, QXDDrP1, enc2, failing, h1, ← hi, reduceCtorEq]
    ·have hp' : of k l[k] = 0 := by simpa using hp
     rw [if_pos hp'] at hi
     (repeat (first | simp only [↓QA, QB, Nat.reduceLT, reduceIte, Nat.reduceEqDiff, Nat.reduceAdd, Nat.reduceLeDiff, Nat.reduceMul, Nat.reduceBEq, QXDDrP1, hp, hw] | refine rd0 rfl ?_))
     refine ⟨k + 1, ⟨by omega, hi⟩, by omega, ?_⟩
     try simp only [TrimX, QE, Nat.reduceLT, reduceIte, Nat.reduceEqDiff, Nat.reduceAdd, Nat.reduceLeDiff, Nat.reduceMul, Nat.reduceBEq, QXDDrP1, hw, hk0, hk2, Nat.le_refl, S_mapDoor]
   ·have hlt : k = l.length := by simp at hd; omega
    rw [firstBad_end hlt] at hi
    (repeat (first | simp only [↓QA, QB, Nat.reduceLT, reduceIte, Nat.reduceEqDiff, Nat.reduceAdd, Nat.reduceLeDiff, Nat.reduceMul, Nat.reduceBEq, QXDDrP1] | refine rd0 rfl ?_))
    refine baseR [] (by first | rfl | simp) ?_
    try simp only [QS, QC, Nat.reduceLT, reduceIte, Nat.reduceEqDiff, Nat.reduceAdd, Nat.reduceLeDiff, Nat.reduceMul, Nat.reduceBEq, QXDDrP1, enc2, failing, h1, ← hi, reduceCtorEq]
theorem failing_look (σ : St) (f : AV) (l : List Look) (least most : Int) (of : Nat → Look → Int) (hl : l.length < 9223372036854775808) (hk : Keeps σ f)
  (h : ∀ i (hi : i < l.length), Same T f [.int .i64 i, encLook l[i]] (σ ++ [.cells (encLook l[i]).cells]) (.int .i64 (of i l[i]))) : Same T (.func 89 [] []) [.lit (l.map encLook) false none, .int .i64 least, .int .i64 most, f] σ (enc2 (failing least most of l)) := by
 refine same_fn (af := a89) rfl (by simp [a89]) ?_
 have hk0 := hk.nil
 have hk2 : ∀ τ, snapM (σ ++ τ) σ.length 20 f = some f := hk
 (repeat (first | simp only [↓QA, QB, Nat.reduceLT, reduceIte, Nat.reduceEqDiff, Nat.reduceAdd, Nat.reduceLeDiff, Nat.reduceMul, Nat.reduceBEq, QXDDrP1, a89] | refine rd0 rfl ?_))
 ((first | refine callK_v (beyond_ok least most [(l.length : Int)] (by simp)) (by simp [clr, clrs, ints]) (by simp [okV, okVs]) ?_ | refine callD_v (beyond_ok least most [(l.length : Int)] (by simp)) (by simp [clr, clrs, ints]) (by simp [okV, okVs]) ?_); (repeat (first | simp only [↓QA, QB, Nat.reduceLT, reduceIte, Nat.reduceEqDiff, Nat.reduceAdd, Nat.reduceLeDiff, Nat.reduceMul, Nat.reduceBEq, QXDDrP1, beyond1] | refine rd0 rfl ?_)))
 cases h1 : inR l.length least most
 ·(repeat (first | simp only [↓QA, QB, Nat.reduceLT, reduceIte, Nat.reduceEqDiff, Nat.reduceAdd, Nat.reduceLeDiff, Nat.reduceMul, Nat.reduceBEq, QXDDrP1] | refine rd0 rfl ?_))
  refine baseR [] (by first | rfl | simp) ?_
  try simp only [QS, QC, Nat.reduceLT, reduceIte, Nat.reduceEqDiff, Nat.reduceAdd, Nat.reduceLeDiff, Nat.reduceMul, Nat.reduceBEq, QXDDrP1, enc2, failing, h1]
 ·(repeat (first | simp only [↓QA, QB, Nat.reduceLT, reduceIte, Nat.reduceEqDiff, Nat.reduceAdd, Nat.reduceLeDiff, Nat.reduceMul, Nat.reduceBEq, QXDDrP1] | refine rd0 rfl ?_))
  refine loopE (S := Nat) 0 (fun k => k ≤ l.length ∧ firstBad of (l.drop k) k = firstBad of l 0) (fun k => l.length - k) (fun k => [(3, f), (19, .lit (l.map encLook) false none), (20, .int .i64 l.length), (21, .int .i64 k)]) (fun _ => σ) ⟨Nat.zero_le _, by simp⟩ rfl ?_ fun k hk1 => ?_
  ·try simp only [TrimX, QE, Nat.reduceLT, reduceIte, Nat.reduceEqDiff, Nat.reduceAdd, Nat.reduceLeDiff, Nat.reduceMul, Nat.reduceBEq, QXDDrP1]
   try simp
  ·obtain ⟨hkl, hi⟩ := hk1
   (repeat (first | simp only [↓QA, QB, Nat.reduceLT, reduceIte, Nat.reduceEqDiff, Nat.reduceAdd, Nat.reduceLeDiff, Nat.reduceMul, Nat.reduceBEq, QXDDrP1, L89_0] | refine rd0 rfl ?_))
   refine iteP_intro (fun hd => ?_) fun hd => ?_
   ·have hlt : k < l.length := by simpa using hd
    have hs := h k hlt
    rw [firstBad_step hlt] at hi
    have hw := wrapN hlt hl
    try simp only [↓QA, QB, Nat.reduceLT, reduceIte, Nat.reduceEqDiff, Nat.reduceAdd, Nat.reduceLeDiff, Nat.reduceMul, Nat.reduceBEq, QXDDrP1, hlt] at hs
    (repeat (first | simp only [↓QA, QB, Nat.reduceLT, reduceIte, Nat.reduceEqDiff, Nat.reduceAdd, Nat.reduceLeDiff, Nat.reduceMul, Nat.reduceBEq, QXDDrP1, hlt] | refine rd0 rfl ?_))
    refine callK_same hs ?_
    (repeat (first | simp only [↓QA, QB, Nat.reduceLT, reduceIte, Nat.reduceEqDiff, Nat.reduceAdd, Nat.reduceLeDiff, Nat.reduceMul, Nat.reduceBEq, QXDDrP1] | refine rd0 rfl ?_))
    cases hp : (of k l[k] == 0)
    ·have hp' : of k l[k] ≠ 0 := by simpa using hp
     rw [if_neg hp'] at hi
     (repeat (first | simp only [↓QA, QB, Nat.reduceLT, reduceIte, Nat.reduceEqDiff, Nat.reduceAdd, Nat.reduceLeDiff, Nat.reduceMul, Nat.reduceBEq, QXDDrP1, hp] | refine rd0 rfl ?_))
     refine baseR _ rfl ?_
     try simp only [QS, QC, Nat.reduceLT, reduceIte, Nat.reduceEqDiff, Nat.reduceAdd, Nat.reduceLeDiff, Nat.reduceMul, Nat.reduceBEq, QXDDrP1, enc2, failing, h1, ← hi, reduceCtorEq]
    ·have hp' : of k l[k] = 0 := by simpa using hp
     rw [if_pos hp'] at hi
     (repeat (first | simp only [↓QA, QB, Nat.reduceLT, reduceIte, Nat.reduceEqDiff, Nat.reduceAdd, Nat.reduceLeDiff, Nat.reduceMul, Nat.reduceBEq, QXDDrP1, hp, hw] | refine rd0 rfl ?_))
     refine ⟨k + 1, ⟨by omega, hi⟩, by omega, ?_⟩
     try simp only [TrimX, QE, Nat.reduceLT, reduceIte, Nat.reduceEqDiff, Nat.reduceAdd, Nat.reduceLeDiff, Nat.reduceMul, Nat.reduceBEq, QXDDrP1, hw, hk0, hk2, Nat.le_refl, S_mapLook]
   ·have hlt : k = l.length := by simp at hd; omega
    rw [firstBad_end hlt] at hi
    (repeat (first | simp only [↓QA, QB, Nat.reduceLT, reduceIte, Nat.reduceEqDiff, Nat.reduceAdd, Nat.reduceLeDiff, Nat.reduceMul, Nat.reduceBEq, QXDDrP1] | refine rd0 rfl ?_))
    refine baseR [] (by first | rfl | simp) ?_
    try simp only [QS, QC, Nat.reduceLT, reduceIte, Nat.reduceEqDiff, Nat.reduceAdd, Nat.reduceLeDiff, Nat.reduceMul, Nat.reduceBEq, QXDDrP1, enc2, failing, h1, ← hi, reduceCtorEq]
theorem chk11_ok (s x : Kp) (b : ABlk) (τ : St) : Same T (.func 84 [] [.ptr (τ.length + 1) 0]) [encKp x] (b :: (τ ++ [.cells (encKp s).cells])) (.bool (decide (x.name = s.name))) := by
 refine same_fn (af := a84) rfl (by simp [a84]) ?_
 (repeat (first | simp only [↓QA, QB, Nat.reduceLT, reduceIte, Nat.reduceEqDiff, Nat.reduceAdd, Nat.reduceLeDiff, Nat.reduceMul, Nat.reduceBEq, QXDDrP1, a84, str_beq, List.length_append] | refine rd0 rfl ?_))
 refine baseR [.cells [.str x.name, .int .i64 x.frm]] (by first | rfl | simp) ?_
 try simp only [QS, QC, Nat.reduceLT, reduceIte, Nat.reduceEqDiff, Nat.reduceAdd, Nat.reduceLeDiff, Nat.reduceMul, Nat.reduceBEq, QXDDrP1]
theorem chk1_ok (v : Voy) (h : Fits v) (i : Nat) (hi : i < v.keepers.length) (τ : St) : Same T (.func 81 [] [.ptr 0 0]) [.int .i64 i, encKp v.keepers[i]] (.cells (voyCells v) :: τ) (.int .i64 (kpErr v i v.keepers[i])) := by
 refine same_fn (af := a81) rfl (by simp [a81]) ?_
 have hfk := h.keepers
 have hsz := h.names _ (List.getElem_mem hi)
 have hts : (v.keepers.take i).length < 9223372036854775808 := by have := h.keepers; simp; omega
 have he := frm_at hi
 obtain ⟨s, hs⟩ : ∃ s, v.keepers[i] = s := ⟨_, rfl⟩
 have hk : kpErr v i s = if fresh s.name ((v.keepers.take i).map Kp.name) = 0 then (if inR (frmAt v i) 0 v.hours = false then 7 else if (i = 0 ∧ frmAt v i ≠ 0) ∨ (0 < i ∧ frmAt v i ≤ frmAt v (i - 1)) then 2 else 0) else fresh s.name ((v.keepers.take i).map Kp.name) := rfl
 rw [hs] at hsz he ⊢
 obtain ⟨E, hE⟩ : ∃ E, kpErr v i s = E := ⟨_, rfl⟩
 rw [hE] at hk ⊢
 obtain ⟨F, hF⟩ : ∃ F, frmAt v i = F := ⟨_, rfl⟩
 rw [hF] at hk he
 have fin : ∀ (n : Int) (e : Env) (b : List AV), n = E → BaseR (some (.int .i64 n)) (.cells (voyCells v) :: τ) (.cells (voyCells v) :: (τ ++ [.cells b])) (.int .i64 E) := fun n e b hv => by
  refine baseR [.cells b] (by first | rfl | simp) ?_
  rw [hv]
  try simp only [QS, QC, Nat.reduceLT, reduceIte, Nat.reduceEqDiff, Nat.reduceAdd, Nat.reduceLeDiff, Nat.reduceMul, Nat.reduceBEq, QXDDrP1]
 simp only [voyCells_eq] at fin
 (repeat (first | simp only [↓QA, QB, Nat.reduceLT, reduceIte, Nat.reduceEqDiff, Nat.reduceAdd, Nat.reduceLeDiff, Nat.reduceMul, Nat.reduceBEq, QXDDrP1, a81] | refine rd0 rfl ?_))
 ((first | refine callK_d (handname_ok s.name hsz) rfl dd ?_ | refine callD_d (handname_ok s.name hsz) rfl dd ?_); (repeat (first | simp only [↓QA, QB, Nat.reduceLT, reduceIte, Nat.reduceEqDiff, Nat.reduceAdd, Nat.reduceLeDiff, Nat.reduceMul, Nat.reduceBEq, QXDDrP1] | refine rd0 rfl ?_)))
 cases h1 : nameOk s.name
 ·(repeat (first | simp only [↓QA, QB, Nat.reduceLT, reduceIte, Nat.reduceEqDiff, Nat.reduceAdd, Nat.reduceLeDiff, Nat.reduceMul, Nat.reduceBEq, QXDDrP1] | refine rd0 rfl ?_))
  exact fin _ [] _ (by rw [hk]; simp [fresh, h1])
 ·have hc := contains_kp (.cells (voyCells v) :: (τ ++ [.cells (encKp s).cells])) (.func 84 [] [.ptr (τ.length + 1) 0]) (v.keepers.take i) (fun x => decide (x.name = s.name)) hts (fun υ => by try simp only [QS, QC, Nat.reduceLT, reduceIte, Nat.reduceEqDiff, Nat.reduceAdd, Nat.reduceLeDiff, Nat.reduceMul, Nat.reduceBEq, QXDDrP1, List.length_append]; simp) fun x _ => chk11_ok s x _ τ
  try simp only [↓QA, QB, Nat.reduceLT, reduceIte, Nat.reduceEqDiff, Nat.reduceAdd, Nat.reduceLeDiff, Nat.reduceMul, Nat.reduceBEq, QXDDrP1] at hc
  (repeat (first | simp only [↓QA, QB, Nat.reduceLT, reduceIte, Nat.reduceEqDiff, Nat.reduceAdd, Nat.reduceLeDiff, Nat.reduceMul, Nat.reduceBEq, QXDDrP1, V_take (enc := encKp) (l := v.keepers) (Nat.le_of_lt hi)] | refine rd0 rfl ?_))
  refine callK_same hc ?_
  rw [any_nameOf]
  cases h2 : decide (ahead s.name ((v.keepers.take i).map Kp.name) ≠ ((v.keepers.take i).map Kp.name).length)
  ·have h2' : ahead s.name ((v.keepers.take i).map Kp.name) = ((v.keepers.take i).map Kp.name).length := by simpa using h2
   have hf : fresh s.name ((v.keepers.take i).map Kp.name) = 0 := by simp only [fresh, h1, h2']; simp
   rw [hf] at hk
   simp only [if_true] at hk
   (repeat (first | simp only [↓QA, QB, Nat.reduceLT, reduceIte, Nat.reduceEqDiff, Nat.reduceAdd, Nat.reduceLeDiff, Nat.reduceMul, Nat.reduceBEq, QXDDrP1] | refine rd0 rfl ?_))
   ((first | refine callK_v (beyond_ok 0 v.hours [s.frm] (by simp)) (by simp [clr, clrs, ints]) (by simp [okV, okVs]) ?_ | refine callD_v (beyond_ok 0 v.hours [s.frm] (by simp)) (by simp [clr, clrs, ints]) (by simp [okV, okVs]) ?_); (repeat (first | simp only [↓QA, QB, Nat.reduceLT, reduceIte, Nat.reduceEqDiff, Nat.reduceAdd, Nat.reduceLeDiff, Nat.reduceMul, Nat.reduceBEq, QXDDrP1, beyond1, ← he] | refine rd0 rfl ?_)))
   cases h3 : inR F 0 v.hours
   ·rw [h3] at hk
    (repeat (first | simp only [↓QA, QB, Nat.reduceLT, reduceIte, Nat.reduceEqDiff, Nat.reduceAdd, Nat.reduceLeDiff, Nat.reduceMul, Nat.reduceBEq, QXDDrP1] | refine rd0 rfl ?_))
    exact fin _ [] _ (by rw [hk]; rfl)
   ·have h3' := inR_iff.1 h3
    rw [h3] at hk
    simp only [Bool.true_eq_false, if_false] at hk
    by_cases h0 : i = 0
    ·subst h0
     cases h4 : decide (0 < F)
     ·have h4' : ¬ 0 < F := by simpa using h4
      (repeat (first | simp only [↓QA, QB, Nat.reduceLT, reduceIte, Nat.reduceEqDiff, Nat.reduceAdd, Nat.reduceLeDiff, Nat.reduceMul, Nat.reduceBEq, QXDDrP1, h4, ← he, show (((0 : Nat) : Int) == 0) = true from rfl, show decide ((0 : Int) < ((0 : Nat) : Int)) = false from rfl] | refine rd0 rfl ?_))
      exact fin _ [] _ (by rw [hk, if_neg (by omega)])
     ·have h4' : 0 < F := by simpa using h4
      (repeat (first | simp only [↓QA, QB, Nat.reduceLT, reduceIte, Nat.reduceEqDiff, Nat.reduceAdd, Nat.reduceLeDiff, Nat.reduceMul, Nat.reduceBEq, QXDDrP1, h4, ← he, show (((0 : Nat) : Int) == 0) = true from rfl] | refine rd0 rfl ?_))
      exact fin _ [] _ (by rw [hk, if_pos (.inl ⟨rfl, by omega⟩)])
    ·have g0 : ((i : Int) == 0) = false := by simp; omega
     have g1 : decide ((0 : Int) < (i : Int)) = true := by simp; omega
     have hw : IntKind.i64.wrap (max 1 (i : Int) - 1) = ((i - 1 : Nat) : Int) := by rw [wrap64 ⟨by omega, by omega⟩]; omega
     have hi1 : i - 1 < v.keepers.length := by omega
     have he1 := frm_at hi1
     obtain ⟨G, hG⟩ : ∃ G, frmAt v (i - 1) = G := ⟨_, rfl⟩
     rw [hG] at hk he1
     cases h4 : decide (F ≤ G)
     ·have h4' : ¬ F ≤ G := by simpa using h4
      (repeat (first | simp only [↓QA, QB, Nat.reduceLT, reduceIte, Nat.reduceEqDiff, Nat.reduceAdd, Nat.reduceLeDiff, Nat.reduceMul, Nat.reduceBEq, QXDDrP1, h4, ← he, ← he1, g0, g1, V_max2, hw, hi1] | refine rd0 rfl ?_))
      exact fin _ [] _ (by rw [hk, if_neg (by omega)])
     ·have h4' : F ≤ G := by simpa using h4
      (repeat (first | simp only [↓QA, QB, Nat.reduceLT, reduceIte, Nat.reduceEqDiff, Nat.reduceAdd, Nat.reduceLeDiff, Nat.reduceMul, Nat.reduceBEq, QXDDrP1, h4, ← he, ← he1, g0, g1, V_max2, hw, hi1] | refine rd0 rfl ?_))
      exact fin _ [] _ (by rw [hk, if_pos (.inr ⟨by omega, h4'⟩)])
  ·have h2' : ahead s.name ((v.keepers.take i).map Kp.name) ≠ ((v.keepers.take i).map Kp.name).length := by simpa using h2
   have hf : fresh s.name ((v.keepers.take i).map Kp.name) = 5 := by simp only [fresh, h1, h2', if_false]; simp
   rw [hf] at hk
   (repeat (first | simp only [↓QA, QB, Nat.reduceLT, reduceIte, Nat.reduceEqDiff, Nat.reduceAdd, Nat.reduceLeDiff, Nat.reduceMul, Nat.reduceBEq, QXDDrP1] | refine rd0 rfl ?_))
   exact fin _ [] _ (by rw [hk]; simp)
theorem chk2_ok (v : Voy) (i : Int) (x : Door) : Same T (.func 87 [] [.ptr 0 0]) [.int .i64 i, encDoor x] [.cells (voyCells v), .cells (encDoor x).cells] (.int .i64 (drErr v 0 x)) := by
 refine same_fn (af := a87) rfl (by simp [a87]) ?_
 (repeat (first | simp only [↓QA, QB, Nat.reduceLT, reduceIte, Nat.reduceEqDiff, Nat.reduceAdd, Nat.reduceLeDiff, Nat.reduceMul, Nat.reduceBEq, QXDDrP1, a87] | refine rd0 rfl ?_))
 ((first | refine callK_v (beyond_ok 0 v.hours [x.hour] (by simp)) (by simp [clr, clrs, ints]) (by simp [okV, okVs]) ?_ | refine callD_v (beyond_ok 0 v.hours [x.hour] (by simp)) (by simp [clr, clrs, ints]) (by simp [okV, okVs]) ?_); (repeat (first | simp only [↓QA, QB, Nat.reduceLT, reduceIte, Nat.reduceEqDiff, Nat.reduceAdd, Nat.reduceLeDiff, Nat.reduceMul, Nat.reduceBEq, QXDDrP1, beyond1] | refine rd0 rfl ?_)))
 cases h1 : inR x.hour 0 v.hours
 all_goals
  (repeat (first | simp only [↓QA, QB, Nat.reduceLT, reduceIte, Nat.reduceEqDiff, Nat.reduceAdd, Nat.reduceLeDiff, Nat.reduceMul, Nat.reduceBEq, QXDDrP1] | refine rd0 rfl ?_))
  refine baseR _ rfl ?_
  try simp only [QS, QC, Nat.reduceLT, reduceIte, Nat.reduceEqDiff, Nat.reduceAdd, Nat.reduceLeDiff, Nat.reduceMul, Nat.reduceBEq, QXDDrP1, drErr, h1, reduceCtorEq, Bool.false_eq_true]
theorem chk3_ok (v : Voy) (hl : -9223372036854775808 < v.lots ∧ v.lots ≤ 9223372036854775807) (i : Int) (x : Look) : Same T (.func 90 [] [.ptr 0 0]) [.int .i64 i, encLook x] [.cells (voyCells v), .cells (encLook x).cells] (.int .i64 (lkErr v 0 x)) := by
 refine same_fn (af := a90) rfl (by simp [a90]) ?_
 have hw : IntKind.i64.wrap (v.lots - 1) = v.lots - 1 := wrap64 ⟨by omega, by omega⟩
 (repeat (first | simp only [↓QA, QB, Nat.reduceLT, reduceIte, Nat.reduceEqDiff, Nat.reduceAdd, Nat.reduceLeDiff, Nat.reduceMul, Nat.reduceBEq, QXDDrP1, a90, hw] | refine rd0 rfl ?_))
 ((first | refine callK_v (beyond_ok 0 (v.lots - 1) [x.lot] (by simp)) (by simp [clr, clrs, ints]) (by simp [okV, okVs]) ?_ | refine callD_v (beyond_ok 0 (v.lots - 1) [x.lot] (by simp)) (by simp [clr, clrs, ints]) (by simp [okV, okVs]) ?_); (repeat (first | simp only [↓QA, QB, Nat.reduceLT, reduceIte, Nat.reduceEqDiff, Nat.reduceAdd, Nat.reduceLeDiff, Nat.reduceMul, Nat.reduceBEq, QXDDrP1, beyond1] | refine rd0 rfl ?_)))
 cases h1 : inR x.lot 0 (v.lots - 1)
 ·(repeat (first | simp only [↓QA, QB, Nat.reduceLT, reduceIte, Nat.reduceEqDiff, Nat.reduceAdd, Nat.reduceLeDiff, Nat.reduceMul, Nat.reduceBEq, QXDDrP1] | refine rd0 rfl ?_))
  refine baseR _ rfl ?_
  try simp only [QS, QC, Nat.reduceLT, reduceIte, Nat.reduceEqDiff, Nat.reduceAdd, Nat.reduceLeDiff, Nat.reduceMul, Nat.reduceBEq, QXDDrP1, lkErr, h1, reduceCtorEq, Bool.false_eq_true, reduceIte]
 ·(repeat (first | simp only [↓QA, QB, Nat.reduceLT, reduceIte, Nat.reduceEqDiff, Nat.reduceAdd, Nat.reduceLeDiff, Nat.reduceMul, Nat.reduceBEq, QXDDrP1] | refine rd0 rfl ?_))
  ((first | refine callK_v (beyond_ok 0 v.hours [x.hour] (by simp)) (by simp [clr, clrs, ints]) (by simp [okV, okVs]) ?_ | refine callD_v (beyond_ok 0 v.hours [x.hour] (by simp)) (by simp [clr, clrs, ints]) (by simp [okV, okVs]) ?_); (repeat (first | simp only [↓QA, QB, Nat.reduceLT, reduceIte, Nat.reduceEqDiff, Nat.reduceAdd, Nat.reduceLeDiff, Nat.reduceMul, Nat.reduceBEq, QXDDrP1, beyond1] | refine rd0 rfl ?_)))
  cases h2 : inR x.hour 0 v.hours
  all_goals
   (repeat (first | simp only [↓QA, QB, Nat.reduceLT, reduceIte, Nat.reduceEqDiff, Nat.reduceAdd, Nat.reduceLeDiff, Nat.reduceMul, Nat.reduceBEq, QXDDrP1] | refine rd0 rfl ?_))
   refine baseR _ rfl ?_
   try simp only [QS, QC, Nat.reduceLT, reduceIte, Nat.reduceEqDiff, Nat.reduceAdd, Nat.reduceLeDiff, Nat.reduceMul, Nat.reduceBEq, QXDDrP1, lkErr, h1, h2, reduceCtorEq, Bool.false_eq_true]
end Go.Am.Room
set_option maxRecDepth 4000
namespace Go.Am.Room
def QXDDrP2 := And.intro @encVoy_eq (And.intro @voyCells_eq (And.intro @encKp_eq (And.intro @encDoor_eq (And.intro @encLook_eq (And.intro @encSpan_eq (And.intro @S_mapKp (And.intro @S_mapDoor (@S_mapLook))))))))
def part1 (v : Voy) : Int × Int := if inR v.hours 1 24 = false ∨ (!inR v.delay.lo 0 8 || !inR v.delay.hi 0 8) = true ∨ inR v.lots 1 3 = false then (0, 7) else if v.delay.hi < v.delay.lo then (0, 2) else (0, 0)
def partAt (v : Voy) : Nat → Int × Int
 | 0 => part1 v
 | 1 => failing 1 5 (kpErr v) v.keepers
 | 2 => failing 0 4 (drErr v) v.doors
 | _ => failing 0 5 (lkErr v) v.looks
theorem p1_ok (v : Voy) : Pure T 77 [encVoy v] (enc2 (part1 v)) := by
 refine pure_fn (af := a77) rfl (by simp [a77]) dd ?_
 (repeat (first | simp only [↓QA, QB, Nat.reduceLT, reduceIte, Nat.reduceEqDiff, Nat.reduceAdd, Nat.reduceLeDiff, Nat.reduceMul, Nat.reduceBEq, QXDDrP2, a77] | refine rd0 rfl ?_))
 ((first | refine callK_v (beyond_ok 1 24 [v.hours] (by simp)) (by simp [clr, clrs, ints]) (by simp [okV, okVs]) ?_ | refine callD_v (beyond_ok 1 24 [v.hours] (by simp)) (by simp [clr, clrs, ints]) (by simp [okV, okVs]) ?_); (repeat (first | simp only [↓QA, QB, Nat.reduceLT, reduceIte, Nat.reduceEqDiff, Nat.reduceAdd, Nat.reduceLeDiff, Nat.reduceMul, Nat.reduceBEq, QXDDrP2, beyond1] | refine rd0 rfl ?_)))
 cases h1 : inR v.hours 1 24
 ·(repeat (first | simp only [↓QA, QB, Nat.reduceLT, reduceIte, Nat.reduceEqDiff, Nat.reduceAdd, Nat.reduceLeDiff, Nat.reduceMul, Nat.reduceBEq, QXDDrP2] | refine rd0 rfl ?_))
  simp [part1, h1, enc2]
 ·(repeat (first | simp only [↓QA, QB, Nat.reduceLT, reduceIte, Nat.reduceEqDiff, Nat.reduceAdd, Nat.reduceLeDiff, Nat.reduceMul, Nat.reduceBEq, QXDDrP2] | refine rd0 rfl ?_))
  ((first | refine callK_v (beyond_ok 0 8 [v.delay.lo, v.delay.hi] (by simp)) (by simp [clr, clrs, ints]) (by simp [okV, okVs]) ?_ | refine callD_v (beyond_ok 0 8 [v.delay.lo, v.delay.hi] (by simp)) (by simp [clr, clrs, ints]) (by simp [okV, okVs]) ?_); (repeat (first | simp only [↓QA, QB, Nat.reduceLT, reduceIte, Nat.reduceEqDiff, Nat.reduceAdd, Nat.reduceLeDiff, Nat.reduceMul, Nat.reduceBEq, QXDDrP2, beyond2] | refine rd0 rfl ?_)))
  cases h2 : (!inR v.delay.lo 0 8 || !inR v.delay.hi 0 8)
  ·(repeat (first | simp only [↓QA, QB, Nat.reduceLT, reduceIte, Nat.reduceEqDiff, Nat.reduceAdd, Nat.reduceLeDiff, Nat.reduceMul, Nat.reduceBEq, QXDDrP2, h2] | refine rd0 rfl ?_))
   ((first | refine callK_v (beyond_ok 1 3 [v.lots] (by simp)) (by simp [clr, clrs, ints]) (by simp [okV, okVs]) ?_ | refine callD_v (beyond_ok 1 3 [v.lots] (by simp)) (by simp [clr, clrs, ints]) (by simp [okV, okVs]) ?_); (repeat (first | simp only [↓QA, QB, Nat.reduceLT, reduceIte, Nat.reduceEqDiff, Nat.reduceAdd, Nat.reduceLeDiff, Nat.reduceMul, Nat.reduceBEq, QXDDrP2, beyond1] | refine rd0 rfl ?_)))
   cases h3 : inR v.lots 1 3
   ·(repeat (first | simp only [↓QA, QB, Nat.reduceLT, reduceIte, Nat.reduceEqDiff, Nat.reduceAdd, Nat.reduceLeDiff, Nat.reduceMul, Nat.reduceBEq, QXDDrP2] | refine rd0 rfl ?_))
    simp [part1, h3, enc2]
   ·(repeat (first | simp only [↓QA, QB, Nat.reduceLT, reduceIte, Nat.reduceEqDiff, Nat.reduceAdd, Nat.reduceLeDiff, Nat.reduceMul, Nat.reduceBEq, QXDDrP2] | refine rd0 rfl ?_))
    cases h4 : decide (v.delay.hi < v.delay.lo)
    ·have h4' : ¬ v.delay.hi < v.delay.lo := by simpa using h4
     have hp : part1 v = (0, 0) := by simp only [part1, h1, h2, h3, h4', Bool.true_eq_false, Bool.false_eq_true, or_self, if_false]
     rw [hp]
     (repeat (first | simp only [↓QA, QB, Nat.reduceLT, reduceIte, Nat.reduceEqDiff, Nat.reduceAdd, Nat.reduceLeDiff, Nat.reduceMul, Nat.reduceBEq, QXDDrP2, h4, enc2] | refine rd0 rfl ?_))
    ·have h4' : v.delay.hi < v.delay.lo := by simpa using h4
     have hp : part1 v = (0, 2) := by simp only [part1, h1, h2, h3, h4', Bool.true_eq_false, Bool.false_eq_true, or_self, if_false, if_true]
     rw [hp]
     (repeat (first | simp only [↓QA, QB, Nat.reduceLT, reduceIte, Nat.reduceEqDiff, Nat.reduceAdd, Nat.reduceLeDiff, Nat.reduceMul, Nat.reduceBEq, QXDDrP2, h4, enc2] | refine rd0 rfl ?_))
  ·have hp : part1 v = (0, 7) := by simp only [part1, h2, true_or, or_true, if_true]
   rw [hp]
   (repeat (first | simp only [↓QA, QB, Nat.reduceLT, reduceIte, Nat.reduceEqDiff, Nat.reduceAdd, Nat.reduceLeDiff, Nat.reduceMul, Nat.reduceBEq, QXDDrP2, h2, enc2] | refine rd0 rfl ?_))
theorem p2_ok (v : Voy) (h : Fits v) : Pure T 79 [encVoy v] (enc2 (partAt v 1)) := by
 refine pure_fn (af := a79) rfl (by simp [a79]) dd ?_
 have hf := failing_kp [.cells (voyCells v)] (.func 81 [] [.ptr 0 0]) v.keepers 1 5 (kpErr v) h.keepers (fun τ => by try simp only [QS, QC, Nat.reduceLT, reduceIte, Nat.reduceEqDiff, Nat.reduceAdd, Nat.reduceLeDiff, Nat.reduceMul, Nat.reduceBEq, QXDDrP2, List.length_append]) fun i hi => chk1_ok v h i hi _
 try simp only [↓QA, QB, Nat.reduceLT, reduceIte, Nat.reduceEqDiff, Nat.reduceAdd, Nat.reduceLeDiff, Nat.reduceMul, Nat.reduceBEq, QXDDrP2] at hf
 (repeat (first | simp only [↓QA, QB, Nat.reduceLT, reduceIte, Nat.reduceEqDiff, Nat.reduceAdd, Nat.reduceLeDiff, Nat.reduceMul, Nat.reduceBEq, QXDDrP2, a79] | refine rd0 rfl ?_))
 refine callK_same hf ?_
 (repeat (first | simp only [↓QA, QB, Nat.reduceLT, reduceIte, Nat.reduceEqDiff, Nat.reduceAdd, Nat.reduceLeDiff, Nat.reduceMul, Nat.reduceBEq, QXDDrP2, enc2, partAt] | refine rd0 rfl ?_))
theorem p3_ok (v : Voy) (h : Fits v) : Pure T 85 [encVoy v] (enc2 (partAt v 2)) := by
 refine pure_fn (af := a85) rfl (by simp [a85]) dd ?_
 have hf := failing_door [.cells (voyCells v)] (.func 87 [] [.ptr 0 0]) v.doors 0 4 (drErr v) h.doors (fun τ => by try simp only [QS, QC, Nat.reduceLT, reduceIte, Nat.reduceEqDiff, Nat.reduceAdd, Nat.reduceLeDiff, Nat.reduceMul, Nat.reduceBEq, QXDDrP2, List.length_append]) fun i hi => chk2_ok v i _
 try simp only [↓QA, QB, Nat.reduceLT, reduceIte, Nat.reduceEqDiff, Nat.reduceAdd, Nat.reduceLeDiff, Nat.reduceMul, Nat.reduceBEq, QXDDrP2] at hf
 (repeat (first | simp only [↓QA, QB, Nat.reduceLT, reduceIte, Nat.reduceEqDiff, Nat.reduceAdd, Nat.reduceLeDiff, Nat.reduceMul, Nat.reduceBEq, QXDDrP2, a85] | refine rd0 rfl ?_))
 refine callK_same hf ?_
 (repeat (first | simp only [↓QA, QB, Nat.reduceLT, reduceIte, Nat.reduceEqDiff, Nat.reduceAdd, Nat.reduceLeDiff, Nat.reduceMul, Nat.reduceBEq, QXDDrP2, enc2, partAt] | refine rd0 rfl ?_))
theorem p4_ok (v : Voy) (h : Fits v) (hl : -9223372036854775808 < v.lots ∧ v.lots ≤ 9223372036854775807) : Pure T 88 [encVoy v] (enc2 (partAt v 3)) := by
 refine pure_fn (af := a88) rfl (by simp [a88]) dd ?_
 have hf := failing_look [.cells (voyCells v)] (.func 90 [] [.ptr 0 0]) v.looks 0 5 (lkErr v) h.looks (fun τ => by try simp only [QS, QC, Nat.reduceLT, reduceIte, Nat.reduceEqDiff, Nat.reduceAdd, Nat.reduceLeDiff, Nat.reduceMul, Nat.reduceBEq, QXDDrP2, List.length_append]) fun i hi => chk3_ok v hl i _
 try simp only [↓QA, QB, Nat.reduceLT, reduceIte, Nat.reduceEqDiff, Nat.reduceAdd, Nat.reduceLeDiff, Nat.reduceMul, Nat.reduceBEq, QXDDrP2] at hf
 (repeat (first | simp only [↓QA, QB, Nat.reduceLT, reduceIte, Nat.reduceEqDiff, Nat.reduceAdd, Nat.reduceLeDiff, Nat.reduceMul, Nat.reduceBEq, QXDDrP2, a88] | refine rd0 rfl ?_))
 refine callK_same hf ?_
 (repeat (first | simp only [↓QA, QB, Nat.reduceLT, reduceIte, Nat.reduceEqDiff, Nat.reduceAdd, Nat.reduceLeDiff, Nat.reduceMul, Nat.reduceBEq, QXDDrP2, enc2, partAt] | refine rd0 rfl ?_))
def theIds : List Nat := [77, 79, 85, 88]
def encP (i : Nat) : AV := .agg [.func i [] []]
theorem encP_eq (i : Nat) : encP i = .agg [.func i [] []] := by simp only [encP]
theorem parts_ok : Pure T 55 [] (.lit (theIds.map encP) false none) := by
 refine pure_fn (af := a55) rfl (by simp [a55]) datas_nil ?_
 (repeat (first | simp only [↓QA, QB, Nat.reduceLT, reduceIte, Nat.reduceEqDiff, Nat.reduceAdd, Nat.reduceLeDiff, Nat.reduceMul, Nat.reduceBEq, QXDDrP2, a55, theIds, encP, List.map_cons, List.map_nil] | refine rd0 rfl ?_))
theorem fail_part {α : Type} {a b : Int} {of : Nat → α → Int} {l : List α} (h : (failing a b of l).2 = 0) : inR l.length a b = true ∧ firstBad of l 0 = none := by
 unfold failing at h
 split at h
 ·simp at h
 ·rename_i h1
  split at h
  ·rename_i i e h2
   exact absurd h (firstBad_nz h2)
  ·rename_i h2
   exact ⟨by simpa using h1, h2⟩
theorem part1_ends {v : Voy} : (part1 v).2 = 0 ↔ ¬(inR v.hours 1 24 = false ∨ ends v.delay 0 8 = 7 ∨ inR v.lots 1 3 = false) ∧ ends v.delay 0 8 = 0 := by
 unfold part1 ends
 cases inR v.hours 1 24 <;> cases inR v.lots 1 3 <;> cases (!inR v.delay.lo 0 8 || !inR v.delay.hi 0 8) <;> by_cases h : v.delay.hi < v.delay.lo <;> simp [h]
theorem check_at {v : Voy} : ∀ k, k < 4 → (∀ j, j < k → (partAt v j).2 = 0) → (partAt v k).2 ≠ 0 → check v = ((k : Int) + 1, (partAt v k).1, (partAt v k).2)
 | 0, _, _, h => by
  simp only [partAt] at h ⊢
  unfold part1 check ends at *
  revert h
  cases inR v.hours 1 24 <;> cases inR v.lots 1 3 <;> cases (!inR v.delay.lo 0 8 || !inR v.delay.hi 0 8) <;> by_cases h : v.delay.hi < v.delay.lo <;> simp [h]
 | 1, _, hj, h => by
  obtain ⟨a1, a2⟩ := part1_ends.1 (hj 0 (by omega))
  have e : check v = check2 v := by rw [check, if_neg a1, if_pos a2]
  simp only [partAt] at h ⊢
  rw [e]
  unfold failing at *
  unfold check2
  cases h1 : inR v.keepers.length 1 5
  ·simp
  ·rw [h1] at h
   simp only [Bool.true_eq_false, if_false] at h ⊢
   cases h2 : firstBad (kpErr v) v.keepers 0 with
   | none => rw [h2] at h; simp at h
   | some p => rfl
 | 2, _, hj, h => by
  obtain ⟨a1, a2⟩ := part1_ends.1 (hj 0 (by omega))
  obtain ⟨b1, b2⟩ := fail_part (hj 1 (by omega))
  have e : check v = check3 v := by rw [check, if_neg a1, if_pos a2, check2, b1, b2]; rfl
  simp only [partAt] at h ⊢
  rw [e]
  unfold failing at *
  unfold check3
  by_cases h1 : 4 < v.doors.length
  ·have hi : inR v.doors.length 0 4 = false := by simp [inR]; omega
   simp [h1, hi]
  ·have hi : inR v.doors.length 0 4 = true := by simp [inR]; omega
   rw [hi] at h ⊢
   simp only [Bool.true_eq_false, if_false, h1] at h ⊢
   cases h2 : firstBad (drErr v) v.doors 0 with
   | none => rw [h2] at h; simp at h
   | some p => rfl
 | 3, _, hj, h => by
  obtain ⟨a1, a2⟩ := part1_ends.1 (hj 0 (by omega))
  obtain ⟨b1, b2⟩ := fail_part (hj 1 (by omega))
  obtain ⟨c1, c2⟩ := fail_part (hj 2 (by omega))
  have c3 : ¬ 4 < v.doors.length := by simp [inR] at c1; omega
  have e : check v = check4 v := by rw [check, if_neg a1, if_pos a2, check2, b1, b2]; simp only [check3, c2, c3, if_false]; rfl
  simp only [partAt] at h ⊢
  rw [e]
  unfold failing at *
  unfold check4
  by_cases h1 : 5 < v.looks.length
  ·have hi : inR v.looks.length 0 5 = false := by simp [inR]; omega
   simp [h1, hi]
  ·have hi : inR v.looks.length 0 5 = true := by simp [inR]; omega
   rw [hi] at h ⊢
   simp only [Bool.true_eq_false, if_false, h1] at h ⊢
   cases h2 : firstBad (lkErr v) v.looks 0 with
   | none => rw [h2] at h; simp at h
   | some p => rfl
 | k + 4, hk, _, _ => by omega
theorem check_none {v : Voy} (hj : ∀ j, j < 4 → (partAt v j).2 = 0) : check v = (0, 0, 0) := by
 obtain ⟨a1, a2⟩ := part1_ends.1 (hj 0 (by omega))
 obtain ⟨b1, b2⟩ := fail_part (hj 1 (by omega))
 obtain ⟨c1, c2⟩ := fail_part (hj 2 (by omega))
 obtain ⟨d1, d2⟩ := fail_part (hj 3 (by omega))
 have c3 : ¬ 4 < v.doors.length := by simp [inR] at c1; omega
 have d3 : ¬ 5 < v.looks.length := by simp [inR] at d1; omega
 rw [check, if_neg a1, if_pos a2, check2, b1, b2]
 simp only [check3, c2, c3, if_false, check4, d2, d3]
 rfl
theorem check_ok (v : Voy) (h : Fits v) : Pure T 16 [encVoy v] (enc3 (check v)) := by
 refine pure_fn (af := a16) rfl (by simp [a16]) dd ?_
 (repeat (first | simp only [↓QA, QB, Nat.reduceLT, reduceIte, Nat.reduceEqDiff, Nat.reduceAdd, Nat.reduceLeDiff, Nat.reduceMul, Nat.reduceBEq, QXDDrP2, a16] | refine rd0 rfl ?_))
 refine callK_d parts_ok rfl datas_nil ?_
 have hlen : (theIds.map encP).length = 4 := rfl
 have hle2 : theIds.length = 4 := rfl
 (repeat (first | simp only [↓QA, QB, Nat.reduceLT, reduceIte, Nat.reduceEqDiff, Nat.reduceAdd, Nat.reduceLeDiff, Nat.reduceMul, Nat.reduceBEq, QXDDrP2, hlen, hle2] | refine rd0 rfl ?_))
 refine loopE (S := Nat) 0 (fun k => k ≤ 4 ∧ ∀ j, j < k → (partAt v j).2 = 0) (fun k => 4 - k) (fun k => [(1, .ptr 0 0), (7, .lit (theIds.map encP) false none), (8, .int .i64 4), (9, .int .i64 k)]) (fun _ => [.cells (voyCells v)]) ⟨Nat.zero_le _, fun j hj => absurd hj (by omega)⟩ (by simp [voyCells]) ?_ fun k hk => ?_
 ·try simp only [TrimX, QE, Nat.reduceLT, reduceIte, Nat.reduceEqDiff, Nat.reduceAdd, Nat.reduceLeDiff, Nat.reduceMul, Nat.reduceBEq, QXDDrP2]
  try simp
 ·obtain ⟨hk4, hj⟩ := hk
  (repeat (first | simp only [↓QA, QB, Nat.reduceLT, reduceIte, Nat.reduceEqDiff, Nat.reduceAdd, Nat.reduceLeDiff, Nat.reduceMul, Nat.reduceBEq, QXDDrP2, L16_0] | refine rd0 rfl ?_))
  refine iteP_intro (fun hd => ?_) fun hd => ?_
  ·have hk1 : k < 4 := by simp at hd; omega
   have hw := wrapN hk1 (by omega)
   have hlk : k < theIds.length := hk1
   have hat := check_at (v := v) k hk1 hj
   have hnx : (partAt v k).2 = 0 → ∀ j, j < k + 1 → (partAt v j).2 = 0 := fun h0 j hj2 => by
    by_cases e : j = k
    ·rw [e]; exact h0
    ·exact hj j (by omega)
   obtain ⟨r, hr⟩ : ∃ r, partAt v k = r := ⟨_, rfl⟩
   rw [hr] at hat hnx
   have hlots : k = 3 → -9223372036854775808 < v.lots ∧ v.lots ≤ 9223372036854775807 := fun e => by
    have a1 := (part1_ends.1 (hj 0 (by omega))).1
    have : inR v.lots 1 3 = true := by
     cases hl : inR v.lots 1 3
     ·exact absurd (.inr (.inr hl)) a1
     ·rfl
    have := inR_iff.1 this
    omega
   have hpk : ∃ id, theIds[k] = id ∧ Pure T id [encVoy v] (enc2 r) := by
    rw [← hr]
    match k, hlk, hlots with
    | 0, _, _ => exact ⟨_, rfl, p1_ok v⟩
    | 1, _, _ => exact ⟨_, rfl, p2_ok v h⟩
    | 2, _, _ => exact ⟨_, rfl, p3_ok v h⟩
    | 3, _, hl => exact ⟨_, rfl, p4_ok v h (hl rfl)⟩
   obtain ⟨id, hid, hp⟩ := hpk
   have hcl : cellsOk 1 (.agg [.func id [] []]) = true := by simp [cellsOk, AV.cells, AV.cell]
   (repeat (first | simp only [↓QA, QB, Nat.reduceLT, reduceIte, Nat.reduceEqDiff, Nat.reduceAdd, Nat.reduceLeDiff, Nat.reduceMul, Nat.reduceBEq, QXDDrP2, hlk, hid, hcl, encP_eq] | refine rd0 rfl ?_))
   ((first | refine callK_d (hp) rfl dd ?_ | refine callD_d (hp) rfl dd ?_); (repeat (first | simp only [↓QA, QB, Nat.reduceLT, reduceIte, Nat.reduceEqDiff, Nat.reduceAdd, Nat.reduceLeDiff, Nat.reduceMul, Nat.reduceBEq, QXDDrP2, enc2] | refine rd0 rfl ?_)))
   cases h0 : (r.2 == 0)
   ·have h0' : r.2 ≠ 0 := by simpa using h0
    rw [hat h0']
    have hw2 : IntKind.i64.wrap ((k : Int) + 1) = (k : Int) + 1 := wrap64 ⟨by omega, by omega⟩
    (repeat (first | simp only [↓QA, QB, Nat.reduceLT, reduceIte, Nat.reduceEqDiff, Nat.reduceAdd, Nat.reduceLeDiff, Nat.reduceMul, Nat.reduceBEq, QXDDrP2, h0, hw2, enc3] | refine rd0 rfl ?_))
   ·have h0' : r.2 = 0 := by simpa using h0
    (repeat (first | simp only [↓QA, QB, Nat.reduceLT, reduceIte, Nat.reduceEqDiff, Nat.reduceAdd, Nat.reduceLeDiff, Nat.reduceMul, Nat.reduceBEq, QXDDrP2, h0] | refine rd0 rfl ?_))
    refine ⟨k + 1, ⟨by omega, hnx h0'⟩, by omega, ?_⟩
    try simp only [TrimX, QE, Nat.reduceLT, reduceIte, Nat.reduceEqDiff, Nat.reduceAdd, Nat.reduceLeDiff, Nat.reduceMul, Nat.reduceBEq, QXDDrP2, hw]
    try simp [okBlk, theIds, encP, okV, okVs, snapMs, snapM, snap, snaps, clrs, clr]
  ·have hk1 : k = 4 := by simp at hd; omega
   subst hk1
   rw [check_none hj]
   (repeat (first | simp only [↓QA, QB, Nat.reduceLT, reduceIte, Nat.reduceEqDiff, Nat.reduceAdd, Nat.reduceLeDiff, Nat.reduceMul, Nat.reduceBEq, QXDDrP2, enc3] | refine rd0 rfl ?_))
def db (v : Voy) (b m : Nat) : List AV := voyCells v ++ [.int .i64 b, .map m]
theorem db_0 (v : Voy) (b m : Nat) : (db v b m)[0]? = some (.int .i64 v.hours) := by simp [db, voyCells]
theorem db_1 (v : Voy) (b m : Nat) : (db v b m)[1]? = some (.int .i64 v.delay.lo) := by simp [db, voyCells]
theorem db_2 (v : Voy) (b m : Nat) : (db v b m)[2]? = some (.int .i64 v.delay.hi) := by simp [db, voyCells]
theorem db_3 (v : Voy) (b m : Nat) : (db v b m)[3]? = some (.lit (v.keepers.map encKp) false none) := by simp [db, voyCells]
theorem db_4 (v : Voy) (b m : Nat) : (db v b m)[4]? = some (.lit (v.doors.map encDoor) false none) := by simp [db, voyCells]
theorem db_5 (v : Voy) (b m : Nat) : (db v b m)[5]? = some (.int .i64 v.lots) := by simp [db, voyCells]
theorem db_6 (v : Voy) (b m : Nat) : (db v b m)[6]? = some (.lit (v.looks.map encLook) false none) := by simp [db, voyCells]
theorem db_7 (v : Voy) (b m : Nat) : (db v b m)[7]? = some (.int .i64 b) := by simp [db, voyCells]
theorem db_8 (v : Voy) (b m : Nat) : (db v b m)[8]? = some (.map m) := by simp [db, voyCells]
def lookSt (σ : St) (v : Voy) (b : Nat) : St := σ ++ [.cells (voyCells v), .map [], .cells (db v b (σ.length + 1))]
theorem look_run (σ : St) (v : Voy) (b : Nat) : Does T (.func 72 [] []) [encVoy v, .int .i64 b] σ (.ptr (σ.length + 2) 0) (lookSt σ v b) := by
 refine .callf (.call (af := a72) rfl (by simp [a72]) (run_wp (K := fun j e σ1 => (j = none ∨ j = some .ret) ∧ Env.get e 4 = .ptr (σ.length + 2) 0 ∧ σ1 = lookSt σ v b) ?_ fun o ho => ho) fun o ho => ?_)
 ·(repeat (first | simp only [↓QA, QB, Nat.reduceLT, reduceIte, Nat.reduceEqDiff, Nat.reduceAdd, Nat.reduceLeDiff, Nat.reduceMul, Nat.reduceBEq, QXDDrP2, a72, List.length_append, lookSt, db] | refine rd0 rfl ?_))
  try simp [db, voyCells, ints]
 ·refine ⟨ho.1, _, ?_, .inl ⟨ho.2.1, ho.2.2⟩⟩
  rfl
end Go.Am.Room
namespace Go.Am.Room
structure MemAt {M : Type} (S : M → St) (obj : List AV) (es : M → List (AV × AV)) (p m N : Nat) : Prop where
 len : ∀ M, (S M).length = N
 at0 : ∀ M, cellsAt (S M) p = some obj
 map0 : ∀ M, (S M)[m]? = some (.map (es M))
 mset : ∀ M M', (S M).set m (.map (es M')) = S M'
 ok : ∀ M k, okBlk k (.map (es M))
 pl : p < N
 ml : m < N
namespace MemAt
variable {M : Type} {S : M → St} {obj : List AV} {es : M → List (AV × AV)} {p m N : Nat}
theorem base (h : MemAt S obj es p m N) (A : M) (τ : St) (k : Nat) : cellsAt (S A ++ τ) (N + k) = cellsAt τ k := by rw [← h.len A]; exact M_base _ _ _
theorem base0 (h : MemAt S obj es p m N) (A : M) (τ : St) : cellsAt (S A ++ τ) N = cellsAt τ 0 := h.base A τ 0
theorem bset (h : MemAt S obj es p m N) (A : M) (τ : St) (k : Nat) (x : ABlk) : (S A ++ τ).set (N + k) x = S A ++ τ.set k x := by rw [← h.len A]; exact st_set _ _ _ _
theorem bset0 (h : MemAt S obj es p m N) (A : M) (τ : St) (x : ABlk) : (S A ++ τ).set N x = S A ++ τ.set 0 x := h.bset A τ 0 x
theorem at1 (h : MemAt S obj es p m N) (A : M) (τ : St) : cellsAt (S A ++ τ) p = some (obj) := by
 have := h.at0 A
 have hl := h.pl
 rw [← h.len A] at hl
 simp only [cellsAt] at this ⊢
 rw [List.getElem?_append_left hl]
 exact this
theorem map1 (h : MemAt S obj es p m N) (A : M) (τ : St) : (S A ++ τ)[m]? = some (.map (es A)) := by
 have hl := h.ml
 rw [← h.len A] at hl
 rw [List.getElem?_append_left hl]
 exact h.map0 A
theorem mset1 (h : MemAt S obj es p m N) (A B : M) (τ : St) : (S A ++ τ).set m (.map (es B)) = S B ++ τ := by
 have hl := h.ml
 rw [← h.len A] at hl
 rw [List.set_append_left _ _ hl, h.mset]
theorem keep (h : MemAt S obj es p m N) (A B : M) (i : Nat) (hi : i ≠ m) : (S B)[i]? = (S A)[i]? := by
 rw [← h.mset A B, List.getElem?_set_ne (fun e => hi e.symm)]
theorem kept (h : MemAt S obj es p m N) {A B : M} {σ τ : St} (hσ : σ = S B ++ τ) : ∀ i, i < (S A).length → blkKept (S A) σ (S A).length i := by
 intro i hi
 rw [hσ]
 have hl : i < (S B).length := by rw [h.len] at hi ⊢; exact hi
 by_cases him : i = m
 ·subst him
  refine .inr (.inl ⟨.map (es B), ?_, h.ok B _⟩)
  rw [List.getElem?_append_left hl, h.map0]
 ·refine .inl ?_
  rw [List.getElem?_append_left hl, h.keep A B i him]
theorem app (h : MemAt S obj es p m N) (τ : St) : MemAt (fun A => S A ++ τ) obj es p m (N + τ.length) :=
 ⟨fun A => by rw [List.length_append, h.len], fun A => h.at1 A τ, fun A => h.map1 A τ, fun A B => h.mset1 A B τ, h.ok, by have := h.pl; omega, by have := h.ml; omega⟩
theorem eqS (h : MemAt S obj es p m N) (k : Nat) (A B : M) (x y z : St) : EqS k (S A ++ x) (S B ++ y) (S B ++ z) = EqS k x y z := by
 rw [← h.mset A B]
 exact eqS_set k _ (h.ok B k) _ _ _ _ _
end MemAt
theorem does_memo {M : Type} {S : M → St} {obj : List AV} {es : M → List (AV × AV)} {p m N : Nat} (hR : MemAt S obj es p m N) {f : FuncId} {first cap args : List AV} {af : AFunc} {v : AV} {A B : M} (hf : T f = some af) (hn : (first ++ args ++ cap).length ≤ af.ntmps)
  (h : wp T af.body (argsEnv 0 (first ++ args ++ cap)) (S A) (fun j e σ1 => (j = none ∨ j = some .ret) ∧ ∃ v0 τ, resOf af.results e σ1 = some v0 ∧ σ1 = S B ++ τ ∧ snapM σ1 N 20 v0 = some v)) : Does T (.func f first cap) args (S A) v (S B) := by
 refine .callf (.call hf hn (run_wp h fun o ho => ho) fun o ho => ?_)
 obtain ⟨hj, v0, τ, hres, hσ, h4⟩ := ho
 refine ⟨hj, v0, hres, ?_⟩
 unfold snapM at h4
 cases hs : snap o.σ N 20 v0 with
 | none => rw [hs] at h4; cases h4
 | some v1 =>
  rw [hs] at h4
  simp at h4
  refine .inr ⟨20, v1, v, by rw [hR.len]; exact hs, .inr h4.symm, hR.kept hσ, ?_, rfl, ?_⟩
  ·rw [hσ, List.length_append, hR.len, hR.len]; omega
  ·rw [hσ, hR.len, ← hR.len B, List.take_left]
def iterF {A X : Type} (f : A → X → X × Bool) : List A → X → X × Bool
 | [], x => (x, true)
 | a :: az, x => if (f a x).2 = true then iterF f az (f a x).1 else ((f a x).1, false)
theorem iterF_app {A X : Type} (f : A → X → X × Bool) : ∀ (az bs : List A) (x : X), iterF f (az ++ bs) x = if (iterF f az x).2 = true then iterF f bs (iterF f az x).1 else ((iterF f az x).1, false)
 | [], bs, x => by simp [iterF]
 | a :: az, bs, x => by
  simp only [List.cons_append, iterF]
  split
  ·exact iterF_app f az bs _
  ·simp
structure Fam {X : Type} (Z ZD : X → St) (obj : List AV) (p q N : Nat) : Prop where
 len : ∀ x, (Z x).length = N
 lenD : ∀ x, (ZD x).length = N
 at0 : ∀ x, cellsAt (Z x) p = some obj
 atq0 : ∀ x, cellsAt (Z x) q = some [.ptr p 0]
 keep : ∀ x y k i, N ≤ k → i < N → blkKept (Z x) (Z y) k i
 keepD : ∀ x y k i, N ≤ k → i < N → blkKept (Z x) (ZD y) k i
 pl : p < N
 ql : q < N
namespace Fam
variable {X : Type} {Z ZD : X → St} {obj : List AV} {p q N : Nat}
theorem base (h : Fam Z ZD obj p q N) (x : X) (τ : St) (k : Nat) : cellsAt (Z x ++ τ) (N + k) = cellsAt τ k := by rw [← h.len x]; exact M_base _ _ _
theorem base0 (h : Fam Z ZD obj p q N) (x : X) (τ : St) : cellsAt (Z x ++ τ) N = cellsAt τ 0 := h.base x τ 0
theorem bset (h : Fam Z ZD obj p q N) (x : X) (τ : St) (k : Nat) (y : ABlk) : (Z x ++ τ).set (N + k) y = Z x ++ τ.set k y := by rw [← h.len x]; exact st_set _ _ _ _
theorem bset0 (h : Fam Z ZD obj p q N) (x : X) (τ : St) (y : ABlk) : (Z x ++ τ).set N y = Z x ++ τ.set 0 y := h.bset x τ 0 y
theorem at1 (h : Fam Z ZD obj p q N) (x : X) (τ : St) : cellsAt (Z x ++ τ) p = some obj := by
 have := h.at0 x
 have hl := h.pl
 rw [← h.len x] at hl
 simp only [cellsAt] at this ⊢
 rw [List.getElem?_append_left hl]
 exact this
theorem atq1 (h : Fam Z ZD obj p q N) (x : X) (τ : St) : cellsAt (Z x ++ τ) q = some [.ptr p 0] := by
 have := h.atq0 x
 have hl := h.ql
 rw [← h.len x] at hl
 simp only [cellsAt] at this ⊢
 rw [List.getElem?_append_left hl]
 exact this
theorem leaveW (h : Fam Z ZD obj p q N) {x : X} {W υ τ' σ' : St} (hW : W.length = N) (hk : ∀ k i, N ≤ k → i < N → blkKept (Z x) W k i) {v : Bool} {Q : Out → Prop} (hσ : σ' = W ++ (υ ++ τ')) (hQ : Q ⟨none, [], W ++ υ, .bool v⟩) : Leave (Z x ++ υ) σ' (.bool v) Q := by
 refine .inr ⟨20, .bool v, .bool v, by simp [snap], .inl rfl, fun i hi => ?_, ?_, ?_⟩
 ·rw [hσ]
  rw [List.length_append, h.len] at hi ⊢
  by_cases hn : i < N
  ·have := hk (N + υ.length) i (by omega) hn
   have e1 : (Z x ++ υ)[i]? = (Z x)[i]? := List.getElem?_append_left (by rw [h.len]; exact hn)
   have e2 : (W ++ (υ ++ τ'))[i]? = W[i]? := List.getElem?_append_left (by rw [hW]; exact hn)
   simp only [blkKept, e1, e2] at this ⊢
   exact this
  ·refine .inl ?_
   have e1 : (W ++ (υ ++ τ'))[i]? = (υ ++ τ')[i - N]? := by rw [List.getElem?_append_right (by omega), hW]
   have e2 : (Z x ++ υ)[i]? = υ[i - N]? := by rw [List.getElem?_append_right (by rw [h.len]; omega), h.len]
   rw [e1, e2, List.getElem?_append_left (by omega)]
 ·rw [hσ]
  simp only [List.length_append, h.len, hW]
  omega
 ·have e1 : σ'.take (Z x ++ υ).length = W ++ υ := by
   have q1 : (Z x ++ υ).length = (W ++ υ).length := by simp only [List.length_append, h.len, hW]
   rw [hσ, q1, ← List.append_assoc]
   exact List.take_left
  rw [e1]
  exact hQ
def out (Z ZD : X → St) (r : X × Bool) : St := if r.2 = true then Z r.1 else ZD r.1
theorem leave (h : Fam Z ZD obj p q N) {x : X} {r : X × Bool} {υ τ' σ' : St} {Q : Out → Prop} (hσ : σ' = out Z ZD r ++ (υ ++ τ')) (hQ : Q ⟨none, [], out Z ZD r ++ υ, .bool r.2⟩) : Leave (Z x ++ υ) σ' (.bool r.2) Q := by
 unfold out at hσ hQ
 split at hσ
 ·rename_i hr
  rw [if_pos hr] at hQ
  exact h.leaveW (h.len _) (fun k i hk hi => h.keep _ _ k i hk hi) hσ hQ
 ·rename_i hr
  rw [if_neg hr] at hQ
  exact h.leaveW (h.lenD _) (fun k i hk hi => h.keepD _ _ k i hk hi) hσ hQ
end Fam
theorem iterF_one {A X : Type} (f : A → X → X × Bool) (a : A) (x : X) : iterF f [a] x = f a x := by
 simp only [iterF]
 obtain ⟨y, bb⟩ := f a x
 cases bb <;> simp
structure Fam1 {X : Type} {M : Type} (Z ZD : X → M → St) (obj : List AV) (es : M → List (AV × AV)) (p m q N : Nat) : Prop where
 ship : ∀ x, MemAt (Z x) obj es p m N
 lenD : ∀ x A, (ZD x A).length = N
 atq0 : ∀ x A, cellsAt (Z x A) q = some [.ptr p 0]
 keep : ∀ x A y B k i, N ≤ k → i < N → blkKept (Z x A) (Z y B) k i
 keepD : ∀ x A y B k i, N ≤ k → i < N → blkKept (Z x A) (ZD y B) k i
 ql : q < N
 pl : p < N
namespace Fam1
variable {X : Type} {M : Type} {Z ZD : X → M → St} {obj : List AV} {es : M → List (AV × AV)} {p m q N : Nat}
theorem atq1 (h : Fam1 Z ZD obj es p m q N) (x : X) (A : M) (τ : St) : cellsAt (Z x A ++ τ) q = some [.ptr p 0] := by
 have := h.atq0 x A
 have hl := h.ql
 rw [← (h.ship x).len A] at hl
 simp only [cellsAt] at this ⊢
 rw [List.getElem?_append_left hl]
 exact this
def out (Z ZD : X → M → St) (r : X × Bool) (A : M) : St := if r.2 = true then Z r.1 A else ZD r.1 A
end Fam1
def YieldsT {X A M : Type} (Z ZD : X → M → St) (id : Nat) (args : A → Bool → Option Nat → List AV) (P : A → Prop) (f : A → X → X × Bool) : Prop :=
 ∀ t, P t → ∀ (fl : Bool) (tk : Option Nat) x B τ, Run T (.callv (.yield id) (args t fl tk) (Z x B ++ τ)) fun o => o.v = .bool (f t x).2 ∧ ∃ τ', o.σ = Fam1.out Z ZD (f t x) B ++ (τ ++ τ')
theorem fam1_of {X : Type} {M : Type} {S : M → St} {obj : List AV} {es : M → List (AV × AV)} {p m N : Nat} (hS : MemAt S obj es p m N) (U UD : X → St) (n : Nat) (hU : ∀ x, (U x).length = n) (hUD : ∀ x, (UD x).length = n) (ok : ∀ x y, y ∈ U x → ∀ k, N ≤ k → okBlk k y) (okD : ∀ x y, y ∈ UD x → ∀ k, N ≤ k → okBlk k y)
  (env : Env) (ps : List Nat) (a bb : ACode) (st st' : LS) (pe pe' : Option AJump) :
  Fam1 (fun x A => S A ++ (U x ++ [.cells [.ptr p 0], .loop st pe env ps a bb])) (fun x A => S A ++ (UD x ++ [.cells [.ptr p 0], .loop st' pe' env ps a bb])) obj es p m (N + n) (N + n + 2) := by
 have hpl := hS.pl
 have low : ∀ (A B : M) (C D : St) (k i : Nat), i < N → blkKept (S A ++ C) (S B ++ D) k i := by
  intro A B C D k i hi
  have e1 : (S A ++ C)[i]? = (S A)[i]? := List.getElem?_append_left (by rw [hS.len]; exact hi)
  have e2 : (S B ++ D)[i]? = (S B)[i]? := List.getElem?_append_left (by rw [hS.len]; exact hi)
  simp only [blkKept, e1, e2]
  by_cases him : i = m
  ·subst him
   exact .inr (.inl ⟨_, hS.map0 B, hS.ok B k⟩)
  ·exact .inl (hS.keep A B i him)
 have high : ∀ (A B : M) (C D : St) (l1 l2 : ABlk) (k i : Nat), C.length = n → D.length = n → (∀ y ∈ D, okBlk k y) → N ≤ i → i < N + n + 2 → (l1 = l2 ∨ ∃ st pe st' pe' env ps a b, l1 = .loop st pe env ps a b ∧ l2 = .loop st' pe' env ps a b) →
   blkKept (S A ++ (C ++ [.cells [.ptr p 0], l1])) (S B ++ (D ++ [.cells [.ptr p 0], l2])) k i := by
  intro A B C D l1 l2 k i hA hB hk h1 h2 hl
  have e1 : (S A ++ (C ++ [.cells [.ptr p 0], l1]))[i]? = (C ++ [.cells [.ptr p 0], l1])[i - N]? := by rw [List.getElem?_append_right (by rw [hS.len]; exact h1), hS.len]
  have e2 : (S B ++ (D ++ [.cells [.ptr p 0], l2]))[i]? = (D ++ [.cells [.ptr p 0], l2])[i - N]? := by rw [List.getElem?_append_right (by rw [hS.len]; exact h1), hS.len]
  simp only [blkKept, e1, e2]
  obtain ⟨j, hj⟩ : ∃ j, i - N = j := ⟨_, rfl⟩
  rw [hj]
  by_cases hjn : j < n
  ·right; left
   have hb : j < D.length := by omega
   refine ⟨D[j], ?_, hk _ (List.getElem_mem hb)⟩
   rw [List.getElem?_append_left hb, List.getElem?_eq_getElem hb]
  ·have : j = n ∨ j = n + 1 := by omega
   rcases this with rfl | rfl
   ·left
    rw [List.getElem?_append_right (by omega), List.getElem?_append_right (by omega), hA, hB]
    simp
   ·rw [List.getElem?_append_right (by omega), List.getElem?_append_right (by omega), hA, hB]
    simp only [Nat.add_sub_cancel_left, List.getElem?_cons_succ, List.getElem?_cons_zero]
    rcases hl with rfl | ⟨_, _, _, _, _, _, _, _, rfl, rfl⟩
    ·exact .inl rfl
    ·exact .inr (.inr ⟨_, _, _, _, _, _, _, _, rfl, rfl⟩)
 refine ⟨fun x => ?_, fun x A => ?_, fun x A => ?_, fun x A y B k i hk hi => ?_, fun x A y B k i hk hi => ?_, by omega, by omega⟩
 ·have := hS.app (U x ++ [.cells [.ptr p 0], .loop st pe env ps a bb])
  rw [List.length_append, hU] at this
  exact this
 ·simp [hS.len, hUD]; omega
 ·have e : N + n = (S A).length + n := by rw [hS.len]
  rw [e, M_base]
  have : n = (U x).length := by rw [hU]
  rw [this]
  exact M_base0 _ _
 ·by_cases h : i < N
  ·exact low _ _ _ _ _ _ h
  ·exact high _ _ _ _ _ _ _ _ (hU x) (hU y) (fun z hz => ok y z hz k (by omega)) (by omega) hi (.inl rfl)
 ·by_cases h : i < N
  ·exact low _ _ _ _ _ _ h
  ·exact high _ _ _ _ _ _ _ _ (hU x) (hUD y) (fun z hz => okD y z hz k (by omega)) (by omega) hi (.inr ⟨_, _, _, _, _, _, _, _, rfl, rfl⟩)
theorem range_of {X A M : Type} {S : M → St} {obj : List AV} {es : M → List (AV × AV)} {p m N : Nat} (hS : MemAt S obj es p m N) (U UD : X → St) (n : Nat) (hU : ∀ x, (U x).length = n) (hUD : ∀ x, (UD x).length = n)
  (J : AJump) (e : Env) (k : Nat) (ps : List Nat) (a bb : ACode) (g : FuncId) (ek : Env.get e k = .func g [] [.ptr (N + n) 0]) (r : X × Bool) (B' : M) (x : X) (B : M)
  (hrun : Run T (.call g [.yield (N + n + 1), .ptr (N + n) 0] (S B ++ (U x ++ [.cells [.ptr p 0], .loop .ready none e ps a bb]))) fun o => ∃ τ', o.σ = Fam1.out (fun x A => S A ++ (U x ++ [.cells [.ptr p 0], .loop .ready none e ps a bb])) (fun x A => S A ++ (UD x ++ [.cells [.ptr p 0], .loop .done (some J) e ps a bb])) r B' ++ τ') (K : KJ)
  (hT : ∀ τ, r.2 = true → K none e (S B' ++ (U r.1 ++ (.cells [.ptr p 0] :: .dead :: τ))))
  (hD : ∀ τ, r.2 = false → K (some J) e (S B' ++ (UD r.1 ++ (.cells [.ptr p 0] :: .dead :: τ)))) :
  rK (K := ⟨K⟩) T (.rangeFunc (.t k) ps a bb) e (S B ++ (U x ++ [.cells [.ptr p 0]])) := by
 have hlen : (S B ++ (U x ++ [ABlk.cells [.ptr p 0]])).length = N + n + 1 := by simp [hS.len, hU]; omega
 have hout : ∀ (A W : St) (lp : ABlk) (τ' : St), A.length = N → W.length = n → (A ++ (W ++ [ABlk.cells [.ptr p 0], lp]) ++ τ')[N + n + 1]? = some lp ∧ (A ++ (W ++ [ABlk.cells [.ptr p 0], lp]) ++ τ').set (N + n + 1) .dead = A ++ (W ++ (.cells [.ptr p 0] :: .dead :: τ')) := by
  intro A W lp τ' hA hW
  have h1 : N + n + 1 = (A ++ W).length + 1 := by simp [hA, hW]
  have h2 : A ++ (W ++ [ABlk.cells [.ptr p 0], lp]) ++ τ' = (A ++ W) ++ (.cells [.ptr p 0] :: lp :: τ') := by simp
  rw [h1, h2]
  constructor
  ·rw [st_get]; rfl
  ·rw [st_set]; simp
 refine rK_range (by rw [q_evt, ek]) (by
  rw [hlen, List.append_assoc (S B), List.append_assoc (U x)]
  exact hrun) fun o ho => ?_
 obtain ⟨τ', hσ⟩ := ho
 rw [hlen, hσ]
 cases hr2 : r.2
 ·have hD' := hD τ' hr2
  obtain ⟨g1, g2⟩ := hout (S B') (UD r.1) (.loop .done (some J) e ps a bb) τ' (hS.len _) (hUD _)
  simp only [Fam1.out, hr2, Bool.false_eq_true, if_false]
  rw [g1, g2]
  exact ⟨_, _, _, _, _, _, rfl, by simp, hD'⟩
 ·have hT' := hT τ' hr2
  obtain ⟨g1, g2⟩ := hout (S B') (U r.1) (.loop .ready none e ps a bb) τ' (hS.len _) (hU _)
  simp only [Fam1.out, hr2, if_true]
  rw [g1, g2]
  exact ⟨_, _, _, _, _, _, rfl, by simp, hT'⟩
theorem yields_of {X A M : Type} {S : M → St} {obj : List AV} {es : M → List (AV × AV)} {p m N : Nat} (hS : MemAt S obj es p m N) (U UD : X → St) (n : Nat) (hU : ∀ x, (U x).length = n) (hUD : ∀ x, (UD x).length = n) (J : AJump) (e : Env) (ps : List Nat) (args : A → Bool → Option Nat → List AV) (hps : ∀ t fl tk, ps.length = (args t fl tk).length) (a bb : ACode) {P : A → Prop} {f : A → X → X × Bool}
  (h : ∀ t, P t → ∀ (fl : Bool) (tk : Option Nat) x B τ, wp T a (bindPs e ps (args t fl tk)) (S B ++ (U x ++ (.cells [.ptr p 0] :: .loop .ready none e ps a bb :: τ))) (fun j e' σ' => j = none ∧ σ' = S B ++ (U x ++ (.cells [.ptr p 0] :: .loop .ready none e ps a bb :: τ)) ∧
   wp T bb e' (S B ++ (U x ++ (.cells [.ptr p 0] :: .loop .busy none e ps a bb :: τ))) (fun j e'' σ'' => ((f t x).2 = true ∧ j = none ∧ ∃ τ', σ'' = S B ++ (U (f t x).1 ++ (.cells [.ptr p 0] :: .loop .busy none e ps a bb :: (τ ++ τ')))) ∨
    ((f t x).2 = false ∧ j = some J ∧ ∃ τ', σ'' = S B ++ (UD (f t x).1 ++ (.cells [.ptr p 0] :: .loop .busy none e ps a bb :: (τ ++ τ'))))))) :
  YieldsT (fun x B => S B ++ (U x ++ [.cells [.ptr p 0], .loop .ready none e ps a bb])) (fun x B => S B ++ (UD x ++ [.cells [.ptr p 0], .loop .done (some J) e ps a bb])) (N + n + 1) args P f := by
 intro t ht fl tk x B τ
 have hget : ∀ (A W : St) (lp : ABlk) (υ : St), A.length = N → W.length = n → (A ++ (W ++ (ABlk.cells [.ptr p 0] :: lp :: υ)))[N + n + 1]? = some lp := by
  intro A W lp υ hA hW
  have h1 : N + n + 1 = (A ++ W).length + 1 := by simp [hA, hW]
  rw [h1, ← List.append_assoc, st_get]; rfl
 have hset : ∀ (A W : St) (lp l2 : ABlk) (υ : St), A.length = N → W.length = n → (A ++ (W ++ (ABlk.cells [.ptr p 0] :: lp :: υ))).set (N + n + 1) l2 = A ++ (W ++ (ABlk.cells [.ptr p 0] :: l2 :: υ)) := by
  intro A W lp l2 υ hA hW
  have h1 : N + n + 1 = (A ++ W).length + 1 := by simp [hA, hW]
  rw [h1, ← List.append_assoc, st_set]
  simp
 obtain ⟨r, hr⟩ : ∃ r, f t x = r := ⟨_, rfl⟩
 have h := h t ht fl tk x B τ
 rw [hr] at h ⊢
 have hst : (fun x B => S B ++ (U x ++ [ABlk.cells [.ptr p 0], .loop .ready none e ps a bb])) x B ++ τ = S B ++ (U x ++ (.cells [.ptr p 0] :: .loop .ready none e ps a bb :: τ)) := by simp
 rw [hst]
 refine .round (env := e) (ps := ps) (a := a) (b := bb)
  (R := fun o => o.j = none ∧ o.σ = S B ++ (U x ++ (.cells [.ptr p 0] :: .loop .ready none e ps a bb :: τ)) ∧ wp T bb o.env (S B ++ (U x ++ (.cells [.ptr p 0] :: .loop .busy none e ps a bb :: τ))) (fun j e'' σ'' => (r.2 = true ∧ j = none ∧ ∃ τ', σ'' = S B ++ (U r.1 ++ (.cells [.ptr p 0] :: .loop .busy none e ps a bb :: (τ ++ τ')))) ∨
    (r.2 = false ∧ j = some J ∧ ∃ τ', σ'' = S B ++ (UD r.1 ++ (.cells [.ptr p 0] :: .loop .busy none e ps a bb :: (τ ++ τ'))))))
  (S := fun o => (r.2 = true ∧ o.j = none ∧ ∃ τ', o.σ = S B ++ (U r.1 ++ (.cells [.ptr p 0] :: .loop .busy none e ps a bb :: (τ ++ τ')))) ∨ (r.2 = false ∧ o.j = some J ∧ ∃ τ', o.σ = S B ++ (UD r.1 ++ (.cells [.ptr p 0] :: .loop .busy none e ps a bb :: (τ ++ τ'))))) (hget _ _ _ _ (hS.len _) (hU _)) (by rw [hps t fl tk]) (run_wp h fun o ho => ho) ?_ ?_ ?_
 ·rintro o ⟨hj, hσ, _⟩
  exact ⟨hj, by rw [hσ]; exact hget _ _ _ _ (hS.len _) (hU _)⟩
 ·rintro o ⟨_, hσ, hw⟩
  rw [hσ, hset _ _ _ _ _ (hS.len _) (hU _)]
  exact run_wp hw fun o ho => ho
 ·rintro o (⟨hr2, hj, τ', hσ⟩ | ⟨hr2, hj, τ', hσ⟩)
  ·rw [hσ, hj, hget _ _ _ _ (hS.len _) (hU _), hset _ _ _ _ _ (hS.len _) (hU _)]
   refine ⟨rfl, by rw [hr2]; rfl, τ', ?_⟩
   simp [Fam1.out, hr2]
  ·rw [hσ, hj, hget _ _ _ _ (hS.len _) (hUD _), hset _ _ _ _ _ (hS.len _) (hUD _)]
   refine ⟨rfl, by rw [hr2]; rfl, τ', ?_⟩
   simp [Fam1.out, hr2]
theorem iterF_go {A X : Type} {f : A → X → X × Bool} (h : ∀ a x, (f a x).2 = true) : ∀ (l : List A) (x : X), iterF f l x = (l.foldl (fun x a => (f a x).1) x, true)
 | [], x => rfl
 | a :: az, x => by simp only [iterF, h, if_true, List.foldl_cons]; exact iterF_go h az _
end Go.Am.Room
