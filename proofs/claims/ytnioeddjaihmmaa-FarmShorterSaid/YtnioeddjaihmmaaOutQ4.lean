/- A part of the proofs: an abstract machine, or what functions come to on it. -/
import Derived.Test.YtnioeddjaihmmaaOutQ3
import Derived.Lib.Strings
import Derived.Laws.RangeAny
set_option linter.unusedVariables false
set_option linter.unusedSimpArgs false
set_option linter.defProp false
namespace Go.Am
variable {T : FuncId → Option AFunc}
def readP (r : ARead) : List St → Nat → Prop
 | [], _ => True
 | s :: ss, j => (if r.lo ≤ j ∧ j ≤ r.hi then aop r.op r.env s = some (r.v, s) else True) ∧ readP r ss (j + 1)
theorem readP_ok {r : ARead} : ∀ {hist : List St} {k : Nat}, readP r hist k → ∀ j s, r.lo ≤ k + j → k + j ≤ r.hi → hist[j]? = some s → aop r.op r.env s = some (r.v, s)
 | [], k, _, j, s, _, _, h => by simp at h
 | t :: ss, k, h, j, s, h1, h2, h3 => by
  obtain ⟨q1, q2⟩ := h
  cases j with
  | zero => simp at h3; subst h3; rw [if_pos ⟨by omega, by omega⟩] at q1; exact q1
  | succ j => exact readP_ok q2 j s (by omega) (by omega) (by simpa using h3)
def readsP : List ARead → List St → Prop
 | [], _ => True
 | r :: rs, hist => readP r hist 0 ∧ readsP rs hist
theorem readsP_ok : ∀ {rs : List ARead} {hist : List St}, readsP rs hist → ∀ r ∈ rs, ARead.ok r hist
 | [], _, _, r, h => by cases h
 | r :: rs, hist, h, q, hq => by
  rcases List.mem_cons.1 hq with rfl | hq
  ·intro j s h1 h2 h3
   exact readP_ok h.1 j s (by omega) (by omega) h3
  ·exact readsP_ok h.2 q hq
def CallD (T : FuncId → Option AFunc) (f : AV) (args : List AV) (σ : St) (K : AV → St → Prop) : Prop := ∃ v σ', Run T (.callv f args σ) (fun r => r.v = v ∧ r.σ = σ') ∧ K v σ'
@[congr] theorem CallD_congr {f f' : AV} {args args' : List AV} {σ σ' : St} {K : AV → St → Prop} (h1 : f = f') (h2 : args = args') (h3 : σ = σ') : CallD T f args σ K = CallD T f' args' σ' K := by rw [h1, h2, h3]
def wpD (T : FuncId → Option AFunc) : List ADOper → Env → St → Nat → List St → List ARead → (Env → St → Prop) → Prop
 | [], e, σ, _, hist, reads, K => readsP reads hist ∧ K e σ
 | ⟨⟨dst, .call f args, none⟩, _, _⟩ :: ds, e, σ, next, hist, reads, K => CallD T (f.ev e) (args.map (·.ev e)) σ fun v σ' => wpD T ds (Env.put e dst v) σ' next (hist ++ [σ']) reads K
 | ⟨⟨dst, .alloc _, none⟩, _, _⟩ :: ds, e, σ, next, hist, reads, K => wpD T ds (Env.put e dst (.ptr next 0)) σ (next + 1) hist reads K
 | ⟨⟨dst, q, none⟩, lo, hi⟩ :: ds, e, σ, next, hist, reads, K =>
  bindO (aop q e σ) fun v σ' =>
   if q.acts = true then wpD T ds (Env.put e dst v) σ' next (hist ++ [σ']) reads K
   else σ' = σ ∧ if q.reads = true then wpD T ds (Env.put e dst v) σ next hist (⟨lo, hi, q, e, v⟩ :: reads) K else wpD T ds (Env.put e dst v) σ next hist reads K
 | ⟨⟨dst, .call f args, some (t, want)⟩, _, _⟩ :: ds, e, σ, next, hist, reads, K =>
  bindG (Env.get e t) want (fun _ => CallD T (f.ev e) (args.map (·.ev e)) σ fun v σ' => wpD T ds (Env.put e dst v) σ' next (hist ++ [σ']) reads K)
   (fun _ => wpD T ds (Env.put e dst (.tuple [])) σ next (hist ++ [σ]) reads K)
 | ⟨⟨dst, q, some (t, want)⟩, lo, hi⟩ :: ds, e, σ, next, hist, reads, K =>
  bindG (Env.get e t) want
   (fun _ => q.allocs = false ∧ bindO (aop q e σ) fun v σ' =>
    if q.acts = true then wpD T ds (Env.put e dst v) σ' next (hist ++ [σ']) reads K
    else σ' = σ ∧ if q.reads = true then wpD T ds (Env.put e dst v) σ next hist (⟨lo, hi, q, e, v⟩ :: reads) K else wpD T ds (Env.put e dst v) σ next hist reads K)
   (fun _ => wpD T ds (Env.put e dst (.tuple [])) σ (if q.allocs then next + 1 else next) (if q.acts then hist ++ [σ] else hist) reads K)
theorem run_wpD {Q : Out → Prop} : ∀ {ds : List ADOper} {e : Env} {σ : St} {next : Nat} {hist : List St} {reads : List ARead} {K : Env → St → Prop}, wpD T ds e σ next hist reads K →
  (∀ e σ, K e σ → Q ⟨none, e, σ, .undef⟩) → Run T (.dops ds e σ next hist reads) Q
 | [], e, σ, next, hist, reads, K, h, hq => .dnil (readsP_ok h.1) (hq _ _ h.2)
 | ⟨⟨dst, q, g⟩, lo, hi⟩ :: ds, e, σ, next, hist, reads, K, h, hq => by
  -- an operation that is neither a call nor a new variable
  have key : AOper.wanted ⟨dst, q, g⟩ e = some true → q.allocs = false → (bindO (aop q e σ) fun v σ' =>
    if q.acts = true then wpD T ds (Env.put e dst v) σ' next (hist ++ [σ']) reads K
    else σ' = σ ∧ if q.reads = true then wpD T ds (Env.put e dst v) σ next hist (⟨lo, hi, q, e, v⟩ :: reads) K else wpD T ds (Env.put e dst v) σ next hist reads K) →
    Run T (.dops (⟨⟨dst, q, g⟩, lo, hi⟩ :: ds) e σ next hist reads) Q := by
   intro hw hal h
   unfold bindO at h
   split at h
   ·rename_i v σ' hv
    split at h
    ·rename_i ha; exact .dact hw ha hv (run_wpD h hq)
    ·rename_i ha
     obtain ⟨rfl, h⟩ := h
     split at h
     ·rename_i hr; exact .dread hw hr hv (run_wpD h hq)
     ·rename_i hr; exact .dpure hw (by simp [hal]; exact ⟨by simpa using ha, by simpa using hr⟩) hv (run_wpD h hq)
   ·exact h.elim
  by_cases hc : ∃ f args, q = .call f args
  ·obtain ⟨f, args, rfl⟩ := hc
   cases g with
   | none =>
    simp only [wpD, CallD] at h
    obtain ⟨v, σ', h1, h2⟩ := h
    exact .dcall rfl rfl h1 (run_wpD h2 hq)
   | some g =>
    obtain ⟨t, want⟩ := g
    simp only [wpD, bindG] at h
    split at h
    ·rename_i b h1
     split at h
     ·rename_i hb
      obtain ⟨v, σ', h3, h4⟩ := h
      exact .dcall (by simp [AOper.wanted, h1, hb]) rfl h3 (run_wpD h4 hq)
     ·rename_i hb
      exact .doff (by simp [AOper.wanted, h1]; simpa using hb) (by simpa [AOp.allocs, AOp.acts] using run_wpD h hq)
    ·rename_i h1
     exact .doff (by simp [AOper.wanted, h1]) (by simpa [AOp.allocs, AOp.acts] using run_wpD h hq)
    ·exact h.elim
  ·cases g with
   | none =>
    by_cases hal : ∃ z, q = .alloc z
    ·obtain ⟨z, rfl⟩ := hal
     simp only [wpD] at h
     exact .dalloc rfl rfl (run_wpD h hq)
    ·refine key rfl ?_ ?_
     ·cases q <;> first | rfl | exact absurd ⟨_, rfl⟩ hal
     ·cases q <;> first | exact h | exact absurd ⟨_, _, rfl⟩ hc | exact absurd ⟨_, rfl⟩ hal
   | some g =>
    obtain ⟨t, want⟩ := g
    have h : bindG (Env.get e t) want (fun _ => q.allocs = false ∧ bindO (aop q e σ) fun v σ' =>
      if q.acts = true then wpD T ds (Env.put e dst v) σ' next (hist ++ [σ']) reads K
      else σ' = σ ∧ if q.reads = true then wpD T ds (Env.put e dst v) σ next hist (⟨lo, hi, q, e, v⟩ :: reads) K else wpD T ds (Env.put e dst v) σ next hist reads K)
      (fun _ => wpD T ds (Env.put e dst (.tuple [])) σ (if q.allocs then next + 1 else next) (if q.acts then hist ++ [σ] else hist) reads K) := by
     cases q <;> first | exact h | exact absurd ⟨_, _, rfl⟩ hc
    simp only [bindG] at h
    split at h
    ·rename_i b h1
     split at h
     ·rename_i hb
      exact key (by simp [AOper.wanted, h1, hb]) h.1 h.2
     ·rename_i hb
      exact .doff (by simp [AOper.wanted, h1]; simpa using hb) (run_wpD h hq)
    ·rename_i h1
     exact .doff (by simp [AOper.wanted, h1]) (run_wpD h hq)
    ·exact h.elim
end Go.Am
namespace Go.Am
variable {T : FuncId → Option AFunc}
class HP (α : Type) where
 out : α
def bO (r : Option (AV × St)) [K : HP (AV → St → Prop)] : Prop := bindO r K.out
theorem B_some (v : AV) (σ : St) (K : AV → St → Prop) : bO (K := ⟨K⟩) (some (v, σ)) = K v σ := by simp only [bO, bindO]
def cK (T : FuncId → Option AFunc) (f : AV) (args : List AV) (σ : St) [K : HP (AV → St → Prop)] : Prop := CallK T f args σ K.out
def cD (T : FuncId → Option AFunc) (f : AV) (args : List AV) (σ : St) [K : HP (AV → St → Prop)] : Prop := CallD T f args σ K.out
def rK (T : FuncId → Option AFunc) (c : ACode) (e : Env) (σ : St) [K : HP KJ] : Prop := RunK T c e σ K.out
def iteP (b : Bool) [A : HP Prop] [B : HP Prop] : Prop := if b = true then A.out else B.out
theorem iteP_true (A : Prop) (B : HP Prop) : iteP (A := ⟨A⟩) true = A := by simp [iteP]
theorem iteP_false (A : HP Prop) (B : Prop) : iteP (B := ⟨B⟩) false = B := by simp [iteP]
theorem iteP_intro {b : Bool} {A B : Prop} (h1 : b = true → A) (h2 : b = false → B) : iteP (A := ⟨A⟩) (B := ⟨B⟩) b := by cases b <;> simp [iteP] <;> first | exact h1 rfl | exact h2 rfl
def bB (v : AV) [A : HP Prop] [B : HP Prop] : Prop := bindB v (fun _ => A.out) (fun _ => B.out)
def bG (v : AV) (want : Bool) [A : HP Prop] [B : HP Prop] : Prop := bindG v want (fun _ => A.out) (fun _ => B.out)
theorem W_loop (b : ACode) (e : Env) (σ : St) (K : KJ) : wp T (.loop b) e σ K = rK (K := ⟨K⟩) T (.loop b) e σ := by simp only [wp, rK]
theorem W_range (f : AOpd) (ps : List Nat) (a b : ACode) (e : Env) (σ : St) (K : KJ) : wp T (.rangeFunc f ps a b) e σ K = rK (K := ⟨K⟩) T (.rangeFunc f ps a b) e σ := by simp only [wp, rK]
theorem W_cond (c : AOpd) (a b : ACode) (e : Env) (σ : St) (K : KJ) : wp T (.cond c a b) e σ K = bB (A := ⟨wp T a e σ K⟩) (B := ⟨wp T b e σ K⟩) (c.ev e) := by simp only [wp, bB]
def evs (e : Env) : List AOpd → List AV
 | [] => []
 | x :: xs => x.ev e :: evs e xs
theorem evs_map (e : Env) : ∀ xs : List AOpd, xs.map (·.ev e) = evs e xs
 | [] => rfl
 | x :: xs => by simp [evs, evs_map e xs]
def ovs (e : Env) : Option AOpd → Option AV
 | none => none
 | some x => some (x.ev e)
def vPick : AV → AV → AV → Option AV
 | .bool true, x, _ => some x
 | .bool false, _, y => some y
 | _, _, _ => none
def vLit (n : Nat) (xs : List AV) : Option AV := if allCells n xs = true then some (.lit xs true none) else none
def vNil : AV → Option AV
 | .ptr i o => some (.ptr i o)
 | .lptr xs i o t => some (.lptr xs i o t)
 | .func f a b => some (.func f a b)
 | .yield i => some (.yield i)
 | _ => none
def vNeg : AV → Option AV
 | .int k n => some (.int k (k.wrap (0 - n)))
 | _ => none
def vConv (k : IntKind) : AV → Option AV
 | .int _ n => some (.int k (k.wrap n))
 | _ => none
def vStr : AV → Option ByteArray
 | .str s => some s
 | _ => none
def vSnext (σ : St) : AV → Option (AV × St)
 | .ptr id 0 =>
  match σ[id]? with
  | some (.siter s pos) =>
   if pos < s.size then some (.tuple [.bool true, .int .i64 pos, .int .i32 (Utf8.decode s pos).1], σ.set id (.siter s (pos + (Utf8.decode s pos).2)))
   else some (.tuple [.bool false], σ)
  | _ => none
 | _ => none
def vMkslice (bytes : Nat) (l c : AV) : Option Nat :=
 match l, c with
 | .int _ n, .int _ m => if 0 ≤ n ∧ n = m ∧ n * bytes ≤ room ∧ n ≤ room then some n.toNat else none
 | _, _ => none
def vBound (d : Nat) : Option AV → Option Int
 | none => some d
 | some x => intOf x
def vSlicev (sz : Nat) (σ : St) (x : AV) (lo hi mx : Option AV) : Option AV :=
 match lenAV 1 σ x with
 | none => none
 | some n =>
  match vBound 0 lo, vBound n hi, mx.map intOf with
  | some l, some h, none => sliceAV sz x l h false
  | some l, some h, some (some m) => if m = h ∧ hi.isSome = true then sliceAV sz x l h true else none
  | _, _, _ => none
def vSlicea (n sz : Nat) (x : AV) (lo hi : Option AV) : Option AV :=
 match x, vBound 0 lo, vBound n hi with
 | .ptr id off, some l, some h => if 0 ≤ l ∧ l ≤ h ∧ h ≤ n then some (.ref id (off + l.toNat * sz) (h.toNat - l.toNat) sz) else none
 | _, _, _ => none
def vField (off : Nat) (sh : Option Nat) : AV → Option AV
 | .agg cs => shaped sh cs off
 | _ => none
def vIaddr (arr : Option Nat) (sz : Nat) (x i : AV) : Option AV :=
 match intOf i, arr, x with
 | some j, some n, .ptr id off => if 0 ≤ j ∧ j < n then some (.ptr id (off + j.toNat * sz)) else none
 | some j, some n, .lptr xs q off t => if 0 ≤ j ∧ j < n then some (.lptr xs q (off + j.toNat * sz) t) else none
 | some j, none, .lit xs _ t =>
  match xs[j.toNat]? with
  | some y => if 0 ≤ j ∧ y.cells.length = sz then some (.lptr xs j.toNat 0 t) else none
  | none => none
 | some j, none, .ref id off len sz' => if 0 ≤ j ∧ j < len ∧ sz' = sz then some (.ptr id (off + j.toNat * sz)) else none
 | _, _, _ => none
def vIndex (n sz : Nat) (sh : Option Nat) (x i : AV) : Option AV :=
 match intOf i, x with
 | some j, .agg cs => if 0 ≤ j ∧ j < n then shaped sh cs (j.toNat * sz) else none
 | _, _ => none
def vSindex (x i : AV) : Option AV :=
 match intOf i, x with
 | some j, .str s => if 0 ≤ j then (s[j.toNat]?).map fun b => .int .u8 b.toNat else none
 | _, _ => none
def vLook (ok : Bool) (zero : AV) : Option (Option AV) → Option AV
 | some (some v) => some (if ok then .tuple [v, .bool true] else v)
 | some none => some (if ok then .tuple [zero, .bool false] else zero)
 | none => none
def vMapset (sh : EqTy) (σ : St) (m k v : AV) : Option St :=
 match m with
 | .map id =>
  if (eqSh sh k k).isSome = false then none else
  match σ[id]? with
  | some (.map es) => (setKey sh k v es).map fun es' => σ.set id (.map es')
  | _ => none
 | _ => none
theorem A_mov (x : AOpd) (e : Env) (σ : St) : aop (.mov x) e σ = some (x.ev e, σ) := by
 simp only [aop]
theorem A_alloc (z : List AV) (e : Env) (σ : St) : aop (.alloc z) e σ = some (.ptr σ.length 0, σ ++ [.cells z]) := by
 simp only [aop]
theorem A_pick (c x y : AOpd) (e : Env) (σ : St) : aop (.pick c x y) e σ = (vPick (c.ev e) (x.ev e) (y.ev e)).map (·, σ) := by
 simp only [aop, vPick]; repeat' split
 all_goals simp_all
theorem A_box (n : Nat) (x : AOpd) (e : Env) (σ : St) : aop (.box n x) e σ = (vCells n (x.ev e)).map fun cs => (.ptr σ.length 0, σ ++ [.cells cs]) := by
 simp only [aop, vCells]; split <;> simp_all
theorem A_build (z : List AV) (ps : List (Nat × Nat × AOpd)) (e : Env) (σ : St) : aop (.build z ps) e σ = (buildCells e z ps).map fun cs => (.agg cs, σ) := by
 simp only [aop]; cases buildCells e z ps <;> simp
theorem A_mklit (n : Nat) (xs : List AOpd) (e : Env) (σ : St) : aop (.mklit n xs) e σ = (vLit n (evs e xs)).map (·, σ) := by
 simp only [aop, vLit, evs_map]; split <;> simp_all
theorem A_mkref (n : Nat) (xs : List AOpd) (e : Env) (σ : St) : aop (.mkref n xs) e σ = (vLit n (evs e xs)).map fun _ => (.ref σ.length 0 (evs e xs).length n, σ ++ [.cells ((evs e xs).flatMap AV.cells)]) := by
 simp only [aop, vLit, evs_map]; have := congrArg List.length (evs_map e xs); split <;> simp_all
theorem A_load (sh : Option Nat) (x : AOpd) (e : Env) (σ : St) : aop (.load sh x) e σ = (loadAV sh σ (x.ev e)).map (·, σ) := by
 simp only [aop]; cases loadAV sh σ (x.ev e) <;> simp
theorem A_store (n : Nat) (x y : AOpd) (e : Env) (σ : St) : aop (.store n x y) e σ = (storeAV n σ (x.ev e) (y.ev e)).map (.tuple [], ·) := by
 simp only [aop]; cases storeAV n σ (x.ev e) (y.ev e) <;> simp
theorem A_nilCheck (x : AOpd) (e : Env) (σ : St) : aop (.nilCheck x) e σ = (vNil (x.ev e)).map (·, σ) := by
 simp only [aop, vNil]; cases x.ev e <;> simp
theorem A_bin (op : BinOp) (x y : AOpd) (e : Env) (σ : St) : aop (.bin op x y) e σ = (binAV op (x.ev e) (y.ev e)).map (·, σ) := by
 simp only [aop]; cases binAV op (x.ev e) (y.ev e) <;> simp
theorem A_eql (sh : EqTy) (n : Bool) (x y : AOpd) (e : Env) (σ : St) : aop (.eql sh n x y) e σ = (vEql sh n (x.ev e) (y.ev e)).map (·, σ) := by
 simp only [aop, vEql]; cases eqSh sh (x.ev e) (y.ev e) <;> simp
theorem A_not (x : AOpd) (e : Env) (σ : St) : aop (.not x) e σ = (vNot (x.ev e)).map (·, σ) := by
 simp only [aop, vNot]; cases x.ev e <;> simp
theorem A_neg (x : AOpd) (e : Env) (σ : St) : aop (.neg x) e σ = (vNeg (x.ev e)).map (·, σ) := by
 simp only [aop, vNeg]; cases x.ev e <;> simp
theorem A_conv (k : IntKind) (x : AOpd) (e : Env) (σ : St) : aop (.conv k x) e σ = (vConv k (x.ev e)).map (·, σ) := by
 simp only [aop, vConv]; cases x.ev e <;> simp
theorem A_mkfun (f : FuncId) (xs ys : List AOpd) (e : Env) (σ : St) : aop (.mkfun f xs ys) e σ = some (.func f (evs e xs) (evs e ys), σ) := by
 simp only [aop, evs_map]
theorem A_mkmap  (e : Env) (σ : St) : aop (.mkmap) e σ = some (.map σ.length, σ ++ [.map []]) := by
 simp only [aop]
theorem A_mkslice (z : List AV) (b : Nat) (x y : AOpd) (e : Env) (σ : St) : aop (.mkslice z b x y) e σ = (vMkslice b (x.ev e) (y.ev e)).map fun n => (.ref σ.length 0 n z.length, σ ++ [.cells (List.replicate n z).flatten]) := by
 simp only [aop, vMkslice]; generalize x.ev e = u; generalize y.ev e = v; cases u <;> cases v <;> first | rfl | (dsimp only; split <;> first | rfl | simp_all | (split <;> simp_all))
theorem A_slicev (n : Nat) (x : AOpd) (lo hi mx : Option AOpd) (e : Env) (σ : St) : aop (.slicev n x lo hi mx) e σ = (vSlicev n σ (x.ev e) (ovs e lo) (ovs e hi) (ovs e mx)).map (·, σ) := by
 simp only [aop, vSlicev]; cases lenAV 1 σ (x.ev e) <;> cases lo <;> cases hi <;> cases mx <;> simp only [boundOr, vBound, ovs, Option.map_none, Option.map_some] <;> repeat' split
 all_goals simp_all
theorem A_slicea (n s : Nat) (x : AOpd) (lo hi : Option AOpd) (e : Env) (σ : St) : aop (.slicea n s x lo hi) e σ = (vSlicea n s (x.ev e) (ovs e lo) (ovs e hi)).map (·, σ) := by
 simp only [aop, vSlicea]; generalize x.ev e = u; cases lo with
 | none => cases hi with
  | none => simp only [boundOr, vBound, ovs]; cases u <;> first | rfl | (dsimp only; split <;> first | rfl | simp_all | (split <;> simp_all))
  | some h => simp only [boundOr, vBound, ovs]; generalize intOf (h.ev e) = p; cases u <;> cases p <;> first | rfl | (dsimp only; split <;> first | rfl | simp_all | (split <;> simp_all))
 | some l => cases hi with
  | none => simp only [boundOr, vBound, ovs]; generalize intOf (l.ev e) = p; cases u <;> cases p <;> first | rfl | (dsimp only; split <;> first | rfl | simp_all | (split <;> simp_all))
  | some h => simp only [boundOr, vBound, ovs]; generalize intOf (l.ev e) = p; generalize intOf (h.ev e) = q; cases u <;> cases p <;> cases q <;> first | rfl | (dsimp only; split <;> first | rfl | simp_all | (split <;> simp_all))
theorem A_faddr (x : AOpd) (o : Nat) (e : Env) (σ : St) : aop (.faddr x o) e σ = (vFaddr o (x.ev e)).map (·, σ) := by
 simp only [aop, vFaddr]; cases x.ev e <;> simp
theorem A_field (x : AOpd) (o : Nat) (sh : Option Nat) (e : Env) (σ : St) : aop (.field x o sh) e σ = (vField o sh (x.ev e)).map (·, σ) := by
 simp only [aop, vField]; cases x.ev e <;> simp <;> (rename_i cs; cases shaped sh cs o <;> simp)
theorem A_iaddr (a : Option Nat) (s : Nat) (x i : AOpd) (e : Env) (σ : St) : aop (.iaddr a s x i) e σ = (vIaddr a s (x.ev e) (i.ev e)).map (·, σ) := by
 simp only [aop, vIaddr]; generalize intOf (i.ev e) = q; generalize x.ev e = u; cases q <;> cases a <;> cases u <;> first | rfl | (dsimp only; split <;> first | rfl | simp_all | (split <;> simp_all))
theorem A_index (n s : Nat) (sh : Option Nat) (x i : AOpd) (e : Env) (σ : St) : aop (.index n s sh x i) e σ = (vIndex n s sh (x.ev e) (i.ev e)).map (·, σ) := by
 simp only [aop, vIndex]; generalize intOf (i.ev e) = q; generalize x.ev e = u; cases q <;> cases u <;> first | rfl | (dsimp only; split <;> first | rfl | simp_all | (split <;> simp_all))
theorem A_sindex (x i : AOpd) (e : Env) (σ : St) : aop (.sindex x i) e σ = (vSindex (x.ev e) (i.ev e)).map (·, σ) := by
 simp only [aop, vSindex]; generalize intOf (i.ev e) = q; generalize x.ev e = u; cases q <;> cases u <;> first | rfl | (dsimp only; split <;> first | rfl | (rename_i k b h; cases b[k.toNat]? <;> rfl))
theorem A_lookup (sh : EqTy) (ok : Bool) (z : AV) (m k : AOpd) (e : Env) (σ : St) : aop (.lookup sh ok z m k) e σ = (vLook ok z (lookAV sh σ (m.ev e) (k.ev e))).map (·, σ) := by
 simp only [aop, vLook]; cases lookAV sh σ (m.ev e) (k.ev e) with
 | none => rfl
 | some o => cases o <;> rfl
theorem A_mapset (sh : EqTy) (m k v : AOpd) (e : Env) (σ : St) : aop (.mapset sh m k v) e σ = (vMapset sh σ (m.ev e) (k.ev e) (v.ev e)).map (.tuple [], ·) := by
 simp only [aop, vMapset]; repeat' split
 all_goals simp_all
theorem A_ext (x : AOpd) (i : Nat) (e : Env) (σ : St) : aop (.ext x i) e σ = (vExt i (x.ev e)).map (·, σ) := by
 simp only [aop, vExt]; cases x.ev e <;> simp <;> (rename_i vs; cases vs[i]? <;> simp)
theorem A_len (k : Nat) (x : AOpd) (e : Env) (σ : St) : aop (.len k x) e σ = (lenAV k σ (x.ev e)).map fun n => (.int .i64 n, σ) := by
 simp only [aop]; cases lenAV k σ (x.ev e) <;> simp
theorem A_append (n b : Nat) (x y : AOpd) (e : Env) (σ : St) : aop (.append n b x y) e σ = appendAV n b σ (x.ev e) (y.ev e) := by
 simp only [aop]
theorem A_apref (n b : Nat) (x y : AOpd) (e : Env) (σ : St) : aop (.apref n b x y) e σ = aprefAV n b σ (x.ev e) (y.ev e) := by
 simp only [aop]
theorem A_copy (n : Nat) (x y : AOpd) (e : Env) (σ : St) : aop (.copy n x y) e σ = copyAV n σ (x.ev e) (y.ev e) := by
 simp only [aop]
theorem A_min (xs : List AOpd) (e : Env) (σ : St) : aop (.min xs) e σ = (minAV (evs e xs)).map (·, σ) := by
 simp only [aop, evs_map]; cases minAV (evs e xs) <;> simp
theorem A_max (xs : List AOpd) (e : Env) (σ : St) : aop (.max xs) e σ = (maxAV (evs e xs)).map (·, σ) := by
 simp only [aop, evs_map]; cases maxAV (evs e xs) <;> simp
theorem A_srange (x : AOpd) (e : Env) (σ : St) : aop (.srange x) e σ = (vStr (x.ev e)).map fun s => (.ptr σ.length 0, σ ++ [.siter s 0]) := by
 simp only [aop, vStr]; cases x.ev e <;> simp
theorem A_snext (x : AOpd) (e : Env) (σ : St) : aop (.snext x) e σ = vSnext σ (x.ev e) := by
 simp only [aop, vSnext]; cases x.ev e <;> rfl
theorem W_mov (x : AOpd) (d : Option Nat) (os : List AOper) (e : Env) (σ : St) (K : Env → St → Prop) : wpOps T (⟨d, .mov x, none⟩ :: os) e σ K = bO (K := ⟨fun v σ' => wpOps T os (Env.put e d v) σ' K⟩) (aop (.mov x) e σ) := by simp only [wpOps, wpOp, bO]
theorem W_alloc (z : List AV) (d : Option Nat) (os : List AOper) (e : Env) (σ : St) (K : Env → St → Prop) : wpOps T (⟨d, .alloc z, none⟩ :: os) e σ K = bO (K := ⟨fun v σ' => wpOps T os (Env.put e d v) σ' K⟩) (aop (.alloc z) e σ) := by simp only [wpOps, wpOp, bO]
theorem W_pick (c x y : AOpd) (d : Option Nat) (os : List AOper) (e : Env) (σ : St) (K : Env → St → Prop) : wpOps T (⟨d, .pick c x y, none⟩ :: os) e σ K = bO (K := ⟨fun v σ' => wpOps T os (Env.put e d v) σ' K⟩) (aop (.pick c x y) e σ) := by simp only [wpOps, wpOp, bO]
theorem W_box (n : Nat) (x : AOpd) (d : Option Nat) (os : List AOper) (e : Env) (σ : St) (K : Env → St → Prop) : wpOps T (⟨d, .box n x, none⟩ :: os) e σ K = bO (K := ⟨fun v σ' => wpOps T os (Env.put e d v) σ' K⟩) (aop (.box n x) e σ) := by simp only [wpOps, wpOp, bO]
theorem W_build (z : List AV) (ps : List (Nat × Nat × AOpd)) (d : Option Nat) (os : List AOper) (e : Env) (σ : St) (K : Env → St → Prop) : wpOps T (⟨d, .build z ps, none⟩ :: os) e σ K = bO (K := ⟨fun v σ' => wpOps T os (Env.put e d v) σ' K⟩) (aop (.build z ps) e σ) := by simp only [wpOps, wpOp, bO]
theorem W_mklit (n : Nat) (xs : List AOpd) (d : Option Nat) (os : List AOper) (e : Env) (σ : St) (K : Env → St → Prop) : wpOps T (⟨d, .mklit n xs, none⟩ :: os) e σ K = bO (K := ⟨fun v σ' => wpOps T os (Env.put e d v) σ' K⟩) (aop (.mklit n xs) e σ) := by simp only [wpOps, wpOp, bO]
theorem W_mkref (n : Nat) (xs : List AOpd) (d : Option Nat) (os : List AOper) (e : Env) (σ : St) (K : Env → St → Prop) : wpOps T (⟨d, .mkref n xs, none⟩ :: os) e σ K = bO (K := ⟨fun v σ' => wpOps T os (Env.put e d v) σ' K⟩) (aop (.mkref n xs) e σ) := by simp only [wpOps, wpOp, bO]
theorem W_load (sh : Option Nat) (x : AOpd) (d : Option Nat) (os : List AOper) (e : Env) (σ : St) (K : Env → St → Prop) : wpOps T (⟨d, .load sh x, none⟩ :: os) e σ K = bO (K := ⟨fun v σ' => wpOps T os (Env.put e d v) σ' K⟩) (aop (.load sh x) e σ) := by simp only [wpOps, wpOp, bO]
theorem W_store (n : Nat) (x y : AOpd) (d : Option Nat) (os : List AOper) (e : Env) (σ : St) (K : Env → St → Prop) : wpOps T (⟨d, .store n x y, none⟩ :: os) e σ K = bO (K := ⟨fun v σ' => wpOps T os (Env.put e d v) σ' K⟩) (aop (.store n x y) e σ) := by simp only [wpOps, wpOp, bO]
theorem W_nilCheck (x : AOpd) (d : Option Nat) (os : List AOper) (e : Env) (σ : St) (K : Env → St → Prop) : wpOps T (⟨d, .nilCheck x, none⟩ :: os) e σ K = bO (K := ⟨fun v σ' => wpOps T os (Env.put e d v) σ' K⟩) (aop (.nilCheck x) e σ) := by simp only [wpOps, wpOp, bO]
theorem W_bin (op : BinOp) (x y : AOpd) (d : Option Nat) (os : List AOper) (e : Env) (σ : St) (K : Env → St → Prop) : wpOps T (⟨d, .bin op x y, none⟩ :: os) e σ K = bO (K := ⟨fun v σ' => wpOps T os (Env.put e d v) σ' K⟩) (aop (.bin op x y) e σ) := by simp only [wpOps, wpOp, bO]
theorem W_eql (sh : EqTy) (n : Bool) (x y : AOpd) (d : Option Nat) (os : List AOper) (e : Env) (σ : St) (K : Env → St → Prop) : wpOps T (⟨d, .eql sh n x y, none⟩ :: os) e σ K = bO (K := ⟨fun v σ' => wpOps T os (Env.put e d v) σ' K⟩) (aop (.eql sh n x y) e σ) := by simp only [wpOps, wpOp, bO]
theorem W_not (x : AOpd) (d : Option Nat) (os : List AOper) (e : Env) (σ : St) (K : Env → St → Prop) : wpOps T (⟨d, .not x, none⟩ :: os) e σ K = bO (K := ⟨fun v σ' => wpOps T os (Env.put e d v) σ' K⟩) (aop (.not x) e σ) := by simp only [wpOps, wpOp, bO]
theorem W_neg (x : AOpd) (d : Option Nat) (os : List AOper) (e : Env) (σ : St) (K : Env → St → Prop) : wpOps T (⟨d, .neg x, none⟩ :: os) e σ K = bO (K := ⟨fun v σ' => wpOps T os (Env.put e d v) σ' K⟩) (aop (.neg x) e σ) := by simp only [wpOps, wpOp, bO]
theorem W_conv (k : IntKind) (x : AOpd) (d : Option Nat) (os : List AOper) (e : Env) (σ : St) (K : Env → St → Prop) : wpOps T (⟨d, .conv k x, none⟩ :: os) e σ K = bO (K := ⟨fun v σ' => wpOps T os (Env.put e d v) σ' K⟩) (aop (.conv k x) e σ) := by simp only [wpOps, wpOp, bO]
theorem W_mkfun (f : FuncId) (xs ys : List AOpd) (d : Option Nat) (os : List AOper) (e : Env) (σ : St) (K : Env → St → Prop) : wpOps T (⟨d, .mkfun f xs ys, none⟩ :: os) e σ K = bO (K := ⟨fun v σ' => wpOps T os (Env.put e d v) σ' K⟩) (aop (.mkfun f xs ys) e σ) := by simp only [wpOps, wpOp, bO]
theorem W_mkmap  (d : Option Nat) (os : List AOper) (e : Env) (σ : St) (K : Env → St → Prop) : wpOps T (⟨d, .mkmap, none⟩ :: os) e σ K = bO (K := ⟨fun v σ' => wpOps T os (Env.put e d v) σ' K⟩) (aop (.mkmap) e σ) := by simp only [wpOps, wpOp, bO]
theorem W_mkslice (z : List AV) (b : Nat) (x y : AOpd) (d : Option Nat) (os : List AOper) (e : Env) (σ : St) (K : Env → St → Prop) : wpOps T (⟨d, .mkslice z b x y, none⟩ :: os) e σ K = bO (K := ⟨fun v σ' => wpOps T os (Env.put e d v) σ' K⟩) (aop (.mkslice z b x y) e σ) := by simp only [wpOps, wpOp, bO]
theorem W_slicev (n : Nat) (x : AOpd) (lo hi mx : Option AOpd) (d : Option Nat) (os : List AOper) (e : Env) (σ : St) (K : Env → St → Prop) : wpOps T (⟨d, .slicev n x lo hi mx, none⟩ :: os) e σ K = bO (K := ⟨fun v σ' => wpOps T os (Env.put e d v) σ' K⟩) (aop (.slicev n x lo hi mx) e σ) := by simp only [wpOps, wpOp, bO]
theorem W_slicea (n s : Nat) (x : AOpd) (lo hi : Option AOpd) (d : Option Nat) (os : List AOper) (e : Env) (σ : St) (K : Env → St → Prop) : wpOps T (⟨d, .slicea n s x lo hi, none⟩ :: os) e σ K = bO (K := ⟨fun v σ' => wpOps T os (Env.put e d v) σ' K⟩) (aop (.slicea n s x lo hi) e σ) := by simp only [wpOps, wpOp, bO]
theorem W_faddr (x : AOpd) (o : Nat) (d : Option Nat) (os : List AOper) (e : Env) (σ : St) (K : Env → St → Prop) : wpOps T (⟨d, .faddr x o, none⟩ :: os) e σ K = bO (K := ⟨fun v σ' => wpOps T os (Env.put e d v) σ' K⟩) (aop (.faddr x o) e σ) := by simp only [wpOps, wpOp, bO]
theorem W_field (x : AOpd) (o : Nat) (sh : Option Nat) (d : Option Nat) (os : List AOper) (e : Env) (σ : St) (K : Env → St → Prop) : wpOps T (⟨d, .field x o sh, none⟩ :: os) e σ K = bO (K := ⟨fun v σ' => wpOps T os (Env.put e d v) σ' K⟩) (aop (.field x o sh) e σ) := by simp only [wpOps, wpOp, bO]
theorem W_iaddr (a : Option Nat) (s : Nat) (x i : AOpd) (d : Option Nat) (os : List AOper) (e : Env) (σ : St) (K : Env → St → Prop) : wpOps T (⟨d, .iaddr a s x i, none⟩ :: os) e σ K = bO (K := ⟨fun v σ' => wpOps T os (Env.put e d v) σ' K⟩) (aop (.iaddr a s x i) e σ) := by simp only [wpOps, wpOp, bO]
theorem W_index (n s : Nat) (sh : Option Nat) (x i : AOpd) (d : Option Nat) (os : List AOper) (e : Env) (σ : St) (K : Env → St → Prop) : wpOps T (⟨d, .index n s sh x i, none⟩ :: os) e σ K = bO (K := ⟨fun v σ' => wpOps T os (Env.put e d v) σ' K⟩) (aop (.index n s sh x i) e σ) := by simp only [wpOps, wpOp, bO]
theorem W_sindex (x i : AOpd) (d : Option Nat) (os : List AOper) (e : Env) (σ : St) (K : Env → St → Prop) : wpOps T (⟨d, .sindex x i, none⟩ :: os) e σ K = bO (K := ⟨fun v σ' => wpOps T os (Env.put e d v) σ' K⟩) (aop (.sindex x i) e σ) := by simp only [wpOps, wpOp, bO]
theorem W_lookup (sh : EqTy) (ok : Bool) (z : AV) (m k : AOpd) (d : Option Nat) (os : List AOper) (e : Env) (σ : St) (K : Env → St → Prop) : wpOps T (⟨d, .lookup sh ok z m k, none⟩ :: os) e σ K = bO (K := ⟨fun v σ' => wpOps T os (Env.put e d v) σ' K⟩) (aop (.lookup sh ok z m k) e σ) := by simp only [wpOps, wpOp, bO]
theorem W_mapset (sh : EqTy) (m k v : AOpd) (d : Option Nat) (os : List AOper) (e : Env) (σ : St) (K : Env → St → Prop) : wpOps T (⟨d, .mapset sh m k v, none⟩ :: os) e σ K = bO (K := ⟨fun v σ' => wpOps T os (Env.put e d v) σ' K⟩) (aop (.mapset sh m k v) e σ) := by simp only [wpOps, wpOp, bO]
theorem W_ext (x : AOpd) (i : Nat) (d : Option Nat) (os : List AOper) (e : Env) (σ : St) (K : Env → St → Prop) : wpOps T (⟨d, .ext x i, none⟩ :: os) e σ K = bO (K := ⟨fun v σ' => wpOps T os (Env.put e d v) σ' K⟩) (aop (.ext x i) e σ) := by simp only [wpOps, wpOp, bO]
theorem W_len (k : Nat) (x : AOpd) (d : Option Nat) (os : List AOper) (e : Env) (σ : St) (K : Env → St → Prop) : wpOps T (⟨d, .len k x, none⟩ :: os) e σ K = bO (K := ⟨fun v σ' => wpOps T os (Env.put e d v) σ' K⟩) (aop (.len k x) e σ) := by simp only [wpOps, wpOp, bO]
theorem W_append (n b : Nat) (x y : AOpd) (d : Option Nat) (os : List AOper) (e : Env) (σ : St) (K : Env → St → Prop) : wpOps T (⟨d, .append n b x y, none⟩ :: os) e σ K = bO (K := ⟨fun v σ' => wpOps T os (Env.put e d v) σ' K⟩) (aop (.append n b x y) e σ) := by simp only [wpOps, wpOp, bO]
theorem W_apref (n b : Nat) (x y : AOpd) (d : Option Nat) (os : List AOper) (e : Env) (σ : St) (K : Env → St → Prop) : wpOps T (⟨d, .apref n b x y, none⟩ :: os) e σ K = bO (K := ⟨fun v σ' => wpOps T os (Env.put e d v) σ' K⟩) (aop (.apref n b x y) e σ) := by simp only [wpOps, wpOp, bO]
theorem W_copy (n : Nat) (x y : AOpd) (d : Option Nat) (os : List AOper) (e : Env) (σ : St) (K : Env → St → Prop) : wpOps T (⟨d, .copy n x y, none⟩ :: os) e σ K = bO (K := ⟨fun v σ' => wpOps T os (Env.put e d v) σ' K⟩) (aop (.copy n x y) e σ) := by simp only [wpOps, wpOp, bO]
theorem W_min (xs : List AOpd) (d : Option Nat) (os : List AOper) (e : Env) (σ : St) (K : Env → St → Prop) : wpOps T (⟨d, .min xs, none⟩ :: os) e σ K = bO (K := ⟨fun v σ' => wpOps T os (Env.put e d v) σ' K⟩) (aop (.min xs) e σ) := by simp only [wpOps, wpOp, bO]
theorem W_max (xs : List AOpd) (d : Option Nat) (os : List AOper) (e : Env) (σ : St) (K : Env → St → Prop) : wpOps T (⟨d, .max xs, none⟩ :: os) e σ K = bO (K := ⟨fun v σ' => wpOps T os (Env.put e d v) σ' K⟩) (aop (.max xs) e σ) := by simp only [wpOps, wpOp, bO]
theorem W_srange (x : AOpd) (d : Option Nat) (os : List AOper) (e : Env) (σ : St) (K : Env → St → Prop) : wpOps T (⟨d, .srange x, none⟩ :: os) e σ K = bO (K := ⟨fun v σ' => wpOps T os (Env.put e d v) σ' K⟩) (aop (.srange x) e σ) := by simp only [wpOps, wpOp, bO]
theorem W_snext (x : AOpd) (d : Option Nat) (os : List AOper) (e : Env) (σ : St) (K : Env → St → Prop) : wpOps T (⟨d, .snext x, none⟩ :: os) e σ K = bO (K := ⟨fun v σ' => wpOps T os (Env.put e d v) σ' K⟩) (aop (.snext x) e σ) := by simp only [wpOps, wpOp, bO]
theorem W_call (f : AOpd) (xs : List AOpd) (d : Option Nat) (os : List AOper) (e : Env) (σ : St) (K : Env → St → Prop) : wpOps T (⟨d, .call f xs, none⟩ :: os) e σ K = cK (K := ⟨fun v σ' => wpOps T os (Env.put e d v) σ' K⟩) T (f.ev e) (evs e xs) σ := by simp only [wpOps, wpOp, evs_map, cK]
theorem W_bindB (b : Bool) (A B : HP Prop) : bB (.bool b) (A := A) (B := B) = iteP (A := A) (B := B) b := by cases b <;> simp [bB, bindB, iteP]
theorem W_bindG1 (b : Bool) (A B : HP Prop) : bG (.bool b) true (A := A) (B := B) = iteP (A := A) (B := B) b := by cases b <;> simp [bG, bindG, iteP]
theorem W_bindG0 (b : Bool) (A B : HP Prop) : bG (.bool b) false (A := A) (B := B) = iteP (A := B) (B := A) b := by cases b <;> simp [bG, bindG, iteP]
theorem W_bindGT (w : Bool) (A : HP Prop) (B : Prop) : bG (.tuple []) w (A := A) (B := ⟨B⟩) = B := by simp [bG, bindG]
theorem W_guard (d : Option Nat) (q : AOp) (t : Nat) (want : Bool) (os : List AOper) (e : Env) (σ : St) (K : Env → St → Prop) : wpOps T (⟨d, q, some (t, want)⟩ :: os) e σ K =
  bG (A := ⟨wpOps T (⟨d, q, none⟩ :: os) e σ K⟩) (B := ⟨wpOps T os (Env.put e d (.tuple [])) σ K⟩) (Env.get e t) want := by simp only [wpOps, bG]
theorem D_reg (ds : List ADOper) (e : Env) (σ : St) (K : KJ) : wp T (.dreg ds) e σ K = rK (K := ⟨K⟩) T (.dreg ds) e σ := by simp only [wp, rK]
theorem rK_dreg {ds : List ADOper} {e : Env} {σ : St} {K : KJ} (h : wpD T ds e (σ ++ allocsOf ds) σ.length [σ ++ allocsOf ds] [] fun e σ => K none e σ) : rK (K := ⟨K⟩) T (.dreg ds) e σ := .dreg (run_wpD h fun e σ hk => hk)
theorem D_nil (e : Env) (σ : St) (next : Nat) (hist : List St) (reads : List ARead) (K : Env → St → Prop) : wpD T [] e σ next hist reads K = (readsP reads hist ∧ K e σ) := by simp only [wpD]
theorem D_call (f : AOpd) (xs : List AOpd) (d : Option Nat) (lo hi : Nat) (ds : List ADOper) (e : Env) (σ : St) (next : Nat) (hist : List St) (reads : List ARead) (K : Env → St → Prop) :
  wpD T (⟨⟨d, .call f xs, none⟩, lo, hi⟩ :: ds) e σ next hist reads K = cD (K := ⟨fun v σ' => wpD T ds (Env.put e d v) σ' next (hist ++ [σ']) reads K⟩) T (f.ev e) (evs e xs) σ := by simp only [wpD, evs_map, cD]
theorem D_alloc (z : List AV) (d : Option Nat) (lo hi : Nat) (ds : List ADOper) (e : Env) (σ : St) (next : Nat) (hist : List St) (reads : List ARead) (K : Env → St → Prop) :
  wpD T (⟨⟨d, .alloc z, none⟩, lo, hi⟩ :: ds) e σ next hist reads K = wpD T ds (Env.put e d (.ptr next 0)) σ (next + 1) hist reads K := by simp only [wpD]
def readQ (lo hi : Nat) (q : AOp) (e : Env) (v : AV) : List St → Nat → Prop
 | [], _ => True
 | s :: ss, j => (if lo ≤ j ∧ j ≤ hi then aop q e s = some (v, s) else True) ∧ readQ lo hi q e v ss (j + 1)
theorem readQ_eq (r : ARead) : ∀ (ss : List St) (j : Nat), readQ r.lo r.hi r.op r.env r.v ss j = readP r ss j
 | [], j => by simp only [readQ, readP]
 | s :: ss, j => by simp only [readQ, readP, readQ_eq r ss (j + 1)]
theorem D_readsN (hist : List St) : readsP [] hist = True := by simp only [readsP]
theorem D_readsC (lo hi : Nat) (q : AOp) (e : Env) (v : AV) (rs : List ARead) (hist : List St) : readsP (⟨lo, hi, q, e, v⟩ :: rs) hist = (readQ lo hi q e v hist 0 ∧ readsP rs hist) := by
 simp only [readsP]; rw [← readQ_eq]
theorem D_readN (lo hi : Nat) (q : AOp) (e : Env) (v : AV) (j : Nat) : readQ lo hi q e v [] j = True := by simp only [readQ]
theorem D_readC (lo hi : Nat) (q : AOp) (e : Env) (v : AV) (s : St) (ss : List St) (j : Nat) : readQ lo hi q e v (s :: ss) j = ((if lo ≤ j ∧ j ≤ hi then aop q e s = some (v, s) else True) ∧ readQ lo hi q e v ss (j + 1)) := by simp only [readQ]
theorem D_mov (x : AOpd) (d : Option Nat) (wl wh : Nat) (ds : List ADOper) (e : Env) (σ : St) (next : Nat) (hist : List St) (reads : List ARead) (K : Env → St → Prop) : wpD T (⟨⟨d, .mov x, none⟩, wl, wh⟩ :: ds) e σ next hist reads K = bO (K := ⟨fun v σ' => σ' = σ ∧ wpD T ds (Env.put e d v) σ next hist reads K⟩) (aop (.mov x) e σ) := by
 simp only [wpD, bO, AOp.acts, AOp.reads, if_true, Bool.false_eq_true, if_false]
theorem D_pick (c x y : AOpd) (d : Option Nat) (wl wh : Nat) (ds : List ADOper) (e : Env) (σ : St) (next : Nat) (hist : List St) (reads : List ARead) (K : Env → St → Prop) : wpD T (⟨⟨d, .pick c x y, none⟩, wl, wh⟩ :: ds) e σ next hist reads K = bO (K := ⟨fun v σ' => σ' = σ ∧ wpD T ds (Env.put e d v) σ next hist reads K⟩) (aop (.pick c x y) e σ) := by
 simp only [wpD, bO, AOp.acts, AOp.reads, if_true, Bool.false_eq_true, if_false]
theorem D_box (n : Nat) (x : AOpd) (d : Option Nat) (wl wh : Nat) (ds : List ADOper) (e : Env) (σ : St) (next : Nat) (hist : List St) (reads : List ARead) (K : Env → St → Prop) : wpD T (⟨⟨d, .box n x, none⟩, wl, wh⟩ :: ds) e σ next hist reads K = bO (K := ⟨fun v σ' => wpD T ds (Env.put e d v) σ' next (hist ++ [σ']) reads K⟩) (aop (.box n x) e σ) := by
 simp only [wpD, bO, AOp.acts, AOp.reads, if_true, Bool.false_eq_true, if_false]
theorem D_build (z : List AV) (ps : List (Nat × Nat × AOpd)) (d : Option Nat) (wl wh : Nat) (ds : List ADOper) (e : Env) (σ : St) (next : Nat) (hist : List St) (reads : List ARead) (K : Env → St → Prop) : wpD T (⟨⟨d, .build z ps, none⟩, wl, wh⟩ :: ds) e σ next hist reads K = bO (K := ⟨fun v σ' => σ' = σ ∧ wpD T ds (Env.put e d v) σ next hist reads K⟩) (aop (.build z ps) e σ) := by
 simp only [wpD, bO, AOp.acts, AOp.reads, if_true, Bool.false_eq_true, if_false]
theorem D_mklit (n : Nat) (xs : List AOpd) (d : Option Nat) (wl wh : Nat) (ds : List ADOper) (e : Env) (σ : St) (next : Nat) (hist : List St) (reads : List ARead) (K : Env → St → Prop) : wpD T (⟨⟨d, .mklit n xs, none⟩, wl, wh⟩ :: ds) e σ next hist reads K = bO (K := ⟨fun v σ' => σ' = σ ∧ wpD T ds (Env.put e d v) σ next hist reads K⟩) (aop (.mklit n xs) e σ) := by
 simp only [wpD, bO, AOp.acts, AOp.reads, if_true, Bool.false_eq_true, if_false]
theorem D_mkref (n : Nat) (xs : List AOpd) (d : Option Nat) (wl wh : Nat) (ds : List ADOper) (e : Env) (σ : St) (next : Nat) (hist : List St) (reads : List ARead) (K : Env → St → Prop) : wpD T (⟨⟨d, .mkref n xs, none⟩, wl, wh⟩ :: ds) e σ next hist reads K = bO (K := ⟨fun v σ' => wpD T ds (Env.put e d v) σ' next (hist ++ [σ']) reads K⟩) (aop (.mkref n xs) e σ) := by
 simp only [wpD, bO, AOp.acts, AOp.reads, if_true, Bool.false_eq_true, if_false]
theorem D_load (sh : Option Nat) (x : AOpd) (d : Option Nat) (wl wh : Nat) (ds : List ADOper) (e : Env) (σ : St) (next : Nat) (hist : List St) (reads : List ARead) (K : Env → St → Prop) : wpD T (⟨⟨d, .load sh x, none⟩, wl, wh⟩ :: ds) e σ next hist reads K = bO (K := ⟨fun v σ' => σ' = σ ∧ wpD T ds (Env.put e d v) σ next hist (⟨wl, wh, .load sh x, e, v⟩ :: reads) K⟩) (aop (.load sh x) e σ) := by
 simp only [wpD, bO, AOp.acts, AOp.reads, if_true, Bool.false_eq_true, if_false]
theorem D_store (n : Nat) (x y : AOpd) (d : Option Nat) (wl wh : Nat) (ds : List ADOper) (e : Env) (σ : St) (next : Nat) (hist : List St) (reads : List ARead) (K : Env → St → Prop) : wpD T (⟨⟨d, .store n x y, none⟩, wl, wh⟩ :: ds) e σ next hist reads K = bO (K := ⟨fun v σ' => wpD T ds (Env.put e d v) σ' next (hist ++ [σ']) reads K⟩) (aop (.store n x y) e σ) := by
 simp only [wpD, bO, AOp.acts, AOp.reads, if_true, Bool.false_eq_true, if_false]
theorem D_nilCheck (x : AOpd) (d : Option Nat) (wl wh : Nat) (ds : List ADOper) (e : Env) (σ : St) (next : Nat) (hist : List St) (reads : List ARead) (K : Env → St → Prop) : wpD T (⟨⟨d, .nilCheck x, none⟩, wl, wh⟩ :: ds) e σ next hist reads K = bO (K := ⟨fun v σ' => σ' = σ ∧ wpD T ds (Env.put e d v) σ next hist reads K⟩) (aop (.nilCheck x) e σ) := by
 simp only [wpD, bO, AOp.acts, AOp.reads, if_true, Bool.false_eq_true, if_false]
theorem D_bin (op : BinOp) (x y : AOpd) (d : Option Nat) (wl wh : Nat) (ds : List ADOper) (e : Env) (σ : St) (next : Nat) (hist : List St) (reads : List ARead) (K : Env → St → Prop) : wpD T (⟨⟨d, .bin op x y, none⟩, wl, wh⟩ :: ds) e σ next hist reads K = bO (K := ⟨fun v σ' => σ' = σ ∧ wpD T ds (Env.put e d v) σ next hist reads K⟩) (aop (.bin op x y) e σ) := by
 simp only [wpD, bO, AOp.acts, AOp.reads, if_true, Bool.false_eq_true, if_false]
theorem D_eql (sh : EqTy) (n : Bool) (x y : AOpd) (d : Option Nat) (wl wh : Nat) (ds : List ADOper) (e : Env) (σ : St) (next : Nat) (hist : List St) (reads : List ARead) (K : Env → St → Prop) : wpD T (⟨⟨d, .eql sh n x y, none⟩, wl, wh⟩ :: ds) e σ next hist reads K = bO (K := ⟨fun v σ' => σ' = σ ∧ wpD T ds (Env.put e d v) σ next hist reads K⟩) (aop (.eql sh n x y) e σ) := by
 simp only [wpD, bO, AOp.acts, AOp.reads, if_true, Bool.false_eq_true, if_false]
theorem D_not (x : AOpd) (d : Option Nat) (wl wh : Nat) (ds : List ADOper) (e : Env) (σ : St) (next : Nat) (hist : List St) (reads : List ARead) (K : Env → St → Prop) : wpD T (⟨⟨d, .not x, none⟩, wl, wh⟩ :: ds) e σ next hist reads K = bO (K := ⟨fun v σ' => σ' = σ ∧ wpD T ds (Env.put e d v) σ next hist reads K⟩) (aop (.not x) e σ) := by
 simp only [wpD, bO, AOp.acts, AOp.reads, if_true, Bool.false_eq_true, if_false]
theorem D_neg (x : AOpd) (d : Option Nat) (wl wh : Nat) (ds : List ADOper) (e : Env) (σ : St) (next : Nat) (hist : List St) (reads : List ARead) (K : Env → St → Prop) : wpD T (⟨⟨d, .neg x, none⟩, wl, wh⟩ :: ds) e σ next hist reads K = bO (K := ⟨fun v σ' => σ' = σ ∧ wpD T ds (Env.put e d v) σ next hist reads K⟩) (aop (.neg x) e σ) := by
 simp only [wpD, bO, AOp.acts, AOp.reads, if_true, Bool.false_eq_true, if_false]
theorem D_conv (k : IntKind) (x : AOpd) (d : Option Nat) (wl wh : Nat) (ds : List ADOper) (e : Env) (σ : St) (next : Nat) (hist : List St) (reads : List ARead) (K : Env → St → Prop) : wpD T (⟨⟨d, .conv k x, none⟩, wl, wh⟩ :: ds) e σ next hist reads K = bO (K := ⟨fun v σ' => σ' = σ ∧ wpD T ds (Env.put e d v) σ next hist reads K⟩) (aop (.conv k x) e σ) := by
 simp only [wpD, bO, AOp.acts, AOp.reads, if_true, Bool.false_eq_true, if_false]
theorem D_mkfun (f : FuncId) (xs ys : List AOpd) (d : Option Nat) (wl wh : Nat) (ds : List ADOper) (e : Env) (σ : St) (next : Nat) (hist : List St) (reads : List ARead) (K : Env → St → Prop) : wpD T (⟨⟨d, .mkfun f xs ys, none⟩, wl, wh⟩ :: ds) e σ next hist reads K = bO (K := ⟨fun v σ' => σ' = σ ∧ wpD T ds (Env.put e d v) σ next hist reads K⟩) (aop (.mkfun f xs ys) e σ) := by
 simp only [wpD, bO, AOp.acts, AOp.reads, if_true, Bool.false_eq_true, if_false]
theorem D_mkmap  (d : Option Nat) (wl wh : Nat) (ds : List ADOper) (e : Env) (σ : St) (next : Nat) (hist : List St) (reads : List ARead) (K : Env → St → Prop) : wpD T (⟨⟨d, .mkmap, none⟩, wl, wh⟩ :: ds) e σ next hist reads K = bO (K := ⟨fun v σ' => wpD T ds (Env.put e d v) σ' next (hist ++ [σ']) reads K⟩) (aop (.mkmap) e σ) := by
 simp only [wpD, bO, AOp.acts, AOp.reads, if_true, Bool.false_eq_true, if_false]
theorem D_mkslice (z : List AV) (b : Nat) (x y : AOpd) (d : Option Nat) (wl wh : Nat) (ds : List ADOper) (e : Env) (σ : St) (next : Nat) (hist : List St) (reads : List ARead) (K : Env → St → Prop) : wpD T (⟨⟨d, .mkslice z b x y, none⟩, wl, wh⟩ :: ds) e σ next hist reads K = bO (K := ⟨fun v σ' => wpD T ds (Env.put e d v) σ' next (hist ++ [σ']) reads K⟩) (aop (.mkslice z b x y) e σ) := by
 simp only [wpD, bO, AOp.acts, AOp.reads, if_true, Bool.false_eq_true, if_false]
theorem D_slicev (n : Nat) (x : AOpd) (lo hi mx : Option AOpd) (d : Option Nat) (wl wh : Nat) (ds : List ADOper) (e : Env) (σ : St) (next : Nat) (hist : List St) (reads : List ARead) (K : Env → St → Prop) : wpD T (⟨⟨d, .slicev n x lo hi mx, none⟩, wl, wh⟩ :: ds) e σ next hist reads K = bO (K := ⟨fun v σ' => σ' = σ ∧ wpD T ds (Env.put e d v) σ next hist (⟨wl, wh, .slicev n x lo hi mx, e, v⟩ :: reads) K⟩) (aop (.slicev n x lo hi mx) e σ) := by
 simp only [wpD, bO, AOp.acts, AOp.reads, if_true, Bool.false_eq_true, if_false]
theorem D_slicea (n s : Nat) (x : AOpd) (lo hi : Option AOpd) (d : Option Nat) (wl wh : Nat) (ds : List ADOper) (e : Env) (σ : St) (next : Nat) (hist : List St) (reads : List ARead) (K : Env → St → Prop) : wpD T (⟨⟨d, .slicea n s x lo hi, none⟩, wl, wh⟩ :: ds) e σ next hist reads K = bO (K := ⟨fun v σ' => σ' = σ ∧ wpD T ds (Env.put e d v) σ next hist reads K⟩) (aop (.slicea n s x lo hi) e σ) := by
 simp only [wpD, bO, AOp.acts, AOp.reads, if_true, Bool.false_eq_true, if_false]
theorem D_faddr (x : AOpd) (o : Nat) (d : Option Nat) (wl wh : Nat) (ds : List ADOper) (e : Env) (σ : St) (next : Nat) (hist : List St) (reads : List ARead) (K : Env → St → Prop) : wpD T (⟨⟨d, .faddr x o, none⟩, wl, wh⟩ :: ds) e σ next hist reads K = bO (K := ⟨fun v σ' => σ' = σ ∧ wpD T ds (Env.put e d v) σ next hist reads K⟩) (aop (.faddr x o) e σ) := by
 simp only [wpD, bO, AOp.acts, AOp.reads, if_true, Bool.false_eq_true, if_false]
theorem D_field (x : AOpd) (o : Nat) (sh : Option Nat) (d : Option Nat) (wl wh : Nat) (ds : List ADOper) (e : Env) (σ : St) (next : Nat) (hist : List St) (reads : List ARead) (K : Env → St → Prop) : wpD T (⟨⟨d, .field x o sh, none⟩, wl, wh⟩ :: ds) e σ next hist reads K = bO (K := ⟨fun v σ' => σ' = σ ∧ wpD T ds (Env.put e d v) σ next hist reads K⟩) (aop (.field x o sh) e σ) := by
 simp only [wpD, bO, AOp.acts, AOp.reads, if_true, Bool.false_eq_true, if_false]
theorem D_iaddr (a : Option Nat) (s : Nat) (x i : AOpd) (d : Option Nat) (wl wh : Nat) (ds : List ADOper) (e : Env) (σ : St) (next : Nat) (hist : List St) (reads : List ARead) (K : Env → St → Prop) : wpD T (⟨⟨d, .iaddr a s x i, none⟩, wl, wh⟩ :: ds) e σ next hist reads K = bO (K := ⟨fun v σ' => σ' = σ ∧ wpD T ds (Env.put e d v) σ next hist reads K⟩) (aop (.iaddr a s x i) e σ) := by
 simp only [wpD, bO, AOp.acts, AOp.reads, if_true, Bool.false_eq_true, if_false]
theorem D_index (n s : Nat) (sh : Option Nat) (x i : AOpd) (d : Option Nat) (wl wh : Nat) (ds : List ADOper) (e : Env) (σ : St) (next : Nat) (hist : List St) (reads : List ARead) (K : Env → St → Prop) : wpD T (⟨⟨d, .index n s sh x i, none⟩, wl, wh⟩ :: ds) e σ next hist reads K = bO (K := ⟨fun v σ' => σ' = σ ∧ wpD T ds (Env.put e d v) σ next hist reads K⟩) (aop (.index n s sh x i) e σ) := by
 simp only [wpD, bO, AOp.acts, AOp.reads, if_true, Bool.false_eq_true, if_false]
theorem D_sindex (x i : AOpd) (d : Option Nat) (wl wh : Nat) (ds : List ADOper) (e : Env) (σ : St) (next : Nat) (hist : List St) (reads : List ARead) (K : Env → St → Prop) : wpD T (⟨⟨d, .sindex x i, none⟩, wl, wh⟩ :: ds) e σ next hist reads K = bO (K := ⟨fun v σ' => σ' = σ ∧ wpD T ds (Env.put e d v) σ next hist reads K⟩) (aop (.sindex x i) e σ) := by
 simp only [wpD, bO, AOp.acts, AOp.reads, if_true, Bool.false_eq_true, if_false]
theorem D_lookup (sh : EqTy) (ok : Bool) (z : AV) (m k : AOpd) (d : Option Nat) (wl wh : Nat) (ds : List ADOper) (e : Env) (σ : St) (next : Nat) (hist : List St) (reads : List ARead) (K : Env → St → Prop) : wpD T (⟨⟨d, .lookup sh ok z m k, none⟩, wl, wh⟩ :: ds) e σ next hist reads K = bO (K := ⟨fun v σ' => σ' = σ ∧ wpD T ds (Env.put e d v) σ next hist (⟨wl, wh, .lookup sh ok z m k, e, v⟩ :: reads) K⟩) (aop (.lookup sh ok z m k) e σ) := by
 simp only [wpD, bO, AOp.acts, AOp.reads, if_true, Bool.false_eq_true, if_false]
theorem D_mapset (sh : EqTy) (m k v : AOpd) (d : Option Nat) (wl wh : Nat) (ds : List ADOper) (e : Env) (σ : St) (next : Nat) (hist : List St) (reads : List ARead) (K : Env → St → Prop) : wpD T (⟨⟨d, .mapset sh m k v, none⟩, wl, wh⟩ :: ds) e σ next hist reads K = bO (K := ⟨fun v σ' => wpD T ds (Env.put e d v) σ' next (hist ++ [σ']) reads K⟩) (aop (.mapset sh m k v) e σ) := by
 simp only [wpD, bO, AOp.acts, AOp.reads, if_true, Bool.false_eq_true, if_false]
theorem D_ext (x : AOpd) (i : Nat) (d : Option Nat) (wl wh : Nat) (ds : List ADOper) (e : Env) (σ : St) (next : Nat) (hist : List St) (reads : List ARead) (K : Env → St → Prop) : wpD T (⟨⟨d, .ext x i, none⟩, wl, wh⟩ :: ds) e σ next hist reads K = bO (K := ⟨fun v σ' => σ' = σ ∧ wpD T ds (Env.put e d v) σ next hist reads K⟩) (aop (.ext x i) e σ) := by
 simp only [wpD, bO, AOp.acts, AOp.reads, if_true, Bool.false_eq_true, if_false]
theorem D_len (k : Nat) (x : AOpd) (d : Option Nat) (wl wh : Nat) (ds : List ADOper) (e : Env) (σ : St) (next : Nat) (hist : List St) (reads : List ARead) (K : Env → St → Prop) : wpD T (⟨⟨d, .len k x, none⟩, wl, wh⟩ :: ds) e σ next hist reads K = bO (K := ⟨fun v σ' => σ' = σ ∧ wpD T ds (Env.put e d v) σ next hist (⟨wl, wh, .len k x, e, v⟩ :: reads) K⟩) (aop (.len k x) e σ) := by
 simp only [wpD, bO, AOp.acts, AOp.reads, if_true, Bool.false_eq_true, if_false]
theorem D_append (n b : Nat) (x y : AOpd) (d : Option Nat) (wl wh : Nat) (ds : List ADOper) (e : Env) (σ : St) (next : Nat) (hist : List St) (reads : List ARead) (K : Env → St → Prop) : wpD T (⟨⟨d, .append n b x y, none⟩, wl, wh⟩ :: ds) e σ next hist reads K = bO (K := ⟨fun v σ' => wpD T ds (Env.put e d v) σ' next (hist ++ [σ']) reads K⟩) (aop (.append n b x y) e σ) := by
 simp only [wpD, bO, AOp.acts, AOp.reads, if_true, Bool.false_eq_true, if_false]
theorem D_apref (n b : Nat) (x y : AOpd) (d : Option Nat) (wl wh : Nat) (ds : List ADOper) (e : Env) (σ : St) (next : Nat) (hist : List St) (reads : List ARead) (K : Env → St → Prop) : wpD T (⟨⟨d, .apref n b x y, none⟩, wl, wh⟩ :: ds) e σ next hist reads K = bO (K := ⟨fun v σ' => wpD T ds (Env.put e d v) σ' next (hist ++ [σ']) reads K⟩) (aop (.apref n b x y) e σ) := by
 simp only [wpD, bO, AOp.acts, AOp.reads, if_true, Bool.false_eq_true, if_false]
theorem D_copy (n : Nat) (x y : AOpd) (d : Option Nat) (wl wh : Nat) (ds : List ADOper) (e : Env) (σ : St) (next : Nat) (hist : List St) (reads : List ARead) (K : Env → St → Prop) : wpD T (⟨⟨d, .copy n x y, none⟩, wl, wh⟩ :: ds) e σ next hist reads K = bO (K := ⟨fun v σ' => wpD T ds (Env.put e d v) σ' next (hist ++ [σ']) reads K⟩) (aop (.copy n x y) e σ) := by
 simp only [wpD, bO, AOp.acts, AOp.reads, if_true, Bool.false_eq_true, if_false]
theorem D_min (xs : List AOpd) (d : Option Nat) (wl wh : Nat) (ds : List ADOper) (e : Env) (σ : St) (next : Nat) (hist : List St) (reads : List ARead) (K : Env → St → Prop) : wpD T (⟨⟨d, .min xs, none⟩, wl, wh⟩ :: ds) e σ next hist reads K = bO (K := ⟨fun v σ' => σ' = σ ∧ wpD T ds (Env.put e d v) σ next hist reads K⟩) (aop (.min xs) e σ) := by
 simp only [wpD, bO, AOp.acts, AOp.reads, if_true, Bool.false_eq_true, if_false]
theorem D_max (xs : List AOpd) (d : Option Nat) (wl wh : Nat) (ds : List ADOper) (e : Env) (σ : St) (next : Nat) (hist : List St) (reads : List ARead) (K : Env → St → Prop) : wpD T (⟨⟨d, .max xs, none⟩, wl, wh⟩ :: ds) e σ next hist reads K = bO (K := ⟨fun v σ' => σ' = σ ∧ wpD T ds (Env.put e d v) σ next hist reads K⟩) (aop (.max xs) e σ) := by
 simp only [wpD, bO, AOp.acts, AOp.reads, if_true, Bool.false_eq_true, if_false]
theorem D_srange (x : AOpd) (d : Option Nat) (wl wh : Nat) (ds : List ADOper) (e : Env) (σ : St) (next : Nat) (hist : List St) (reads : List ARead) (K : Env → St → Prop) : wpD T (⟨⟨d, .srange x, none⟩, wl, wh⟩ :: ds) e σ next hist reads K = bO (K := ⟨fun v σ' => wpD T ds (Env.put e d v) σ' next (hist ++ [σ']) reads K⟩) (aop (.srange x) e σ) := by
 simp only [wpD, bO, AOp.acts, AOp.reads, if_true, Bool.false_eq_true, if_false]
theorem D_snext (x : AOpd) (d : Option Nat) (wl wh : Nat) (ds : List ADOper) (e : Env) (σ : St) (next : Nat) (hist : List St) (reads : List ARead) (K : Env → St → Prop) : wpD T (⟨⟨d, .snext x, none⟩, wl, wh⟩ :: ds) e σ next hist reads K = bO (K := ⟨fun v σ' => wpD T ds (Env.put e d v) σ' next (hist ++ [σ']) reads K⟩) (aop (.snext x) e σ) := by
 simp only [wpD, bO, AOp.acts, AOp.reads, if_true, Bool.false_eq_true, if_false]
theorem D_guardC (f : AOpd) (xs : List AOpd) (t : Nat) (want : Bool) (d : Option Nat) (wl wh : Nat) (ds : List ADOper) (e : Env) (σ : St) (next : Nat) (hist : List St) (reads : List ARead) (K : Env → St → Prop) : wpD T (⟨⟨d, .call f xs, some (t, want)⟩, wl, wh⟩ :: ds) e σ next hist reads K =
  bG (A := ⟨wpD T (⟨⟨d, .call f xs, none⟩, wl, wh⟩ :: ds) e σ next hist reads K⟩) (B := ⟨wpD T ds (Env.put e d (.tuple [])) σ next (hist ++ [σ]) reads K⟩) (Env.get e t) want := by simp only [wpD, bG]
theorem G_mov (x : AOpd) (t : Nat) (want : Bool) (d : Option Nat) (wl wh : Nat) (ds : List ADOper) (e : Env) (σ : St) (next : Nat) (hist : List St) (reads : List ARead) (K : Env → St → Prop) : wpD T (⟨⟨d, .mov x, some (t, want)⟩, wl, wh⟩ :: ds) e σ next hist reads K =
  bG (A := ⟨wpD T (⟨⟨d, .mov x, none⟩, wl, wh⟩ :: ds) e σ next hist reads K⟩) (B := ⟨wpD T ds (Env.put e d (.tuple [])) σ next hist reads K⟩) (Env.get e t) want := by
 simp only [wpD, bG, AOp.allocs, AOp.acts, true_and, if_true, Bool.false_eq_true, if_false]
theorem G_pick (c x y : AOpd) (t : Nat) (want : Bool) (d : Option Nat) (wl wh : Nat) (ds : List ADOper) (e : Env) (σ : St) (next : Nat) (hist : List St) (reads : List ARead) (K : Env → St → Prop) : wpD T (⟨⟨d, .pick c x y, some (t, want)⟩, wl, wh⟩ :: ds) e σ next hist reads K =
  bG (A := ⟨wpD T (⟨⟨d, .pick c x y, none⟩, wl, wh⟩ :: ds) e σ next hist reads K⟩) (B := ⟨wpD T ds (Env.put e d (.tuple [])) σ next hist reads K⟩) (Env.get e t) want := by
 simp only [wpD, bG, AOp.allocs, AOp.acts, true_and, if_true, Bool.false_eq_true, if_false]
theorem G_box (n : Nat) (x : AOpd) (t : Nat) (want : Bool) (d : Option Nat) (wl wh : Nat) (ds : List ADOper) (e : Env) (σ : St) (next : Nat) (hist : List St) (reads : List ARead) (K : Env → St → Prop) : wpD T (⟨⟨d, .box n x, some (t, want)⟩, wl, wh⟩ :: ds) e σ next hist reads K =
  bG (A := ⟨wpD T (⟨⟨d, .box n x, none⟩, wl, wh⟩ :: ds) e σ next hist reads K⟩) (B := ⟨wpD T ds (Env.put e d (.tuple [])) σ next (hist ++ [σ]) reads K⟩) (Env.get e t) want := by
 simp only [wpD, bG, AOp.allocs, AOp.acts, true_and, if_true, Bool.false_eq_true, if_false]
theorem G_build (z : List AV) (ps : List (Nat × Nat × AOpd)) (t : Nat) (want : Bool) (d : Option Nat) (wl wh : Nat) (ds : List ADOper) (e : Env) (σ : St) (next : Nat) (hist : List St) (reads : List ARead) (K : Env → St → Prop) : wpD T (⟨⟨d, .build z ps, some (t, want)⟩, wl, wh⟩ :: ds) e σ next hist reads K =
  bG (A := ⟨wpD T (⟨⟨d, .build z ps, none⟩, wl, wh⟩ :: ds) e σ next hist reads K⟩) (B := ⟨wpD T ds (Env.put e d (.tuple [])) σ next hist reads K⟩) (Env.get e t) want := by
 simp only [wpD, bG, AOp.allocs, AOp.acts, true_and, if_true, Bool.false_eq_true, if_false]
theorem G_mklit (n : Nat) (xs : List AOpd) (t : Nat) (want : Bool) (d : Option Nat) (wl wh : Nat) (ds : List ADOper) (e : Env) (σ : St) (next : Nat) (hist : List St) (reads : List ARead) (K : Env → St → Prop) : wpD T (⟨⟨d, .mklit n xs, some (t, want)⟩, wl, wh⟩ :: ds) e σ next hist reads K =
  bG (A := ⟨wpD T (⟨⟨d, .mklit n xs, none⟩, wl, wh⟩ :: ds) e σ next hist reads K⟩) (B := ⟨wpD T ds (Env.put e d (.tuple [])) σ next hist reads K⟩) (Env.get e t) want := by
 simp only [wpD, bG, AOp.allocs, AOp.acts, true_and, if_true, Bool.false_eq_true, if_false]
theorem G_mkref (n : Nat) (xs : List AOpd) (t : Nat) (want : Bool) (d : Option Nat) (wl wh : Nat) (ds : List ADOper) (e : Env) (σ : St) (next : Nat) (hist : List St) (reads : List ARead) (K : Env → St → Prop) : wpD T (⟨⟨d, .mkref n xs, some (t, want)⟩, wl, wh⟩ :: ds) e σ next hist reads K =
  bG (A := ⟨wpD T (⟨⟨d, .mkref n xs, none⟩, wl, wh⟩ :: ds) e σ next hist reads K⟩) (B := ⟨wpD T ds (Env.put e d (.tuple [])) σ next (hist ++ [σ]) reads K⟩) (Env.get e t) want := by
 simp only [wpD, bG, AOp.allocs, AOp.acts, true_and, if_true, Bool.false_eq_true, if_false]
theorem G_load (sh : Option Nat) (x : AOpd) (t : Nat) (want : Bool) (d : Option Nat) (wl wh : Nat) (ds : List ADOper) (e : Env) (σ : St) (next : Nat) (hist : List St) (reads : List ARead) (K : Env → St → Prop) : wpD T (⟨⟨d, .load sh x, some (t, want)⟩, wl, wh⟩ :: ds) e σ next hist reads K =
  bG (A := ⟨wpD T (⟨⟨d, .load sh x, none⟩, wl, wh⟩ :: ds) e σ next hist reads K⟩) (B := ⟨wpD T ds (Env.put e d (.tuple [])) σ next hist reads K⟩) (Env.get e t) want := by
 simp only [wpD, bG, AOp.allocs, AOp.acts, true_and, if_true, Bool.false_eq_true, if_false]
theorem G_store (n : Nat) (x y : AOpd) (t : Nat) (want : Bool) (d : Option Nat) (wl wh : Nat) (ds : List ADOper) (e : Env) (σ : St) (next : Nat) (hist : List St) (reads : List ARead) (K : Env → St → Prop) : wpD T (⟨⟨d, .store n x y, some (t, want)⟩, wl, wh⟩ :: ds) e σ next hist reads K =
  bG (A := ⟨wpD T (⟨⟨d, .store n x y, none⟩, wl, wh⟩ :: ds) e σ next hist reads K⟩) (B := ⟨wpD T ds (Env.put e d (.tuple [])) σ next (hist ++ [σ]) reads K⟩) (Env.get e t) want := by
 simp only [wpD, bG, AOp.allocs, AOp.acts, true_and, if_true, Bool.false_eq_true, if_false]
theorem G_nilCheck (x : AOpd) (t : Nat) (want : Bool) (d : Option Nat) (wl wh : Nat) (ds : List ADOper) (e : Env) (σ : St) (next : Nat) (hist : List St) (reads : List ARead) (K : Env → St → Prop) : wpD T (⟨⟨d, .nilCheck x, some (t, want)⟩, wl, wh⟩ :: ds) e σ next hist reads K =
  bG (A := ⟨wpD T (⟨⟨d, .nilCheck x, none⟩, wl, wh⟩ :: ds) e σ next hist reads K⟩) (B := ⟨wpD T ds (Env.put e d (.tuple [])) σ next hist reads K⟩) (Env.get e t) want := by
 simp only [wpD, bG, AOp.allocs, AOp.acts, true_and, if_true, Bool.false_eq_true, if_false]
theorem G_bin (op : BinOp) (x y : AOpd) (t : Nat) (want : Bool) (d : Option Nat) (wl wh : Nat) (ds : List ADOper) (e : Env) (σ : St) (next : Nat) (hist : List St) (reads : List ARead) (K : Env → St → Prop) : wpD T (⟨⟨d, .bin op x y, some (t, want)⟩, wl, wh⟩ :: ds) e σ next hist reads K =
  bG (A := ⟨wpD T (⟨⟨d, .bin op x y, none⟩, wl, wh⟩ :: ds) e σ next hist reads K⟩) (B := ⟨wpD T ds (Env.put e d (.tuple [])) σ next hist reads K⟩) (Env.get e t) want := by
 simp only [wpD, bG, AOp.allocs, AOp.acts, true_and, if_true, Bool.false_eq_true, if_false]
theorem G_eql (sh : EqTy) (n : Bool) (x y : AOpd) (t : Nat) (want : Bool) (d : Option Nat) (wl wh : Nat) (ds : List ADOper) (e : Env) (σ : St) (next : Nat) (hist : List St) (reads : List ARead) (K : Env → St → Prop) : wpD T (⟨⟨d, .eql sh n x y, some (t, want)⟩, wl, wh⟩ :: ds) e σ next hist reads K =
  bG (A := ⟨wpD T (⟨⟨d, .eql sh n x y, none⟩, wl, wh⟩ :: ds) e σ next hist reads K⟩) (B := ⟨wpD T ds (Env.put e d (.tuple [])) σ next hist reads K⟩) (Env.get e t) want := by
 simp only [wpD, bG, AOp.allocs, AOp.acts, true_and, if_true, Bool.false_eq_true, if_false]
theorem G_not (x : AOpd) (t : Nat) (want : Bool) (d : Option Nat) (wl wh : Nat) (ds : List ADOper) (e : Env) (σ : St) (next : Nat) (hist : List St) (reads : List ARead) (K : Env → St → Prop) : wpD T (⟨⟨d, .not x, some (t, want)⟩, wl, wh⟩ :: ds) e σ next hist reads K =
  bG (A := ⟨wpD T (⟨⟨d, .not x, none⟩, wl, wh⟩ :: ds) e σ next hist reads K⟩) (B := ⟨wpD T ds (Env.put e d (.tuple [])) σ next hist reads K⟩) (Env.get e t) want := by
 simp only [wpD, bG, AOp.allocs, AOp.acts, true_and, if_true, Bool.false_eq_true, if_false]
theorem G_neg (x : AOpd) (t : Nat) (want : Bool) (d : Option Nat) (wl wh : Nat) (ds : List ADOper) (e : Env) (σ : St) (next : Nat) (hist : List St) (reads : List ARead) (K : Env → St → Prop) : wpD T (⟨⟨d, .neg x, some (t, want)⟩, wl, wh⟩ :: ds) e σ next hist reads K =
  bG (A := ⟨wpD T (⟨⟨d, .neg x, none⟩, wl, wh⟩ :: ds) e σ next hist reads K⟩) (B := ⟨wpD T ds (Env.put e d (.tuple [])) σ next hist reads K⟩) (Env.get e t) want := by
 simp only [wpD, bG, AOp.allocs, AOp.acts, true_and, if_true, Bool.false_eq_true, if_false]
theorem G_conv (k : IntKind) (x : AOpd) (t : Nat) (want : Bool) (d : Option Nat) (wl wh : Nat) (ds : List ADOper) (e : Env) (σ : St) (next : Nat) (hist : List St) (reads : List ARead) (K : Env → St → Prop) : wpD T (⟨⟨d, .conv k x, some (t, want)⟩, wl, wh⟩ :: ds) e σ next hist reads K =
  bG (A := ⟨wpD T (⟨⟨d, .conv k x, none⟩, wl, wh⟩ :: ds) e σ next hist reads K⟩) (B := ⟨wpD T ds (Env.put e d (.tuple [])) σ next hist reads K⟩) (Env.get e t) want := by
 simp only [wpD, bG, AOp.allocs, AOp.acts, true_and, if_true, Bool.false_eq_true, if_false]
theorem G_mkfun (f : FuncId) (xs ys : List AOpd) (t : Nat) (want : Bool) (d : Option Nat) (wl wh : Nat) (ds : List ADOper) (e : Env) (σ : St) (next : Nat) (hist : List St) (reads : List ARead) (K : Env → St → Prop) : wpD T (⟨⟨d, .mkfun f xs ys, some (t, want)⟩, wl, wh⟩ :: ds) e σ next hist reads K =
  bG (A := ⟨wpD T (⟨⟨d, .mkfun f xs ys, none⟩, wl, wh⟩ :: ds) e σ next hist reads K⟩) (B := ⟨wpD T ds (Env.put e d (.tuple [])) σ next hist reads K⟩) (Env.get e t) want := by
 simp only [wpD, bG, AOp.allocs, AOp.acts, true_and, if_true, Bool.false_eq_true, if_false]
theorem G_mkmap  (t : Nat) (want : Bool) (d : Option Nat) (wl wh : Nat) (ds : List ADOper) (e : Env) (σ : St) (next : Nat) (hist : List St) (reads : List ARead) (K : Env → St → Prop) : wpD T (⟨⟨d, .mkmap, some (t, want)⟩, wl, wh⟩ :: ds) e σ next hist reads K =
  bG (A := ⟨wpD T (⟨⟨d, .mkmap, none⟩, wl, wh⟩ :: ds) e σ next hist reads K⟩) (B := ⟨wpD T ds (Env.put e d (.tuple [])) σ next (hist ++ [σ]) reads K⟩) (Env.get e t) want := by
 simp only [wpD, bG, AOp.allocs, AOp.acts, true_and, if_true, Bool.false_eq_true, if_false]
theorem G_mkslice (z : List AV) (b : Nat) (x y : AOpd) (t : Nat) (want : Bool) (d : Option Nat) (wl wh : Nat) (ds : List ADOper) (e : Env) (σ : St) (next : Nat) (hist : List St) (reads : List ARead) (K : Env → St → Prop) : wpD T (⟨⟨d, .mkslice z b x y, some (t, want)⟩, wl, wh⟩ :: ds) e σ next hist reads K =
  bG (A := ⟨wpD T (⟨⟨d, .mkslice z b x y, none⟩, wl, wh⟩ :: ds) e σ next hist reads K⟩) (B := ⟨wpD T ds (Env.put e d (.tuple [])) σ next (hist ++ [σ]) reads K⟩) (Env.get e t) want := by
 simp only [wpD, bG, AOp.allocs, AOp.acts, true_and, if_true, Bool.false_eq_true, if_false]
theorem G_slicev (n : Nat) (x : AOpd) (lo hi mx : Option AOpd) (t : Nat) (want : Bool) (d : Option Nat) (wl wh : Nat) (ds : List ADOper) (e : Env) (σ : St) (next : Nat) (hist : List St) (reads : List ARead) (K : Env → St → Prop) : wpD T (⟨⟨d, .slicev n x lo hi mx, some (t, want)⟩, wl, wh⟩ :: ds) e σ next hist reads K =
  bG (A := ⟨wpD T (⟨⟨d, .slicev n x lo hi mx, none⟩, wl, wh⟩ :: ds) e σ next hist reads K⟩) (B := ⟨wpD T ds (Env.put e d (.tuple [])) σ next hist reads K⟩) (Env.get e t) want := by
 simp only [wpD, bG, AOp.allocs, AOp.acts, true_and, if_true, Bool.false_eq_true, if_false]
theorem G_slicea (n s : Nat) (x : AOpd) (lo hi : Option AOpd) (t : Nat) (want : Bool) (d : Option Nat) (wl wh : Nat) (ds : List ADOper) (e : Env) (σ : St) (next : Nat) (hist : List St) (reads : List ARead) (K : Env → St → Prop) : wpD T (⟨⟨d, .slicea n s x lo hi, some (t, want)⟩, wl, wh⟩ :: ds) e σ next hist reads K =
  bG (A := ⟨wpD T (⟨⟨d, .slicea n s x lo hi, none⟩, wl, wh⟩ :: ds) e σ next hist reads K⟩) (B := ⟨wpD T ds (Env.put e d (.tuple [])) σ next hist reads K⟩) (Env.get e t) want := by
 simp only [wpD, bG, AOp.allocs, AOp.acts, true_and, if_true, Bool.false_eq_true, if_false]
theorem G_faddr (x : AOpd) (o : Nat) (t : Nat) (want : Bool) (d : Option Nat) (wl wh : Nat) (ds : List ADOper) (e : Env) (σ : St) (next : Nat) (hist : List St) (reads : List ARead) (K : Env → St → Prop) : wpD T (⟨⟨d, .faddr x o, some (t, want)⟩, wl, wh⟩ :: ds) e σ next hist reads K =
  bG (A := ⟨wpD T (⟨⟨d, .faddr x o, none⟩, wl, wh⟩ :: ds) e σ next hist reads K⟩) (B := ⟨wpD T ds (Env.put e d (.tuple [])) σ next hist reads K⟩) (Env.get e t) want := by
 simp only [wpD, bG, AOp.allocs, AOp.acts, true_and, if_true, Bool.false_eq_true, if_false]
theorem G_field (x : AOpd) (o : Nat) (sh : Option Nat) (t : Nat) (want : Bool) (d : Option Nat) (wl wh : Nat) (ds : List ADOper) (e : Env) (σ : St) (next : Nat) (hist : List St) (reads : List ARead) (K : Env → St → Prop) : wpD T (⟨⟨d, .field x o sh, some (t, want)⟩, wl, wh⟩ :: ds) e σ next hist reads K =
  bG (A := ⟨wpD T (⟨⟨d, .field x o sh, none⟩, wl, wh⟩ :: ds) e σ next hist reads K⟩) (B := ⟨wpD T ds (Env.put e d (.tuple [])) σ next hist reads K⟩) (Env.get e t) want := by
 simp only [wpD, bG, AOp.allocs, AOp.acts, true_and, if_true, Bool.false_eq_true, if_false]
theorem G_iaddr (a : Option Nat) (s : Nat) (x i : AOpd) (t : Nat) (want : Bool) (d : Option Nat) (wl wh : Nat) (ds : List ADOper) (e : Env) (σ : St) (next : Nat) (hist : List St) (reads : List ARead) (K : Env → St → Prop) : wpD T (⟨⟨d, .iaddr a s x i, some (t, want)⟩, wl, wh⟩ :: ds) e σ next hist reads K =
  bG (A := ⟨wpD T (⟨⟨d, .iaddr a s x i, none⟩, wl, wh⟩ :: ds) e σ next hist reads K⟩) (B := ⟨wpD T ds (Env.put e d (.tuple [])) σ next hist reads K⟩) (Env.get e t) want := by
 simp only [wpD, bG, AOp.allocs, AOp.acts, true_and, if_true, Bool.false_eq_true, if_false]
theorem G_index (n s : Nat) (sh : Option Nat) (x i : AOpd) (t : Nat) (want : Bool) (d : Option Nat) (wl wh : Nat) (ds : List ADOper) (e : Env) (σ : St) (next : Nat) (hist : List St) (reads : List ARead) (K : Env → St → Prop) : wpD T (⟨⟨d, .index n s sh x i, some (t, want)⟩, wl, wh⟩ :: ds) e σ next hist reads K =
  bG (A := ⟨wpD T (⟨⟨d, .index n s sh x i, none⟩, wl, wh⟩ :: ds) e σ next hist reads K⟩) (B := ⟨wpD T ds (Env.put e d (.tuple [])) σ next hist reads K⟩) (Env.get e t) want := by
 simp only [wpD, bG, AOp.allocs, AOp.acts, true_and, if_true, Bool.false_eq_true, if_false]
theorem G_sindex (x i : AOpd) (t : Nat) (want : Bool) (d : Option Nat) (wl wh : Nat) (ds : List ADOper) (e : Env) (σ : St) (next : Nat) (hist : List St) (reads : List ARead) (K : Env → St → Prop) : wpD T (⟨⟨d, .sindex x i, some (t, want)⟩, wl, wh⟩ :: ds) e σ next hist reads K =
  bG (A := ⟨wpD T (⟨⟨d, .sindex x i, none⟩, wl, wh⟩ :: ds) e σ next hist reads K⟩) (B := ⟨wpD T ds (Env.put e d (.tuple [])) σ next hist reads K⟩) (Env.get e t) want := by
 simp only [wpD, bG, AOp.allocs, AOp.acts, true_and, if_true, Bool.false_eq_true, if_false]
theorem G_lookup (sh : EqTy) (ok : Bool) (z : AV) (m k : AOpd) (t : Nat) (want : Bool) (d : Option Nat) (wl wh : Nat) (ds : List ADOper) (e : Env) (σ : St) (next : Nat) (hist : List St) (reads : List ARead) (K : Env → St → Prop) : wpD T (⟨⟨d, .lookup sh ok z m k, some (t, want)⟩, wl, wh⟩ :: ds) e σ next hist reads K =
  bG (A := ⟨wpD T (⟨⟨d, .lookup sh ok z m k, none⟩, wl, wh⟩ :: ds) e σ next hist reads K⟩) (B := ⟨wpD T ds (Env.put e d (.tuple [])) σ next hist reads K⟩) (Env.get e t) want := by
 simp only [wpD, bG, AOp.allocs, AOp.acts, true_and, if_true, Bool.false_eq_true, if_false]
theorem G_mapset (sh : EqTy) (m k v : AOpd) (t : Nat) (want : Bool) (d : Option Nat) (wl wh : Nat) (ds : List ADOper) (e : Env) (σ : St) (next : Nat) (hist : List St) (reads : List ARead) (K : Env → St → Prop) : wpD T (⟨⟨d, .mapset sh m k v, some (t, want)⟩, wl, wh⟩ :: ds) e σ next hist reads K =
  bG (A := ⟨wpD T (⟨⟨d, .mapset sh m k v, none⟩, wl, wh⟩ :: ds) e σ next hist reads K⟩) (B := ⟨wpD T ds (Env.put e d (.tuple [])) σ next (hist ++ [σ]) reads K⟩) (Env.get e t) want := by
 simp only [wpD, bG, AOp.allocs, AOp.acts, true_and, if_true, Bool.false_eq_true, if_false]
theorem G_ext (x : AOpd) (i : Nat) (t : Nat) (want : Bool) (d : Option Nat) (wl wh : Nat) (ds : List ADOper) (e : Env) (σ : St) (next : Nat) (hist : List St) (reads : List ARead) (K : Env → St → Prop) : wpD T (⟨⟨d, .ext x i, some (t, want)⟩, wl, wh⟩ :: ds) e σ next hist reads K =
  bG (A := ⟨wpD T (⟨⟨d, .ext x i, none⟩, wl, wh⟩ :: ds) e σ next hist reads K⟩) (B := ⟨wpD T ds (Env.put e d (.tuple [])) σ next hist reads K⟩) (Env.get e t) want := by
 simp only [wpD, bG, AOp.allocs, AOp.acts, true_and, if_true, Bool.false_eq_true, if_false]
theorem G_len (k : Nat) (x : AOpd) (t : Nat) (want : Bool) (d : Option Nat) (wl wh : Nat) (ds : List ADOper) (e : Env) (σ : St) (next : Nat) (hist : List St) (reads : List ARead) (K : Env → St → Prop) : wpD T (⟨⟨d, .len k x, some (t, want)⟩, wl, wh⟩ :: ds) e σ next hist reads K =
  bG (A := ⟨wpD T (⟨⟨d, .len k x, none⟩, wl, wh⟩ :: ds) e σ next hist reads K⟩) (B := ⟨wpD T ds (Env.put e d (.tuple [])) σ next hist reads K⟩) (Env.get e t) want := by
 simp only [wpD, bG, AOp.allocs, AOp.acts, true_and, if_true, Bool.false_eq_true, if_false]
theorem G_append (n b : Nat) (x y : AOpd) (t : Nat) (want : Bool) (d : Option Nat) (wl wh : Nat) (ds : List ADOper) (e : Env) (σ : St) (next : Nat) (hist : List St) (reads : List ARead) (K : Env → St → Prop) : wpD T (⟨⟨d, .append n b x y, some (t, want)⟩, wl, wh⟩ :: ds) e σ next hist reads K =
  bG (A := ⟨wpD T (⟨⟨d, .append n b x y, none⟩, wl, wh⟩ :: ds) e σ next hist reads K⟩) (B := ⟨wpD T ds (Env.put e d (.tuple [])) σ next (hist ++ [σ]) reads K⟩) (Env.get e t) want := by
 simp only [wpD, bG, AOp.allocs, AOp.acts, true_and, if_true, Bool.false_eq_true, if_false]
theorem G_apref (n b : Nat) (x y : AOpd) (t : Nat) (want : Bool) (d : Option Nat) (wl wh : Nat) (ds : List ADOper) (e : Env) (σ : St) (next : Nat) (hist : List St) (reads : List ARead) (K : Env → St → Prop) : wpD T (⟨⟨d, .apref n b x y, some (t, want)⟩, wl, wh⟩ :: ds) e σ next hist reads K =
  bG (A := ⟨wpD T (⟨⟨d, .apref n b x y, none⟩, wl, wh⟩ :: ds) e σ next hist reads K⟩) (B := ⟨wpD T ds (Env.put e d (.tuple [])) σ next (hist ++ [σ]) reads K⟩) (Env.get e t) want := by
 simp only [wpD, bG, AOp.allocs, AOp.acts, true_and, if_true, Bool.false_eq_true, if_false]
theorem G_copy (n : Nat) (x y : AOpd) (t : Nat) (want : Bool) (d : Option Nat) (wl wh : Nat) (ds : List ADOper) (e : Env) (σ : St) (next : Nat) (hist : List St) (reads : List ARead) (K : Env → St → Prop) : wpD T (⟨⟨d, .copy n x y, some (t, want)⟩, wl, wh⟩ :: ds) e σ next hist reads K =
  bG (A := ⟨wpD T (⟨⟨d, .copy n x y, none⟩, wl, wh⟩ :: ds) e σ next hist reads K⟩) (B := ⟨wpD T ds (Env.put e d (.tuple [])) σ next (hist ++ [σ]) reads K⟩) (Env.get e t) want := by
 simp only [wpD, bG, AOp.allocs, AOp.acts, true_and, if_true, Bool.false_eq_true, if_false]
theorem G_min (xs : List AOpd) (t : Nat) (want : Bool) (d : Option Nat) (wl wh : Nat) (ds : List ADOper) (e : Env) (σ : St) (next : Nat) (hist : List St) (reads : List ARead) (K : Env → St → Prop) : wpD T (⟨⟨d, .min xs, some (t, want)⟩, wl, wh⟩ :: ds) e σ next hist reads K =
  bG (A := ⟨wpD T (⟨⟨d, .min xs, none⟩, wl, wh⟩ :: ds) e σ next hist reads K⟩) (B := ⟨wpD T ds (Env.put e d (.tuple [])) σ next hist reads K⟩) (Env.get e t) want := by
 simp only [wpD, bG, AOp.allocs, AOp.acts, true_and, if_true, Bool.false_eq_true, if_false]
theorem G_max (xs : List AOpd) (t : Nat) (want : Bool) (d : Option Nat) (wl wh : Nat) (ds : List ADOper) (e : Env) (σ : St) (next : Nat) (hist : List St) (reads : List ARead) (K : Env → St → Prop) : wpD T (⟨⟨d, .max xs, some (t, want)⟩, wl, wh⟩ :: ds) e σ next hist reads K =
  bG (A := ⟨wpD T (⟨⟨d, .max xs, none⟩, wl, wh⟩ :: ds) e σ next hist reads K⟩) (B := ⟨wpD T ds (Env.put e d (.tuple [])) σ next hist reads K⟩) (Env.get e t) want := by
 simp only [wpD, bG, AOp.allocs, AOp.acts, true_and, if_true, Bool.false_eq_true, if_false]
theorem G_srange (x : AOpd) (t : Nat) (want : Bool) (d : Option Nat) (wl wh : Nat) (ds : List ADOper) (e : Env) (σ : St) (next : Nat) (hist : List St) (reads : List ARead) (K : Env → St → Prop) : wpD T (⟨⟨d, .srange x, some (t, want)⟩, wl, wh⟩ :: ds) e σ next hist reads K =
  bG (A := ⟨wpD T (⟨⟨d, .srange x, none⟩, wl, wh⟩ :: ds) e σ next hist reads K⟩) (B := ⟨wpD T ds (Env.put e d (.tuple [])) σ next (hist ++ [σ]) reads K⟩) (Env.get e t) want := by
 simp only [wpD, bG, AOp.allocs, AOp.acts, true_and, if_true, Bool.false_eq_true, if_false]
theorem G_snext (x : AOpd) (t : Nat) (want : Bool) (d : Option Nat) (wl wh : Nat) (ds : List ADOper) (e : Env) (σ : St) (next : Nat) (hist : List St) (reads : List ARead) (K : Env → St → Prop) : wpD T (⟨⟨d, .snext x, some (t, want)⟩, wl, wh⟩ :: ds) e σ next hist reads K =
  bG (A := ⟨wpD T (⟨⟨d, .snext x, none⟩, wl, wh⟩ :: ds) e σ next hist reads K⟩) (B := ⟨wpD T ds (Env.put e d (.tuple [])) σ next (hist ++ [σ]) reads K⟩) (Env.get e t) want := by
 simp only [wpD, bG, AOp.allocs, AOp.acts, true_and, if_true, Bool.false_eq_true, if_false]
end Go.Am
namespace Go.Am
variable {T : FuncId → Option AFunc}
structure KeepS (σ σ' : St) (lo : Nat) : Prop where
 len : σ.length ≤ σ'.length
 low : ∀ i, i < lo → i < σ.length → σ'[i]? = σ[i]?
 loops : ∀ (i : Nat) (st : LS) (pe : Option AJump) (env : Env) (ps : List Nat) (a b : ACode), i < σ.length → σ'[i]? = some (.loop st pe env ps a b) → ∃ st' pe', σ[i]? = some (.loop st' pe' env ps a b)
theorem KeepS.refl (σ : St) (lo : Nat) : KeepS σ σ lo := ⟨Nat.le_refl _, fun _ _ _ => rfl, fun i st pe env ps a b _ h => ⟨st, pe, h⟩⟩
theorem KeepS.weak {σ σ' : St} {lo l : Nat} (h : KeepS σ σ' lo) (hl : l ≤ lo) : KeepS σ σ' l := ⟨h.len, fun i hi => h.low i (by omega), h.loops⟩
theorem KeepS.trans {σ σ1 σ2 : St} {l1 l2 : Nat} (h : KeepS σ σ1 l1) (k : KeepS σ1 σ2 l2) : KeepS σ σ2 (Nat.min l1 l2) where
 len := Nat.le_trans h.len k.len
 low i hi hlt := by
  have h1 : i < l1 := Nat.lt_of_lt_of_le hi (Nat.min_le_left _ _)
  have h2 : i < l2 := Nat.lt_of_lt_of_le hi (Nat.min_le_right _ _)
  rw [k.low i h2 (Nat.lt_of_lt_of_le hlt h.len), h.low i h1 hlt]
 loops i st pe env ps a b hlt e := by
  obtain ⟨st1, pe1, e1⟩ := k.loops i st pe env ps a b (Nat.lt_of_lt_of_le hlt h.len) e
  exact h.loops i st1 pe1 env ps a b hlt e1
theorem KeepS.app (σ : St) (τ : St) (lo : Nat) : KeepS σ (σ ++ τ) lo :=
 ⟨by simp, fun i _ hi => List.getElem?_append_left hi, fun i st pe env ps a b hi e => ⟨st, pe, by rw [← List.getElem?_append_left (l₂ := τ) hi]; exact e⟩⟩
theorem KeepS.set {σ : St} {i : Nat} {x : ABlk} (hx : ∀ st pe env ps a b, x ≠ .loop st pe env ps a b) : KeepS σ (σ.set i x) i where
 len := by simp
 low j hj _ := List.getElem?_set_ne (by omega)
 loops j st pe env ps a b hj e := by
  by_cases h : i = j
  ·subst h
   rw [List.getElem?_set_self hj] at e
   cases e
   exact absurd rfl (hx _ _ _ _ _ _)
  ·rw [List.getElem?_set_ne h] at e
   exact ⟨st, pe, e⟩
end Go.Am
namespace Go.Am
variable {T : FuncId → Option AFunc}
theorem KeepS.step {σ σ1 σ2 : St} {l lo lo' : Nat} (h : KeepS σ σ1 l) (k : lo' ≤ Nat.min lo l ∧ KeepS σ1 σ2 lo') : lo' ≤ lo ∧ KeepS σ σ2 lo' := by
 have h1 : lo' ≤ l := Nat.le_trans k.1 (Nat.min_le_right _ _)
 refine ⟨Nat.le_trans k.1 (Nat.min_le_left _ _), (h.trans k.2).weak ?_⟩
 exact Nat.le_min.2 ⟨h1, Nat.le_refl _⟩
end Go.Am
namespace Go.Am
variable {T : FuncId → Option AFunc}
theorem E_evs0 (e : Env) : evs e [] = [] := by simp only [evs]
theorem E_evs1 (e : Env) (x : AOpd) (xs : List AOpd) : evs e (x :: xs) = x.ev e :: evs e xs := by simp only [evs]
theorem E_ovs0 (e : Env) : ovs e none = none := by simp only [ovs]
theorem E_ovs1 (e : Env) (x : AOpd) : ovs e (some x) = some (x.ev e) := by simp only [ovs]
theorem O_map {α β : Type} (f : α → β) (a : α) : Option.map f (some a) = some (f a) := by simp
theorem O_bind {α β : Type} (f : α → Option β) (a : α) : (some a).bind f = f a := by simp
theorem V_nilP (i o : Nat) : vNil (.ptr i o) = some (.ptr i o) := by simp only [vNil]
theorem V_nilL (xs : List AV) (i o : Nat) (t : Option Nat) : vNil (.lptr xs i o t) = some (.lptr xs i o t) := by simp only [vNil]
theorem V_nilF (f : FuncId) (a b : List AV) : vNil (.func f a b) = some (.func f a b) := by simp only [vNil]
theorem V_field (o : Nat) (sh : Option Nat) (cs : List AV) : vField o sh (.agg cs) = shaped sh cs o := by simp only [vField]
theorem V_conv (k k' : IntKind) (n : Int) : vConv k (.int k' n) = some (.int k (k.wrap n)) := by simp only [vConv]
theorem V_neg (k : IntKind) (n : Int) : vNeg (.int k n) = some (.int k (k.wrap (0 - n))) := by simp only [vNeg]
theorem V_pickT (x y : AV) : vPick (.bool true) x y = some x := by simp only [vPick]
theorem V_pickF (x y : AV) : vPick (.bool false) x y = some y := by simp only [vPick]
theorem V_str (s : ByteArray) : vStr (.str s) = some s := by simp only [vStr]
theorem V_eqI (k : IntKind) (a b : Int) : eqCell .i (.int k a) (.int k b) = some (a == b) := by simp [eqCell]
theorem V_eqB (a b : Bool) : eqCell .b (.bool a) (.bool b) = some (a == b) := by simp [eqCell]
theorem V_eqS (a b : ByteArray) : eqCell .s (.str a) (.str b) = some (a.toList == b.toList) := by simp [eqCell]
def oand : Option Bool → Option Bool → Option Bool
 | some p, some q => some (p && q)
 | _, _ => none
theorem V_oand (p q : Bool) : oand (some p) (some q) = some (p && q) := by simp only [oand]
theorem V_eqC0 : eqCells [] [] [] = some true := by simp [eqCells]
theorem V_eqC1 (k : SK) (ks : List SK) (a b : AV) (x y : List AV) : eqCells (k :: ks) (a :: x) (b :: y) = oand (eqCell k a b) (eqCells ks x y) := by
 simp only [eqCells, oand]; cases eqCell k a b <;> cases eqCells ks x y <;> rfl
theorem V_eq1 (k : SK) (x y : AV) : vEql (.one k) false x y = (eqCell k x y).map .bool := by
 simp only [vEql, eqSh]; cases eqCell k x y <;> simp
theorem V_ne1 (k : SK) (x y : AV) : vEql (.one k) true x y = (eqCell k x y).map fun b => .bool !b := by
 simp only [vEql, eqSh]; cases eqCell k x y <;> simp
theorem V_eqA (ks : List SK) (x y : List AV) : vEql (.agg ks) false (.agg x) (.agg y) = (eqCells ks x y).map .bool := by
 simp only [vEql, eqSh]; cases eqCells ks x y <;> simp
theorem V_neA (ks : List SK) (x y : List AV) : vEql (.agg ks) true (.agg x) (.agg y) = (eqCells ks x y).map fun b => .bool !b := by
 simp only [vEql, eqSh]; cases eqCells ks x y <;> simp
theorem V_add (k : IntKind) (a b : Int) : binAV .add (.int k a) (.int k b) = some (.int k (k.wrap (a + b))) := by simp [binAV, binInt]
theorem V_sub (k : IntKind) (a b : Int) : binAV .sub (.int k a) (.int k b) = some (.int k (k.wrap (a - b))) := by simp [binAV, binInt]
theorem V_mul (k : IntKind) (a b : Int) : binAV .mul (.int k a) (.int k b) = some (.int k (k.wrap (a * b))) := by simp [binAV, binInt]
theorem V_rem (k : IntKind) (a b : Int) (h : b ≠ 0) : binAV .rem (.int k a) (.int k b) = some (.int k (a.tmod b)) := by simp [binAV, binInt, h]
theorem V_lss (k : IntKind) (a b : Int) : binAV .lss (.int k a) (.int k b) = some (.bool (decide (a < b))) := by simp [binAV, binInt]
theorem V_leq (k : IntKind) (a b : Int) : binAV .leq (.int k a) (.int k b) = some (.bool (decide (a ≤ b))) := by simp [binAV, binInt]
theorem V_gtr (k : IntKind) (a b : Int) : binAV .gtr (.int k a) (.int k b) = some (.bool (decide (b < a))) := by simp [binAV, binInt]
theorem V_geq (k : IntKind) (a b : Int) : binAV .geq (.int k a) (.int k b) = some (.bool (decide (b ≤ a))) := by simp [binAV, binInt]
theorem wrap64 {x : Int} (h : -9223372036854775808 ≤ x ∧ x ≤ 9223372036854775807) : IntKind.i64.wrap x = x := by
 simp only [IntKind.wrap, IntKind.signed, IntKind.bits]
 first
  | (rw [Int.bmod_eq_of_le] <;> omega)
  | (simp; omega)
theorem V_len (σ : St) (xs : List AV) (f : Bool) (t : Option Nat) : lenAV 1 σ (.lit xs f t) = some xs.length := by simp only [lenAV]
theorem V_lenS (σ : St) (s : ByteArray) : lenAV 0 σ (.str s) = some s.size := by simp only [lenAV]
theorem V_lenR (σ : St) (id off len sz : Nat) : lenAV 1 σ (.ref id off len sz) = some len := by simp only [lenAV]
theorem M_ptr (sh : Option Nat) (σ : St) (id off : Nat) : loadAV sh σ (.ptr id off) = (cellsAt σ id).bind fun cs => shaped sh cs off := by
 simp only [loadAV]; cases cellsAt σ id <;> simp
theorem M_lptr (sh : Option Nat) (σ : St) (xs : List AV) (i off : Nat) (t : Option Nat) : loadAV sh σ (.lptr xs i off t) = (xs[i]?).bind fun x => shaped sh x.cells off := by
 simp only [loadAV]; cases xs[i]? <;> simp
theorem M_at0 (b : List AV) (τ : St) : cellsAt (.cells b :: τ) 0 = some b := by simp [cellsAt]
theorem M_atS (b : ABlk) (τ : St) (k : Nat) : cellsAt (b :: τ) (k + 1) = cellsAt τ k := by simp [cellsAt]
theorem M_base (σ τ : St) (k : Nat) : cellsAt (σ ++ τ) (σ.length + k) = cellsAt τ k := by simp only [cellsAt, st_get]
theorem M_base0 (σ τ : St) : cellsAt (σ ++ τ) σ.length = cellsAt τ 0 := M_base σ τ 0
theorem M_sh1 (cs : List AV) (off : Nat) : shaped none cs off = cs[off]? := by simp [shaped]
theorem M_shN (n : Nat) (cs : List AV) (off : Nat) : shaped (some n) cs off = if off + n ≤ cs.length then some (.agg ((cs.drop off).take n)) else none := by simp [shaped]
theorem M_store (n : Nat) (σ : St) (id off : Nat) (v : AV) : storeAV n σ (.ptr id off) v = (vCells n v).bind fun us => (cellsAt σ id).bind fun cs => (setCells cs off us).map fun cs' => σ.set id (.cells cs') := by
 simp only [storeAV, vCells]
 split
 ·simp only [Option.bind_some]
  cases cellsAt σ id with
  | none => simp
  | some cs => simp only [Option.bind_some]; cases setCells cs off v.cells <;> simp
 ·simp
theorem M_set (cs us : List AV) (off : Nat) : setCells cs off us = if off + us.length ≤ cs.length then some (cs.take off ++ us ++ cs.drop (off + us.length)) else none := by simp only [setCells]
def cellsOk (n : Nat) (v : AV) : Bool := v.cells.length == n && v.cells.all (·.cell)
theorem C_cells (n : Nat) (v : AV) : vCells n v = if cellsOk n v = true then some v.cells else none := by unfold vCells cellsOk; rfl
theorem C_int (k : IntKind) (n : Int) : cellsOk 1 (.int k n) = true := by simp [cellsOk, AV.cells, AV.cell]
theorem C_bool (b : Bool) : cellsOk 1 (.bool b) = true := by simp [cellsOk, AV.cells, AV.cell]
theorem C_str (b : ByteArray) : cellsOk 1 (.str b) = true := by simp [cellsOk, AV.cells, AV.cell]
theorem C_lit (xs : List AV) (f : Bool) (t : Option Nat) : cellsOk 1 (.lit xs f t) = true := by simp [cellsOk, AV.cells, AV.cell]
theorem C_ref (a b c d : Nat) : cellsOk 1 (.ref a b c d) = true := by simp [cellsOk, AV.cells, AV.cell]
theorem C_ptr (a b : Nat) : cellsOk 1 (.ptr a b) = true := by simp [cellsOk, AV.cells, AV.cell]
theorem C_func (f : FuncId) (a b : List AV) : cellsOk 1 (.func f a b) = true := by simp [cellsOk, AV.cells, AV.cell]
theorem C_map (i : Nat) : cellsOk 1 (.map i) = true := by simp [cellsOk, AV.cells, AV.cell]
theorem C_nilPtr : cellsOk 1 .nilPtr = true := by simp [cellsOk, AV.cells, AV.cell]
theorem C_nilFunc : cellsOk 1 .nilFunc = true := by simp [cellsOk, AV.cells, AV.cell]
def allCell : List AV → Bool
 | [] => true
 | v :: vs => v.cell && allCell vs
theorem C_agg (n : Nat) (cs : List AV) : cellsOk n (.agg cs) = (cs.length == n && allCell cs) := by
 simp only [cellsOk, AV.cells]
 congr 1
 induction cs with
 | nil => rfl
 | cons c cs ih => simp only [List.all_cons, allCell, ih]
theorem C_0 : allCell [] = true := by simp only [allCell]
theorem C1_int (k : IntKind) (n : Int) (cs : List AV) : allCell (.int k n :: cs) = allCell cs := by simp [allCell, AV.cell]
theorem C1_bool (b : Bool) (cs : List AV) : allCell (.bool b :: cs) = allCell cs := by simp [allCell, AV.cell]
theorem C1_str (b : ByteArray) (cs : List AV) : allCell (.str b :: cs) = allCell cs := by simp [allCell, AV.cell]
theorem C1_lit (xs : List AV) (f : Bool) (t : Option Nat) (cs : List AV) : allCell (.lit xs f t :: cs) = allCell cs := by simp [allCell, AV.cell]
theorem C1_ref (a b c d : Nat) (cs : List AV) : allCell (.ref a b c d :: cs) = allCell cs := by simp [allCell, AV.cell]
theorem C1_ptr (a b : Nat) (cs : List AV) : allCell (.ptr a b :: cs) = allCell cs := by simp [allCell, AV.cell]
theorem C1_func (f : FuncId) (a b : List AV) (cs : List AV) : allCell (.func f a b :: cs) = allCell cs := by simp [allCell, AV.cell]
theorem C1_map (i : Nat) (cs : List AV) : allCell (.map i :: cs) = allCell cs := by simp [allCell, AV.cell]
theorem C1_nilPtr  (cs : List AV) : allCell (.nilPtr :: cs) = allCell cs := by simp [allCell, AV.cell]
theorem C1_nilFunc  (cs : List AV) : allCell (.nilFunc :: cs) = allCell cs := by simp [allCell, AV.cell]
theorem C_mapc {α : Type} (enc : α → AV) (l : List α) (h : ∀ x, (enc x).cell = true) : allCell (l.map enc) = true := by
 induction l with
 | nil => rfl
 | cons x l ih => simp [allCell, h, ih]
theorem K_int (k : IntKind) (n : Int) : (AV.int k n).cells = [.int k n] := by simp [AV.cells]
theorem K_bool (b : Bool) : (AV.bool b).cells = [.bool b] := by simp [AV.cells]
theorem K_str (b : ByteArray) : (AV.str b).cells = [.str b] := by simp [AV.cells]
theorem K_lit (xs : List AV) (f : Bool) (t : Option Nat) : (AV.lit xs f t).cells = [.lit xs f t] := by simp [AV.cells]
theorem K_ref (a b c d : Nat) : (AV.ref a b c d).cells = [.ref a b c d] := by simp [AV.cells]
theorem K_ptr (a b : Nat) : (AV.ptr a b).cells = [.ptr a b] := by simp [AV.cells]
theorem K_func (f : FuncId) (a b : List AV) : (AV.func f a b).cells = [.func f a b] := by simp [AV.cells]
theorem K_map (i : Nat) : (AV.map i).cells = [.map i] := by simp [AV.cells]
theorem K_agg (cs : List AV) : (AV.agg cs).cells = cs := by simp [AV.cells]
theorem K_nilPtr : AV.nilPtr.cells = [.nilPtr] := by simp [AV.cells]
theorem K_nilFunc : AV.nilFunc.cells = [.nilFunc] := by simp [AV.cells]
theorem M_bc0 (e : Env) (cs : List AV) : buildCells e cs [] = some cs := by simp only [buildCells]
theorem M_bc1 (e : Env) (cs : List AV) (off n : Nat) (x : AOpd) (rest : List (Nat × Nat × AOpd)) :
  buildCells e cs ((off, n, x) :: rest) = ((vCells n (x.ev e)).bind fun us => setCells cs off us).bind fun cs => buildCells e cs rest := q_bcI e cs off n x rest
theorem L_all0 (n : Nat) : allCells n [] = true := by simp [allCells]
theorem L_all1 (n : Nat) (x : AV) (xs : List AV) : allCells n (x :: xs) = (cellsOk n x && allCells n xs) := by simp [allCells, cellsOk]
theorem L_allM {α : Type} (n : Nat) (enc : α → AV) (l : List α) (h : ∀ x, cellsOk n (enc x) = true) : allCells n (l.map enc) = true := by
 induction l with
 | nil => exact L_all0 n
 | cons x l ih => rw [List.map_cons, L_all1, h, ih]; rfl
theorem L_lit (n : Nat) (xs : List AV) : vLit n xs = if allCells n xs = true then some (.lit xs true none) else none := by simp only [vLit]
def vIdx (sz : Nat) (xs : List AV) (j : Int) (t : Option Nat) : Option AV := (xs[j.toNat]?).bind fun y => if 0 ≤ j ∧ y.cells.length = sz then some (.lptr xs j.toNat 0 t) else none
theorem V_iaL (sz : Nat) (xs : List AV) (f : Bool) (t : Option Nat) (k : IntKind) (j : Int) : vIaddr none sz (.lit xs f t) (.int k j) = vIdx sz xs j t := by
 simp only [vIaddr, intOf, vIdx]; cases xs[j.toNat]? <;> simp
theorem V_iaA (n sz id off : Nat) (k : IntKind) (j : Int) : vIaddr (some n) sz (.ptr id off) (.int k j) = if 0 ≤ j ∧ j < n then some (.ptr id (off + j.toNat * sz)) else none := by simp only [vIaddr, intOf]
theorem V_iaAL (n sz q off : Nat) (xs : List AV) (t : Option Nat) (k : IntKind) (j : Int) : vIaddr (some n) sz (.lptr xs q off t) (.int k j) = if 0 ≤ j ∧ j < n then some (.lptr xs q (off + j.toNat * sz) t) else none := by simp only [vIaddr, intOf]
theorem V_iaR (sz id off len sz' : Nat) (k : IntKind) (j : Int) : vIaddr none sz (.ref id off len sz') (.int k j) = if 0 ≤ j ∧ j < len ∧ sz' = sz then some (.ptr id (off + j.toNat * sz)) else none := by simp only [vIaddr, intOf]
def AppOk (sz b : Nat) (xs ys : List AV) : Prop := allCells sz xs = true ∧ allCells sz ys = true ∧ (xs.length + ys.length) * b ≤ room ∧ xs.length + ys.length ≤ room
theorem app_tok {sz b : Nat} {σ : St} {xs ys : List AV} {t : Nat} {tk : Option Nat} {f ex : Bool} (h : AppOk sz b xs ys) (h0 : ys.length ≠ 0) (ht : σ[t]? = some (.tok sz xs.length ex)) :
  appendAV sz b σ (.lit xs false (some t)) (.lit ys f tk) = some (.lit (xs ++ ys) false (some t), σ.set t (.tok sz (xs.length + ys.length) true)) := by
 obtain ⟨h1, h2, h3, h4⟩ := h
 simp [appendAV, view, sized, h0, h1, h2, h3, h4, ht]
def snapM (σ : St) (m d : Nat) (v : AV) : Option AV := (snap σ m d v).map clr
def snapMs (σ : St) (m d : Nat) (vs : List AV) : Option (List AV) := (snaps σ m d vs).map clrs
theorem S_int (σ : St) (m d : Nat) (k : IntKind) (n : Int) : snapM σ m d (.int k n) = some (.int k n) := by simp [snapM, snap, clr]
theorem S_bool (σ : St) (m d : Nat) (b : Bool) : snapM σ m d (.bool b) = some (.bool b) := by simp [snapM, snap, clr]
theorem S_str (σ : St) (m d : Nat) (b : ByteArray) : snapM σ m d (.str b) = some (.str b) := by simp [snapM, snap, clr]
theorem S_nilPtr (σ : St) (m d : Nat) : snapM σ m d .nilPtr = some .nilPtr := by simp [snapM, snap, clr]
theorem S_nilFunc (σ : St) (m d : Nat) : snapM σ m d .nilFunc = some .nilFunc := by simp [snapM, snap, clr]
theorem S_ptr (σ : St) (m d id off : Nat) : snapM σ m d (.ptr id off) = if id < m then some (.ptr id off) else none := by
 simp only [snapM, snap]; split <;> simp [clr]
theorem S_map (σ : St) (m d id : Nat) : snapM σ m d (.map id) = if id < m then some (.map id) else none := by
 simp only [snapM, snap]; split <;> simp [clr]
theorem S_nil (σ : St) (m d : Nat) : snapMs σ m d [] = some [] := by simp [snapMs, snaps, clrs]
theorem S_cons (σ : St) (m d : Nat) (v : AV) (vs : List AV) : snapMs σ m d (v :: vs) = (snapM σ m d v).bind fun a => (snapMs σ m d vs).map (a :: ·) := by
 simp only [snapMs, snapM, snaps]; cases snap σ m d v <;> cases snaps σ m d vs <;> simp [clrs]
theorem S_tuple (σ : St) (m d : Nat) (vs : List AV) : snapM σ m d (.tuple vs) = (snapMs σ m d vs).map .tuple := by
 simp only [snapMs, snapM, snap]; cases snaps σ m d vs <;> simp [clr]
theorem S_agg (σ : St) (m d : Nat) (vs : List AV) : snapM σ m d (.agg vs) = (snapMs σ m d vs).map .agg := by
 simp only [snapMs, snapM, snap]; cases snaps σ m d vs <;> simp [clr]
theorem S_lit0 (σ : St) (m d : Nat) (vs : List AV) (f : Bool) : snapM σ m d (.lit vs f none) = (snapMs σ m d vs).map fun ys => .lit ys false none := by
 simp only [snapMs, snapM, snap]; cases snaps σ m d vs <;> simp [clr]
theorem S_lit1 (σ : St) (m d t : Nat) (vs : List AV) (f : Bool) : snapM σ m d (.lit vs f (some t)) = (snapMs σ m d vs).map fun ys => if t < m then .lit ys f (some t) else .lit ys false none := by
 simp only [snapMs, snapM, snap]; cases snaps σ m d vs <;> by_cases h : t < m <;> simp [clr, h, Option.filter]
theorem S_func (σ : St) (m d : Nat) (f : FuncId) (a b : List AV) : snapM σ m d (.func f a b) = (snapMs σ m d a).bind fun x => (snapMs σ m d b).map fun y => .func f x y := by
 simp only [snapMs, snapM, snap]; cases snaps σ m d a <;> cases snaps σ m d b <;> simp [clr]
def Data (v : AV) : Prop := okV 0 v ∧ clr v = v
def Datas (vs : List AV) : Prop := okVs 0 vs ∧ clrs vs = vs
mutual
theorem snap_ok0 (σ : St) (m d : Nat) : ∀ (v : AV), okV 0 v → snap σ m d v = some v
 | .func f first cap, h => by simp only [okV] at h; simp only [snap, snaps_ok0 σ m d first h.1, snaps_ok0 σ m d cap h.2]
 | .yield _, h | .ptr _ _, h | .ref _ _ _ _, h | .map _, h => by simp [okV] at h
 | .lptr xs i o tk, h => by
  simp only [okV] at h
  cases tk with
  | none => simp [snap, snaps_ok0 σ m d xs h.2]
  | some t => exact absurd (h.1 t rfl) (by omega)
 | .lit xs f tk, h => by
  simp only [okV] at h
  cases tk with
  | none => simp [snap, snaps_ok0 σ m d xs h.2]
  | some t => exact absurd (h.1 t rfl) (by omega)
 | .agg cs, h => by simp only [okV] at h; simp [snap, snaps_ok0 σ m d cs h]
 | .tuple cs, h => by simp only [okV] at h; simp [snap, snaps_ok0 σ m d cs h]
 | .undef, _ | .int _ _, _ | .bool _, _ | .str _, _ | .nilFunc, _ | .nilPtr, _ | .nilMap, _ => by simp [snap]
theorem snaps_ok0 (σ : St) (m d : Nat) : ∀ (vs : List AV), okVs 0 vs → snaps σ m d vs = some vs
 | [], _ => by simp [snaps]
 | v :: vs, h => by simp only [okVs] at h; simp [snaps, snap_ok0 σ m d v h.1, snaps_ok0 σ m d vs h.2]
end
theorem S_data {v : AV} (h : Data v) (σ : St) (m d : Nat) : snapM σ m d v = some v := by simp [snapM, snap_ok0 σ m d v h.1, h.2]
theorem S_datas {vs : List AV} (h : Datas vs) (σ : St) (m d : Nat) : snapMs σ m d vs = some vs := by simp [snapMs, snaps_ok0 σ m d vs h.1, h.2]
theorem data_int (k : IntKind) (n : Int) : Data (.int k n) := ⟨trivial, rfl⟩
theorem data_bool (b : Bool) : Data (.bool b) := ⟨trivial, rfl⟩
theorem data_str (b : ByteArray) : Data (.str b) := ⟨trivial, rfl⟩
theorem datas_nil : Datas [] := ⟨trivial, rfl⟩
theorem datas_cons {v : AV} {vs : List AV} (h : Data v) (hs : Datas vs) : Datas (v :: vs) := ⟨⟨h.1, hs.1⟩, by simp [clrs, h.2, hs.2]⟩
theorem data_agg {vs : List AV} (h : Datas vs) : Data (.agg vs) := ⟨h.1, by simp [clr, h.2]⟩
theorem data_tuple {vs : List AV} (h : Datas vs) : Data (.tuple vs) := ⟨h.1, by simp [clr, h.2]⟩
theorem data_lit {vs : List AV} (h : Datas vs) : Data (.lit vs false none) := ⟨⟨(fun t e => by cases e), h.1⟩, by simp [clr, h.2]⟩
theorem datas_map {α : Type} {enc : α → AV} (h : ∀ x, Data (enc x)) (l : List α) : Datas (l.map enc) := by
 induction l with
 | nil => exact datas_nil
 | cons x l ih => exact datas_cons (h x) ih
theorem data_list {α : Type} {enc : α → AV} (h : ∀ x, Data (enc x)) (l : List α) : Data (.lit (l.map enc) false none) := data_lit (datas_map h l)
def RetR (o : Option AV) (σ : St) (v : AV) : Prop := ∃ v0, o = some v0 ∧ snapM σ 0 20 v0 = some v
@[congr] theorem RetR_congr {o o' : Option AV} {σ σ' : St} {v : AV} (h : o = o') (h2 : σ = σ') : RetR o σ v = RetR o' σ' v := by rw [h, h2]
theorem R_some (v0 : AV) (σ : St) (v : AV) : RetR (some v0) σ v = (snapM σ 0 20 v0 = some v) := by simp [RetR]
def RetK (rs : List ARes) (v : AV) : KJ := fun j e σ => (j = none ∨ j = some .ret) ∧ RetR (resOf rs e σ) σ v
theorem R_none (rs : List ARes) (v : AV) (e : Env) (σ : St) : RetK rs v none e σ = RetR (resOf rs e σ) σ v := by simp [RetK]
theorem R_ret (rs : List ARes) (v : AV) (e : Env) (σ : St) : RetK rs v (some .ret) e σ = RetR (resOf rs e σ) σ v := by simp [RetK]
theorem pure_fn {f : FuncId} {args : List AV} {v : AV} {af : AFunc} (hf : T f = some af) (hn : args.length ≤ af.ntmps) (hk : Datas args) (h : wp T af.body (argsEnv 0 args) [] (RetK af.results v)) : Pure T f args v := by
 intro σ
 refine .frame hk.1 (.inl rfl) (R := fun o => o.v = v ∧ o.σ = []) (.call hf hn (run_wp h fun o ho => ho) fun o ho => ?_) fun o ho => ⟨ho.2, ho.1, rfl⟩
 obtain ⟨h1, v0, h2, h3⟩ := ho
 refine ⟨h1, v0, h2, ?_⟩
 unfold snapM at h3
 cases hs : snap o.σ 0 20 v0 with
 | none => rw [hs] at h3; cases h3
 | some v1 =>
  rw [hs] at h3
  simp at h3
  exact .inr ⟨20, v1, v, hs, .inr h3.symm, fun i hi => absurd hi (by simp), by simp, rfl, by simp⟩
theorem call_fn {f : FuncId} {args args0 : List AV} {v : AV} (h : Pure T f args0 v) (ha : clrs args = args0) (hk : okVs 0 args) (σ : St) : Run T (.call f args σ) fun o => o.v = v ∧ o.σ = σ :=
 .frame hk (.inr ha.symm) (h []) fun o ho => ⟨ho.2, ho.1, rfl⟩
theorem callK_fn {f : FuncId} {first cap args args0 : List AV} {v : AV} {σ : St} {K : AV → St → Prop} (h : Pure T f args0 v) (ha : clrs (first ++ args ++ cap) = args0) (hk : okVs 0 (first ++ args ++ cap)) (k : K v σ) : cK (K := ⟨K⟩) T (.func f first cap) args σ :=
 .callf (.mono (call_fn h ha hk σ) fun o ho => by rw [ho.1, ho.2]; exact k)
theorem callD_fn {f : FuncId} {first cap args args0 : List AV} {v : AV} {σ : St} {K : AV → St → Prop} (h : Pure T f args0 v) (ha : clrs (first ++ args ++ cap) = args0) (hk : okVs 0 (first ++ args ++ cap)) (k : K v σ) : cD (K := ⟨K⟩) T (.func f first cap) args σ :=
 ⟨v, σ, .callf (call_fn h ha hk σ), k⟩
theorem callK_d {f : FuncId} {args args0 : List AV} {v : AV} {σ : St} {K : AV → St → Prop} (h : Pure T f args0 v) (ha : args = args0) (hk : Datas args0) (k : K v σ) : cK (K := ⟨K⟩) T (.func f [] []) args σ := by
 subst ha; exact callK_fn h (by simpa using hk.2) (by simpa using hk.1) k
theorem callD_d {f : FuncId} {args args0 : List AV} {v : AV} {σ : St} {K : AV → St → Prop} (h : Pure T f args0 v) (ha : args = args0) (hk : Datas args0) (k : K v σ) : cD (K := ⟨K⟩) T (.func f [] []) args σ := by
 subst ha; exact callD_fn h (by simpa using hk.2) (by simpa using hk.1) k
theorem call_fnS {f : FuncId} {args args0 : List AV} {v : AV} {σ : St} (h : Pure T f args0 v) (ha : snapMs σ 0 20 args = some args0) (hv : Scal v) : Run T (.call f args σ) fun o => o.v = v ∧ o.σ = σ := by
 unfold snapMs at ha
 cases hs : snaps σ 0 20 args with
 | none => rw [hs] at ha; cases ha
 | some as1 =>
  rw [hs] at ha
  simp at ha
  exact .frameS hs (.inr ha.symm) (h []) fun o ho => ⟨ho.2, by rw [ho.1]; exact hv, ho.1, rfl⟩
theorem callK_s {f : FuncId} {first cap args args0 : List AV} {v : AV} {σ : St} {K : AV → St → Prop} (h : Pure T f args0 v) (ha : snapMs σ 0 20 (first ++ args ++ cap) = some args0) (hv : Scal v) (k : K v σ) : cK (K := ⟨K⟩) T (.func f first cap) args σ :=
 .callf (.mono (call_fnS h ha hv) fun o ho => by rw [ho.1, ho.2]; exact k)
theorem callD_s {f : FuncId} {first cap args args0 : List AV} {v : AV} {σ : St} {K : AV → St → Prop} (h : Pure T f args0 v) (ha : snapMs σ 0 20 (first ++ args ++ cap) = some args0) (hv : Scal v) (k : K v σ) : cD (K := ⟨K⟩) T (.func f first cap) args σ :=
 ⟨v, σ, .callf (call_fnS h ha hv), k⟩
def InK (rs : List ARes) (K : AV → St → Prop) : KJ := fun j e σ => (j = none ∨ j = some .ret) ∧ ∃ v, resOf rs e σ = some v ∧ K v σ
def InR (o : Option AV) (σ : St) (K : AV → St → Prop) : Prop := ∃ v, o = some v ∧ K v σ
@[congr] theorem InR_congr {o o' : Option AV} {σ σ' : St} {K : AV → St → Prop} (h : o = o') (h2 : σ = σ') : InR o σ K = InR o' σ' K := by rw [h, h2]
theorem I_some (v : AV) (σ : St) (K : AV → St → Prop) : InR (some v) σ K = K v σ := by simp [InR]
theorem I_none (rs : List ARes) (K : AV → St → Prop) (e : Env) (σ : St) : InK rs K none e σ = InR (resOf rs e σ) σ K := by simp [InK, InR]
theorem I_ret (rs : List ARes) (K : AV → St → Prop) (e : Env) (σ : St) : InK rs K (some .ret) e σ = InR (resOf rs e σ) σ K := by simp [InK, InR]
def EqE (σ : St) (m : Nat) (e : Env) : Env → Prop
 | [] => True
 | (t, v) :: e' => snapM σ m 20 (Env.get e t) = some v ∧ EqE σ m e e'
theorem T_e0 (σ : St) (m : Nat) (e : Env) : EqE σ m e [] = True := by simp only [EqE]
theorem T_e1 (σ : St) (m : Nat) (e : Env) (t : Nat) (v : AV) (e' : Env) : EqE σ m e ((t, v) :: e') = (snapM σ m 20 (Env.get e t) = some v ∧ EqE σ m e e') := by simp only [EqE]
theorem thinE_of {σ : St} {m : Nat} {e : Env} : ∀ {e' : Env}, EqE σ m e e' → ThinE σ m e e'
 | [], _ => trivial
 | (t, v) :: e', h => by
  refine ⟨.inr ?_, thinE_of h.2⟩
  have h1 := h.1
  unfold snapM at h1
  cases hs : snap σ m 20 (Env.get e t) with
  | none => rw [hs] at h1; cases h1
  | some v1 => rw [hs] at h1; simp at h1; exact ⟨20, v1, hs, .inr h1.symm⟩
def EqS (m : Nat) : St → St → St → Prop
 | _, _, [] => True
 | s :: ss, b :: bs, c :: cs => (c = b ∧ (b = s ∨ okBlk m b)) ∧ EqS m ss bs cs
 | [], b :: bs, c :: cs => (c = b ∧ okBlk m b) ∧ EqS m [] bs cs
 | _, [], _ :: _ => False
theorem T_s0 (m : Nat) (a b : St) : EqS m a b [] = True := by cases a <;> cases b <;> simp only [EqS]
theorem T_s1 (m : Nat) (s b c : ABlk) (ss bs cs : St) : EqS m (s :: ss) (b :: bs) (c :: cs) = ((c = b ∧ (b = s ∨ okBlk m b)) ∧ EqS m ss bs cs) := by simp only [EqS]
theorem T_s2 (m : Nat) (b c : ABlk) (bs cs : St) : EqS m [] (b :: bs) (c :: cs) = ((c = b ∧ okBlk m b) ∧ EqS m [] bs cs) := by simp only [EqS]
theorem eqS_spec {m : Nat} : ∀ {σ σ' σ'' : St}, EqS m σ σ' σ'' → ∀ i c, σ''[i]? = some c → σ'[i]? = some c ∧ ((i < σ.length ∧ σ'[i]? = σ[i]?) ∨ okBlk m c)
 | _, _, [], _, i, c, h => by simp at h
 | s :: ss, b :: bs, x :: cs, h, i, c, hc => by
  obtain ⟨⟨h1, h2⟩, h3⟩ := h
  cases i with
  | zero =>
   simp at hc
   subst hc
   subst h1
   refine ⟨rfl, ?_⟩
   rcases h2 with h2 | h2
   ·left; simp [h2]
   ·right; exact h2
  | succ i =>
   obtain ⟨q1, q2⟩ := eqS_spec h3 i c (by simpa using hc)
   refine ⟨by simpa using q1, ?_⟩
   rcases q2 with ⟨q2, q3⟩ | q2
   ·left; exact ⟨by simp; omega, by simpa using q3⟩
   ·right; exact q2
 | [], b :: bs, x :: cs, h, i, c, hc => by
  obtain ⟨⟨h1, h2⟩, h3⟩ := h
  cases i with
  | zero =>
   simp at hc
   subst hc
   subst h1
   exact ⟨rfl, .inr h2⟩
  | succ i =>
   obtain ⟨q1, q2⟩ := eqS_spec h3 i c (by simpa using hc)
   refine ⟨by simpa using q1, ?_⟩
   rcases q2 with ⟨q2, q3⟩ | q2
   ·simp at q2
   ·right; exact q2
def TrimX (σ : St) (e' : Env) (σ' : St) (e'' : Env) (σ'' : St) : Prop := σ.length ≤ σ''.length ∧ σ''.length ≤ σ'.length ∧ EqE σ' σ''.length e' e'' ∧ EqS σ''.length σ σ' σ''
@[congr] theorem TrimX_congr {σ σ1 : St} {e' e1 : Env} {σ' σ1' : St} {e'' : Env} {σ'' : St} (h1 : σ = σ1) (h2 : e' = e1) (h3 : σ' = σ1') : TrimX σ e' σ' e'' σ'' = TrimX σ1 e1 σ1' e'' σ'' := by rw [h1, h2, h3]
theorem trims_of {σ : St} {e' : Env} {σ' : St} {e'' : Env} {σ'' : St} (h : TrimX σ e' σ' e'' σ'') : Trims2 σ e' σ' e'' σ'' := by
 obtain ⟨h1, h2, h3, h4⟩ := h
 refine ⟨h1, h2, thinE_of h3, fun i hi => ?_⟩
 obtain ⟨c, hc⟩ : ∃ c, σ''[i]? = some c := ⟨_, List.getElem?_eq_getElem hi⟩
 obtain ⟨q1, q2⟩ := eqS_spec h4 i c hc
 refine ⟨c, hc, ?_⟩
 rcases q2 with ⟨q2, q3⟩ | q2
 ·left; exact ⟨q2, .inl q3, q1⟩
 ·right; left; exact ⟨q1, q2⟩
def BackK {S : Type} (P : S → Prop) (μ : S → Nat) (IE : S → Env) (IS : S → St) (s : S) (K : KJ) : KJ := fun j e σ =>
 match j with
 | none => ∃ s', P s' ∧ μ s' < μ s ∧ TrimX (IS s) e σ (IE s') (IS s')
 | some j => K (some j) e σ
theorem T_back {S : Type} (P : S → Prop) (μ : S → Nat) (IE : S → Env) (IS : S → St) (s : S) (K : KJ) (e : Env) (σ : St) : BackK P μ IE IS s K none e σ = ∃ s', P s' ∧ μ s' < μ s ∧ TrimX (IS s) e σ (IE s') (IS s') := by simp only [BackK]
theorem T_out {S : Type} (P : S → Prop) (μ : S → Nat) (IE : S → Env) (IS : S → St) (s : S) (K : KJ) (j : AJump) (e : Env) (σ : St) : BackK P μ IE IS s K (some j) e σ = K (some j) e σ := by simp only [BackK]
def EqW (e : Env) : Env → Prop
 | [] => True
 | (t, v) :: e' => (Env.get e t = v ∨ clr (Env.get e t) = v) ∧ EqW e e'
theorem T_w0 (e : Env) : EqW e [] = True := by simp only [EqW]
theorem T_w1 (e : Env) (t : Nat) (v : AV) (e' : Env) : EqW e ((t, v) :: e') = ((Env.get e t = v ∨ clr (Env.get e t) = v) ∧ EqW e e') := by simp only [EqW]
theorem eqW_spec {e : Env} : ∀ {e' : Env}, EqW e e' → ∀ t, Env.get e' t = .undef ∨ Env.get e' t = Env.get e t ∨ Env.get e' t = clr (Env.get e t)
 | [], _, t => .inl rfl
 | (k, v) :: e', h, t => by
  by_cases hk : k = t
  ·subst hk
   right
   rcases h.1 with h | h
   ·left; simp [Env.get, h]
   ·right; simp [Env.get, h]
  ·simpa [Env.get, hk] using eqW_spec h.2 t
theorem loopX {S : Type} (P : S → Prop) (μ : S → Nat) (IE : S → Env) (IS : S → St) {b : ACode} {K : KJ} (step : ∀ s, P s → wp T b (IE s) (IS s) (BackK P μ IE IS s K)) : ∀ n s, μ s = n → P s → RunK T (.loop b) (IE s) (IS s) K := by
 intro n
 induction n using Nat.strongRecOn with
 | _ n ih =>
  intro s hs hp
  have h1 : Run T (.code b (IE s) (IS s)) fun o => (o.j = none ∧ ∃ s', P s' ∧ μ s' < μ s ∧ o.env = IE s' ∧ o.σ = IS s') ∨ (o.j ≠ none ∧ K o.j o.env o.σ) := by
   refine .trim2 (run_wp (step s hp) fun o ho => ho) fun o ho => ?_
   cases hj : o.j with
   | none =>
    rw [hj, T_back] at ho
    obtain ⟨s', h1, h2, h3⟩ := ho
    exact .inr ⟨_, _, trims_of h3, .inl ⟨rfl, s', h1, h2, rfl, rfl⟩⟩
   | some j =>
    rw [hj, T_out] at ho
    exact .inl (.inr ⟨by simp, ho⟩)
  refine .loop h1 (fun o ho hj => ?_) fun o ho hj => ?_
  ·rcases ho with ⟨_, s', q1, q2, q3, q4⟩ | ⟨q1, _⟩
   ·rw [q3, q4]; exact ih _ (by omega) s' rfl q1
   ·exact absurd hj q1
  ·rcases ho with ⟨q, _⟩ | ⟨_, q⟩
   ·exact absurd q hj
   ·exact q
theorem loopE {S : Type} (s0 : S) (P : S → Prop) (μ : S → Nat) (IE : S → Env) (IS : S → St) {b : ACode} {e : Env} {σ : St} {K : KJ} (hP : P s0) (hσ : σ = IS s0) (hE : EqW e (IE s0))
  (step : ∀ s, P s → wp T b (IE s) (IS s) (BackK P μ IE IS s K)) : rK (K := ⟨K⟩) T (.loop b) e σ := by
 subst hσ
 exact .weak (eqW_spec hE) (loopX P μ IE IS step _ s0 rfl hP)
theorem ghostK {c : ACode} {e : Env} {σ : St} {K : KJ} (t sz : Nat) (xs : List AV) (ht : Env.get e t = .lit xs true none) (h : rK (K := ⟨K⟩) T c ((t, .lit xs false (some σ.length)) :: e) (σ ++ [.tok sz xs.length false])) : rK (K := ⟨K⟩) T c e σ :=
 .ghost t sz xs ht h
end Go.Am
namespace Go.Am
variable {T : FuncId → Option AFunc}
def resA (e : Env) (σ : St) : ARes → Option AV
 | .tmp t => some (Env.get e t)
 | .cell t sh => loadAV sh σ (Env.get e t)
def resAs (e : Env) (σ : St) : List ARes → Option (List AV)
 | [] => some []
 | r :: rs => (resA e σ r).bind fun v => (resAs e σ rs).map (v :: ·)
theorem resAV_eq (e : Env) (σ : St) : ∀ rs, resAV e σ rs = resAs e σ rs
 | [] => rfl
 | .tmp t :: rs => by simp [resAV, resAs, resA, resAV_eq e σ rs]
 | .cell t sh :: rs => by
  simp only [resAV, resAs, resA, resAV_eq e σ rs]
  cases loadAV sh σ (Env.get e t) <;> cases resAs e σ rs <;> simp
theorem X_res0 (e : Env) (σ : St) : resOf [] e σ = some (.tuple []) := by simp [resOf, resAV]
theorem X_res1 (r : ARes) (e : Env) (σ : St) : resOf [r] e σ = resA e σ r := by
 simp only [resOf, resAV_eq, resAs]; cases resA e σ r <;> simp
theorem X_res2 (r s : ARes) (rs : List ARes) (e : Env) (σ : St) : resOf (r :: s :: rs) e σ = (resAs e σ (r :: s :: rs)).map .tuple := by
 simp only [resOf, resAV_eq, resAs]; cases resA e σ r <;> cases resA e σ s <;> cases resAs e σ rs <;> simp
theorem X_ra0 (e : Env) (σ : St) : resAs e σ [] = some [] := by simp only [resAs]
theorem X_ra1 (r : ARes) (rs : List ARes) (e : Env) (σ : St) : resAs e σ (r :: rs) = (resA e σ r).bind fun v => (resAs e σ rs).map (v :: ·) := by simp only [resAs]
theorem X_rt (t : Nat) (e : Env) (σ : St) : resA e σ (.tmp t) = some (Env.get e t) := by simp only [resA]
theorem X_rc (t : Nat) (sh : Option Nat) (e : Env) (σ : St) : resA e σ (.cell t sh) = loadAV sh σ (Env.get e t) := by simp only [resA]
theorem X_bn (id : Nat) (K : KJ) (e : Env) (σ : St) : blockK id K none e σ = K none e σ := by simp only [blockK]
theorem X_br (id : Nat) (K : KJ) (e : Env) (σ : St) : blockK id K (some .ret) e σ = K (some .ret) e σ := by simp only [blockK]
theorem X_be1 (id : Nat) (K : KJ) (e : Env) (σ : St) : blockK id K (some (.exit id)) e σ = K none e σ := by simp [blockK]
theorem X_be2 (id i : Nat) (K : KJ) (e : Env) (σ : St) (h : i ≠ id) : blockK id K (some (.exit i)) e σ = K (some (.exit i)) e σ := by simp [blockK, h]
theorem V_idxN {α : Type} {sz : Nat} {enc : α → AV} {l : List α} {k : Nat} {t : Option Nat} (h : k < l.length) (hs : ∀ x, (enc x).cells.length = sz) : vIdx sz (l.map enc) (k : Int) t = some (.lptr (l.map enc) k 0 t) := by
 simp [vIdx, List.getElem?_map, h, hs]
theorem V_getN {α : Type} {enc : α → AV} {l : List α} {k : Nat} (h : k < l.length) : (l.map enc)[k]? = some (enc l[k]) := by simp [List.getElem?_map, h]
theorem rd0 {ds : List ADOper} {e : Env} {σ : St} {K : KJ} (hz : allocsOf ds = []) (h : wpD T ds e σ σ.length [σ] [] fun e σ => K none e σ) : rK (K := ⟨K⟩) T (.dreg ds) e σ := by
 refine rK_dreg ?_
 rw [hz, List.append_nil]
 exact h
theorem rK_dreg1 {ds : List ADOper} {e : Env} {σ : St} {K : KJ} (zs : St) (hz : allocsOf ds = zs) (h : wpD T ds e (σ ++ zs) σ.length [σ ++ zs] [] fun e σ => K none e σ) : rK (K := ⟨K⟩) T (.dreg ds) e σ := by
 subst hz
 exact rK_dreg h
theorem wrapN {k n : Nat} (h : k < n) (hn : n < 9223372036854775808) : IntKind.i64.wrap ((k : Int) + 1) = ((k + 1 : Nat) : Int) := by rw [wrap64 ⟨by omega, by omega⟩]; omega
def ints (l : List Int) : AV := .lit (l.map (.int .i64)) false none
theorem data_ints (l : List Int) : Data (ints l) := data_list (data_int .i64) l
theorem S_mapI (σ : St) (m d : Nat) (k : IntKind) (l : List Int) : snapMs σ m d (l.map (.int k)) = some (l.map (.int k)) := S_datas (datas_map (data_int k) l) σ m d
theorem S_mapS (σ : St) (m d : Nat) (l : List ByteArray) : snapMs σ m d (l.map .str) = some (l.map .str) := S_datas (datas_map data_str l) σ m d
theorem S_app (σ : St) (m d : Nat) : ∀ xs ys : List AV, snapMs σ m d (xs ++ ys) = (snapMs σ m d xs).bind fun a => (snapMs σ m d ys).map (a ++ ·)
 | [], ys => by rw [S_nil]; simp
 | x :: xs, ys => by
  rw [List.cons_append, S_cons, S_cons, S_app σ m d xs ys]
  cases snapM σ m d x <;> simp
  cases snapMs σ m d xs <;> simp
  cases snapMs σ m d ys <;> simp
theorem S_ints (σ : St) (m d : Nat) (l : List Int) : snapM σ m d (ints l) = some (ints l) := S_data (data_ints l) σ m d
theorem S_mapL (σ : St) (m d : Nat) (l : List (List Int)) : snapMs σ m d (l.map ints) = some (l.map ints) := S_datas (datas_map data_ints l) σ m d
theorem V_min2 (k : IntKind) (a b : Int) : minAV [.int k a, .int k b] = some (.int k (min a b)) := by
 simp only [minAV, minFrom, if_true, Option.some.injEq, AV.int.injEq, true_and]; split <;> omega
theorem V_max2 (k : IntKind) (a b : Int) : maxAV [.int k a, .int k b] = some (.int k (max a b)) := by
 simp only [maxAV, maxFrom, if_true, Option.some.injEq, AV.int.injEq, true_and]; split <;> omega
def byteAt (s : ByteArray) (k : Nat) : Int := (((s[k]?).getD 0).toNat : Int)
theorem byteAt_lt (s : ByteArray) (k : Nat) : 0 ≤ byteAt s k ∧ byteAt s k < 256 := by
 have := ((s[k]?).getD 0).toNat_lt
 unfold byteAt
 omega
theorem V_sidx {s : ByteArray} {k : Nat} (h : k < s.size) : vSindex (.str s) (.int .i64 (k : Int)) = some (.int .u8 (byteAt s k)) := by
 simp [vSindex, intOf, byteAt, h]
structure Span where
 lo : Int
 hi : Int
 deriving DecidableEq
def encSpan (s : Span) : AV := .agg [.int .i64 s.lo, .int .i64 s.hi]
theorem encSpan_eq (s : Span) : encSpan s = .agg [.int .i64 s.lo, .int .i64 s.hi] := by simp only [encSpan]
theorem data_span (s : Span) : Data (encSpan s) := data_agg (datas_cons (data_int _ _) (datas_cons (data_int _ _) datas_nil))
def strs (l : List ByteArray) : AV := .lit (l.map .str) false none
theorem data_strs (l : List ByteArray) : Data (strs l) := data_list data_str l
end Go.Am
namespace Go.Am
variable {T : FuncId → Option AFunc}
def Same (T : FuncId → Option AFunc) (f : AV) (args : List AV) (σ : St) (v : AV) : Prop := Run T (.callv f args σ) fun o => o.v = v ∧ o.σ = σ
def BaseR (o : Option AV) (σ0 σ : St) (v : AV) : Prop := ∃ v0 τ, o = some v0 ∧ σ = σ0 ++ τ ∧ snapM σ σ0.length 20 v0 = some v
@[congr] theorem BaseR_congr {o o' : Option AV} {σ0 σ σ' : St} {v : AV} (h : o = o') (h2 : σ = σ') : BaseR o σ0 σ v = BaseR o' σ0 σ' v := by rw [h, h2]
def BaseK (rs : List ARes) (σ0 : St) (v : AV) : KJ := fun j e σ => (j = none ∨ j = some .ret) ∧ BaseR (resOf rs e σ) σ0 σ v
theorem Y_none (rs : List ARes) (σ0 : St) (v : AV) (e : Env) (σ : St) : BaseK rs σ0 v none e σ = BaseR (resOf rs e σ) σ0 σ v := by simp [BaseK]
theorem Y_ret (rs : List ARes) (σ0 : St) (v : AV) (e : Env) (σ : St) : BaseK rs σ0 v (some .ret) e σ = BaseR (resOf rs e σ) σ0 σ v := by simp [BaseK]
theorem baseR {v0 : AV} {σ0 σ : St} {v : AV} (τ : St) (h1 : σ = σ0 ++ τ) (h2 : snapM σ σ0.length 20 v0 = some v) : BaseR (some v0) σ0 σ v := ⟨v0, τ, rfl, h1, h2⟩
theorem same_fn {f : FuncId} {first cap args : List AV} {σ : St} {af : AFunc} {v : AV} (hf : T f = some af) (hn : (first ++ args ++ cap).length ≤ af.ntmps) (h : wp T af.body (argsEnv 0 (first ++ args ++ cap)) σ (BaseK af.results σ v)) : Same T (.func f first cap) args σ v := by
 refine .callf (.call hf hn (run_wp h fun o ho => ho) fun o ho => ?_)
 obtain ⟨h1, v0, τ, h2, h3, h4⟩ := ho
 refine ⟨h1, v0, h2, ?_⟩
 unfold snapM at h4
 cases hs : snap o.σ σ.length 20 v0 with
 | none => rw [hs] at h4; cases h4
 | some v1 =>
  rw [hs] at h4
  simp at h4
  exact .inr ⟨20, v1, v, hs, .inr h4.symm, fun i hi => .inl (by rw [h3]; exact List.getElem?_append_left hi), by rw [h3]; simp, rfl, by rw [h3]; simp⟩
theorem callK_same {f : AV} {args : List AV} {v : AV} {σ : St} {K : AV → St → Prop} (h : Same T f args σ v) (k : K v σ) : cK (K := ⟨K⟩) T f args σ := .mono h fun o ho => by rw [ho.1, ho.2]; exact k
theorem callD_same {f : AV} {args : List AV} {v : AV} {σ : St} {K : AV → St → Prop} (h : Same T f args σ v) (k : K v σ) : cD (K := ⟨K⟩) T f args σ := ⟨v, σ, h, k⟩
theorem same_pure {f : FuncId} {args args0 : List AV} {v : AV} {σ : St} (h : Pure T f args0 v) (ha : clrs args = args0) (hk : okVs 0 args) : Same T (.func f [] []) args σ v := .callf (by simpa using call_fn h ha hk σ)
def Keeps (σ : St) (v : AV) : Prop := ∀ τ, snapM (σ ++ τ) σ.length 20 v = some v
theorem Keeps.nil {σ : St} {v : AV} (h : Keeps σ v) : snapM σ σ.length 20 v = some v := by simpa using h []
theorem T_sr (m : Nat) : ∀ (σ τ : St), EqS m σ (σ ++ τ) σ = True
 | [], τ => by cases τ <;> simp [EqS]
 | b :: σ, τ => by simp [EqS, T_sr m σ τ]
theorem T_sr0 (m : Nat) (σ : St) : EqS m σ σ σ = True := by simpa using T_sr m σ []
theorem st_app (σ τ υ : St) : σ ++ τ ++ υ = σ ++ (τ ++ υ) := List.append_assoc _ _ _
theorem V_snextT {s : ByteArray} {k : Nat} (h : k < s.size) : vSnext [.siter s k] (.ptr 0 0) = some (.tuple [.bool true, .int .i64 k, .int .i32 (Utf8.decode s k).1], [.siter s (k + (Utf8.decode s k).2)]) := by
 simp [vSnext, h]
theorem V_snextF {s : ByteArray} {k : Nat} (h : ¬ k < s.size) : vSnext [.siter s k] (.ptr 0 0) = some (.tuple [.bool false], [.siter s k]) := by
 simp [vSnext, h]
theorem byteAt_ascii {s : ByteArray} {k : Nat} (h : k < s.size) (hb : byteAt s k < 128) : Utf8.decode s k = ((byteAt s k).toNat, 1) := by
 have e : byteAt s k = ((s[k]'h).toNat : Int) := by simp [byteAt, h]
 rw [decode_ascii s k h (by omega), e]
 simp
theorem byteAt_high {s : ByteArray} {k : Nat} (h : k < s.size) (hb : 128 ≤ byteAt s k) : 128 ≤ (Utf8.decode s k).1 := by
 have e : byteAt s k = ((s[k]'h).toNat : Int) := by simp [byteAt, h]
 exact (decode_high s k h (by omega)).1
theorem V_take {α : Type} {sz : Nat} {enc : α → AV} {l : List α} {i : Nat} {σ : St} {t : Option Nat} (hi : i ≤ l.length) (hs : ∀ x, (enc x).cells.length = sz) : vSlicev sz σ (.lit (l.map enc) false t) none (some (.int .i64 (i : Int))) none = some (.lit ((l.take i).map enc) false t) := by
 have hc : cutFits sz (l.map enc) 0 (i : Int) = true := by
  unfold cutFits
  by_cases h0 : i = 0
  ·subst h0; simp
  ·cases l with
   | nil => simp at hi; omega
   | cons x l => simp [hs]
 simp only [vSlicev, lenAV, vBound, Option.map_none, intOf, sliceAV]
 rw [if_pos ⟨by omega, by omega, by simp; omega, hc⟩]
 simp [List.map_take]
theorem callK_v {f : FuncId} {args args0 : List AV} {v : AV} {σ : St} {K : AV → St → Prop} (h : Pure T f args0 v) (ha : clrs args = args0) (hk : okVs 0 args) (k : K v σ) : cK (K := ⟨K⟩) T (.func f [] []) args σ :=
 callK_fn h (by simpa using ha) (by simpa using hk) k
theorem callD_v {f : FuncId} {args args0 : List AV} {v : AV} {σ : St} {K : AV → St → Prop} (h : Pure T f args0 v) (ha : clrs args = args0) (hk : okVs 0 args) (k : K v σ) : cD (K := ⟨K⟩) T (.func f [] []) args σ :=
 callD_fn h (by simpa using ha) (by simpa using hk) k
end Go.Am
namespace Go.Am
def QV := And.intro @V_str (And.intro @st_set (And.intro @st_set0 (And.intro @st_app (And.intro @V_sidx (And.intro @V_min2 (And.intro @V_max2 (And.intro @q_put (And.intro @q_put0 (And.intro @q_get (And.intro @q_evt (And.intro @q_evc (And.intro @q_arg (And.intro @q_arg0 (And.intro @W_bindB (And.intro @W_bindG1 (And.intro @W_bindG0 (And.intro @W_bindGT (And.intro @iteP_true (And.intro @iteP_false (And.intro @E_evs0 (And.intro @E_evs1 (And.intro @E_ovs0 (And.intro @E_ovs1 (And.intro @B_some (And.intro @O_map (And.intro @O_bind (And.intro @V_nilP (And.intro @V_nilL (And.intro @V_nilF (And.intro @V_field (And.intro @V_conv (And.intro @V_neg (And.intro @V_pickT (And.intro @V_pickF (And.intro @V_eqI (And.intro @V_eqB (And.intro @V_eqS (And.intro @V_oand (And.intro @V_eqC0 (And.intro @V_eqC1 (And.intro @V_eq1 (And.intro @V_ne1 (And.intro @V_eqA (And.intro @V_neA (And.intro @V_add (And.intro @V_sub (And.intro @V_mul (And.intro @V_lss (And.intro @V_leq (And.intro @V_gtr (And.intro @V_geq (And.intro @V_len (And.intro @V_lenS (And.intro @V_lenR (And.intro @q_faddrP (And.intro @q_faddrL (And.intro @q_extT (And.intro @q_notB (And.intro @M_ptr (And.intro @M_lptr (And.intro @M_at0 (And.intro @M_atS (And.intro @M_base (And.intro @M_base0 (And.intro @M_sh1 (And.intro @M_shN (And.intro @M_store (And.intro @M_set (And.intro @C_cells (And.intro @C_int (And.intro @C_bool (And.intro @C_str (And.intro @C_lit (And.intro @C_ref (And.intro @C_ptr (And.intro @C_func (And.intro @C_map (And.intro @C_nilPtr (And.intro @C_nilFunc (And.intro @C_agg (And.intro @C_0 (And.intro @C1_int (And.intro @C1_bool (And.intro @C1_str (And.intro @C1_lit (And.intro @C1_ref (And.intro @C1_ptr (And.intro @C1_func (And.intro @C1_map (And.intro @C1_nilPtr (And.intro @C1_nilFunc (And.intro @K_int (And.intro @K_bool (And.intro @K_str (And.intro @K_lit (And.intro @K_ref (And.intro @K_ptr (And.intro @K_func (And.intro @K_map (And.intro @K_agg (And.intro @K_nilPtr (And.intro @K_nilFunc (And.intro @M_bc0 (And.intro @M_bc1 (And.intro @L_all0 (And.intro @L_all1 (And.intro @L_lit (And.intro @V_iaL (And.intro @V_iaA (And.intro @V_iaAL (And.intro @V_iaR (And.intro @X_res0 (And.intro @X_res1 (And.intro @X_res2 (And.intro @X_ra0 (And.intro @X_ra1 (And.intro @X_rt (And.intro @X_rc (And.intro @R_some (And.intro @I_some (And.intro @A_mov (And.intro @A_pick (And.intro @A_alloc (And.intro @A_box (And.intro @A_build (And.intro @A_mklit (And.intro @A_mkref (And.intro @A_load (And.intro @A_store (And.intro @A_nilCheck (And.intro @A_bin (And.intro @A_eql (And.intro @A_not (And.intro @A_neg (And.intro @A_conv (And.intro @A_mkfun (And.intro @A_mkmap (And.intro @A_mkslice (And.intro @A_slicev (And.intro @A_slicea (And.intro @A_faddr (And.intro @A_field (And.intro @A_iaddr (And.intro @A_index (And.intro @A_sindex (And.intro @A_lookup (And.intro @A_mapset (And.intro @A_ext (And.intro @A_len (And.intro @A_append (And.intro @A_apref (And.intro @A_copy (And.intro @A_min (And.intro @A_max (And.intro @A_srange (@A_snext))))))))))))))))))))))))))))))))))))))))))))))))))))))))))))))))))))))))))))))))))))))))))))))))))))))))))))))))))))))))))))))))))))))))))))))))))))))))))))
def QP := And.intro @Y_none (And.intro @Y_ret (And.intro @q_reg (And.intro @q_seq (And.intro @q_jump (And.intro @q_then (And.intro @q_thenJ (And.intro @q_skip (And.intro @q_block (And.intro @q_scope (And.intro @q_nil (And.intro @X_bn (And.intro @X_br (And.intro @X_be1 (And.intro @X_be2 (And.intro @V_idxN (And.intro @V_getN (And.intro @W_call (And.intro @W_guard (And.intro @W_cond (And.intro @W_loop (And.intro @W_range (And.intro @D_reg (And.intro @R_none (And.intro @R_ret (And.intro @I_none (And.intro @I_ret (And.intro @T_back (And.intro @T_out (And.intro @W_mov (And.intro @W_pick (And.intro @W_alloc (And.intro @W_box (And.intro @W_build (And.intro @W_mklit (And.intro @W_mkref (And.intro @W_load (And.intro @W_store (And.intro @W_nilCheck (And.intro @W_bin (And.intro @W_eql (And.intro @W_not (And.intro @W_neg (And.intro @W_conv (And.intro @W_mkfun (And.intro @W_mkmap (And.intro @W_mkslice (And.intro @W_slicev (And.intro @W_slicea (And.intro @W_faddr (And.intro @W_field (And.intro @W_iaddr (And.intro @W_index (And.intro @W_sindex (And.intro @W_lookup (And.intro @W_mapset (And.intro @W_ext (And.intro @W_len (And.intro @W_append (And.intro @W_apref (And.intro @W_copy (And.intro @W_min (And.intro @W_max (And.intro @W_srange (@W_snext))))))))))))))))))))))))))))))))))))))))))))))))))))))))))))))))
def QD := And.intro @D_nil (And.intro @D_call (And.intro @D_alloc (And.intro @D_guardC (And.intro @D_mov (And.intro @D_pick (And.intro @D_box (And.intro @D_build (And.intro @D_mklit (And.intro @D_mkref (And.intro @D_load (And.intro @D_store (And.intro @D_nilCheck (And.intro @D_bin (And.intro @D_eql (And.intro @D_not (And.intro @D_neg (And.intro @D_conv (And.intro @D_mkfun (And.intro @D_mkmap (And.intro @D_mkslice (And.intro @D_slicev (And.intro @D_slicea (And.intro @D_faddr (And.intro @D_field (And.intro @D_iaddr (And.intro @D_index (And.intro @D_sindex (And.intro @D_lookup (And.intro @D_mapset (And.intro @D_ext (And.intro @D_len (And.intro @D_append (And.intro @D_apref (And.intro @D_copy (And.intro @D_min (And.intro @D_max (And.intro @D_srange (And.intro @D_snext (And.intro @G_mov (And.intro @G_pick (And.intro @G_box (And.intro @G_build (And.intro @G_mklit (And.intro @G_mkref (And.intro @G_load (And.intro @G_store (And.intro @G_nilCheck (And.intro @G_bin (And.intro @G_eql (And.intro @G_not (And.intro @G_neg (And.intro @G_conv (And.intro @G_mkfun (And.intro @G_mkmap (And.intro @G_mkslice (And.intro @G_slicev (And.intro @G_slicea (And.intro @G_faddr (And.intro @G_field (And.intro @G_iaddr (And.intro @G_index (And.intro @G_sindex (And.intro @G_lookup (And.intro @G_mapset (And.intro @G_ext (And.intro @G_len (And.intro @G_append (And.intro @G_apref (And.intro @G_copy (And.intro @G_min (And.intro @G_max (And.intro @G_srange (@G_snext)))))))))))))))))))))))))))))))))))))))))))))))))))))))))))))))))))))))))
def QS := And.intro @S_mapL (And.intro @S_ints (And.intro @S_app (And.intro @S_mapI (And.intro @S_mapS (And.intro @S_int (And.intro @S_bool (And.intro @S_str (And.intro @S_nilPtr (And.intro @S_nilFunc (And.intro @S_ptr (And.intro @S_map (And.intro @S_nil (And.intro @S_cons (And.intro @S_tuple (And.intro @S_agg (And.intro @S_lit0 (And.intro @S_lit1 (And.intro @S_func (And.intro @O_map (@O_bind))))))))))))))))))))
def QR := And.intro @D_readsN (And.intro @D_readsC (And.intro @D_readN (@D_readC)))
def QT := And.intro @T_sr (And.intro @T_sr0 (And.intro @T_e0 (And.intro @T_e1 (And.intro @T_s0 (And.intro @T_s1 (And.intro @T_s2 (And.intro @T_w0 (And.intro @T_w1 (@q_get)))))))))
variable {T : FuncId → Option AFunc}
mutual
theorem okV_up {m : Nat} : ∀ v, okV 0 v → okV m v
 | .func _ first cap, h => ⟨okVs_up first h.1, okVs_up cap h.2⟩
 | .lptr xs _ _ tk, h => ⟨fun t e => absurd (h.1 t e) (by omega), okVs_up xs h.2⟩
 | .lit xs _ tk, h => ⟨fun t e => absurd (h.1 t e) (by omega), okVs_up xs h.2⟩
 | .agg cs, h => okVs_up cs h
 | .tuple vs, h => okVs_up vs h
 | .yield _, h | .ptr _ _, h | .ref _ _ _ _, h | .map _, h => absurd h (by simp [okV])
 | .undef, _ | .int _ _, _ | .bool _, _ | .str _, _ | .nilFunc, _ | .nilPtr, _ | .nilMap, _ => trivial
theorem okVs_up {m : Nat} : ∀ vs, okVs 0 vs → okVs m vs
 | [], _ => trivial
 | v :: vs, h => ⟨okV_up v h.1, okVs_up vs h.2⟩
end
theorem S_refK {σ : St} {m d id off len sz : Nat} (h : id < m) : snapM σ m d (.ref id off len sz) = some (.ref id off len sz) := by
 cases d <;> simp [snapM, snap, h, clr]
theorem okVs_app {m : Nat} : ∀ {xs ys : List AV}, okVs m xs → okVs m ys → okVs m (xs ++ ys)
 | [], _, _, h => h
 | x :: xs, ys, h, h2 => ⟨h.1, okVs_app h.2 h2⟩
end Go.Am
namespace Go.Am
theorem ints_def (l : List Int) : ints l = .lit (l.map (.int .i64)) false none := by simp only [ints]
theorem strs_def (l : List ByteArray) : strs l = .lit (l.map .str) false none := by simp only [strs]
def QC := And.intro @and_self (And.intro @and_true (And.intro @true_and (And.intro @true_or (And.intro @or_true (And.intro @ints_def (And.intro @strs_def (And.intro @decide_true (And.intro @decide_false (And.intro @Nat.lt_irrefl (And.intro @Nat.le_refl (And.intro @List.length_cons.{0} (And.intro @List.length_nil.{0} (And.intro @List.cons_append.{0} (And.intro @List.nil_append.{0} (And.intro @List.append_nil.{0} (And.intro @List.getElem?_cons_zero.{0} (And.intro @List.getElem?_cons_succ.{0} (And.intro @List.take_zero.{0} (And.intro @List.drop_zero.{0} (And.intro @List.take_succ_cons.{0} (And.intro @List.drop_succ_cons.{0} (And.intro @List.take_nil.{0} (And.intro @List.drop_nil.{0} (And.intro @List.set_cons_zero.{0} (And.intro @List.set_cons_succ.{0} (And.intro @List.length_map.{0, 0} (And.intro @Bool.and_true (And.intro @Bool.true_and (And.intro @Bool.and_self (And.intro @Bool.not_true (And.intro @Bool.not_false (And.intro @beq_self_eq_true.{0} (And.intro @Nat.zero_add (And.intro @implies_true.{0} (And.intro @implies_true.{1} (And.intro @forall_const.{0} (And.intro @forall_const.{1} (And.intro @ne_eq.{1} (And.intro @not_false_eq_true (@not_true_eq_false))))))))))))))))))))))))))))))))))))))))
def QA := And.intro QP QD
def QB := And.intro QR (And.intro QV (And.intro QS QC))
def QE := And.intro QT (And.intro QS (And.intro @q_get (And.intro @List.length_append.{0} (And.intro @Nat.le_add_right QC))))
class Dat (v : AV) : Prop where
 h : Data v
class Dats (vs : List AV) : Prop where
 h : Datas vs
theorem dd {vs : List AV} [k : Dats vs] : Datas vs := k.h
instance : Dats [] := ⟨datas_nil⟩
instance {v : AV} {vs : List AV} [a : Dat v] [b : Dats vs] : Dats (v :: vs) := ⟨datas_cons a.h b.h⟩
instance (k : IntKind) (n : Int) : Dat (.int k n) := ⟨data_int k n⟩
instance (b : Bool) : Dat (.bool b) := ⟨data_bool b⟩
instance (s : ByteArray) : Dat (.str s) := ⟨data_str s⟩
instance (l : List Int) : Dat (ints l) := ⟨data_ints l⟩
instance (l : List ByteArray) : Dat (strs l) := ⟨data_strs l⟩
instance (s : Span) : Dat (encSpan s) := ⟨data_span s⟩
instance {cs : List AV} [a : Dats cs] : Dat (.agg cs) := ⟨data_agg a.h⟩
instance {cs : List AV} [a : Dats cs] : Dat (.tuple cs) := ⟨data_tuple a.h⟩
instance {cs : List AV} [a : Dats cs] : Dat (.lit cs false none) := ⟨data_lit a.h⟩
instance (k : IntKind) (l : List Int) : Dats (l.map (.int k)) := ⟨datas_map (data_int k) l⟩
end Go.Am
namespace Go.Am.Room
def inR (n lo hi : Int) : Bool := decide (lo ≤ n) && decide (n ≤ hi)
theorem in_ok (n lo hi : Int) : Pure T 66 [.int .i64 n, .int .i64 lo, .int .i64 hi] (.bool (inR n lo hi)) := by
 refine pure_fn (af := a66) rfl (by simp [a66]) dd ?_
 (repeat (first | simp only [↓QA, QB, Nat.reduceLT, reduceIte, Nat.reduceEqDiff, Nat.reduceAdd, Nat.reduceLeDiff, Nat.reduceMul, Nat.reduceBEq, a66] | refine rd0 rfl ?_))
 refine iteP_intro (fun h => ?_) fun h => ?_
 all_goals
  (repeat (first | simp only [↓QA, QB, Nat.reduceLT, reduceIte, Nat.reduceEqDiff, Nat.reduceAdd, Nat.reduceLeDiff, Nat.reduceMul, Nat.reduceBEq, h] | refine rd0 rfl ?_))
  simp [inR, h]
def ends (s : Span) (lo hi : Int) : Int := if !inR s.lo lo hi || !inR s.hi lo hi then 7 else if s.hi < s.lo then 2 else 0
theorem ends_ok (s : Span) (lo hi : Int) : Pure T 67 [encSpan s, .int .i64 lo, .int .i64 hi] (.int .i64 (ends s lo hi)) := by
 refine pure_fn (af := a67) rfl (by simp [a67]) dd ?_
 (repeat (first | simp only [↓QA, QB, Nat.reduceLT, reduceIte, Nat.reduceEqDiff, Nat.reduceAdd, Nat.reduceLeDiff, Nat.reduceMul, Nat.reduceBEq, a67, encSpan_eq] | refine rd0 rfl ?_))
 refine callK_d (in_ok _ _ _) rfl dd ?_
 (repeat (first | simp only [↓QA, QB, Nat.reduceLT, reduceIte, Nat.reduceEqDiff, Nat.reduceAdd, Nat.reduceLeDiff, Nat.reduceMul, Nat.reduceBEq] | refine rd0 rfl ?_))
 cases h1 : inR s.lo lo hi
 ·(repeat (first | simp only [↓QA, QB, Nat.reduceLT, reduceIte, Nat.reduceEqDiff, Nat.reduceAdd, Nat.reduceLeDiff, Nat.reduceMul, Nat.reduceBEq] | refine rd0 rfl ?_))
  simp [ends, h1]
 ·(repeat (first | simp only [↓QA, QB, Nat.reduceLT, reduceIte, Nat.reduceEqDiff, Nat.reduceAdd, Nat.reduceLeDiff, Nat.reduceMul, Nat.reduceBEq] | refine rd0 rfl ?_))
  refine callK_d (in_ok _ _ _) rfl dd ?_
  (repeat (first | simp only [↓QA, QB, Nat.reduceLT, reduceIte, Nat.reduceEqDiff, Nat.reduceAdd, Nat.reduceLeDiff, Nat.reduceMul, Nat.reduceBEq] | refine rd0 rfl ?_))
  cases h2 : inR s.hi lo hi
  ·(repeat (first | simp only [↓QA, QB, Nat.reduceLT, reduceIte, Nat.reduceEqDiff, Nat.reduceAdd, Nat.reduceLeDiff, Nat.reduceMul, Nat.reduceBEq] | refine rd0 rfl ?_))
   simp [ends, h1, h2]
  ·(repeat (first | simp only [↓QA, QB, Nat.reduceLT, reduceIte, Nat.reduceEqDiff, Nat.reduceAdd, Nat.reduceLeDiff, Nat.reduceMul, Nat.reduceBEq] | refine rd0 rfl ?_))
   refine iteP_intro (fun h => ?_) fun h => ?_
   all_goals
    (repeat (first | simp only [↓QA, QB, Nat.reduceLT, reduceIte, Nat.reduceEqDiff, Nat.reduceAdd, Nat.reduceLeDiff, Nat.reduceMul, Nat.reduceBEq, h] | refine rd0 rfl ?_))
    simp [ends, h1, h2]
    simpa using h
def join (s : Span) (n : Int) : Span := ⟨min s.lo n, max s.hi n⟩
theorem has_ok (l : List Int) (n : Int) (hl : l.length < 9223372036854775808) : Pure T 44 [ints l, .int .i64 n] (.bool (l.contains n)) := by
 refine pure_fn (af := a44) rfl (by simp [a44]) dd ?_
 (repeat (first | simp only [↓QA, QB, Nat.reduceLT, reduceIte, Nat.reduceEqDiff, Nat.reduceAdd, Nat.reduceLeDiff, Nat.reduceMul, Nat.reduceBEq, a44] | refine rd0 rfl ?_))
 refine loopE (S := Nat) 0 (· ≤ l.length) (fun k => l.length - k) (fun k => [(0, ints l), (1, .int .i64 n), (5, .bool ((l.take k).contains n)), (6, .int .i64 k)]) (fun _ => []) (Nat.zero_le _) rfl ?_ fun k hk => ?_
 ·try simp only [TrimX, QE, Nat.reduceLT, reduceIte, Nat.reduceEqDiff, Nat.reduceAdd, Nat.reduceLeDiff, Nat.reduceMul, Nat.reduceBEq]
  try simp
 ·(repeat (first | simp only [↓QA, QB, Nat.reduceLT, reduceIte, Nat.reduceEqDiff, Nat.reduceAdd, Nat.reduceLeDiff, Nat.reduceMul, Nat.reduceBEq, L44_0] | refine rd0 rfl ?_))
  refine iteP_intro (fun h => ?_) fun h => ?_
  ·have hk1 : k < l.length := by simpa using h
   (repeat (first | simp only [↓QA, QB, Nat.reduceLT, reduceIte, Nat.reduceEqDiff, Nat.reduceAdd, Nat.reduceLeDiff, Nat.reduceMul, Nat.reduceBEq] | refine rd0 rfl ?_))
   refine iteP_intro (fun h2 => ?_) fun h2 => ?_
   all_goals
    (repeat (first | simp only [↓QA, QB, Nat.reduceLT, reduceIte, Nat.reduceEqDiff, Nat.reduceAdd, Nat.reduceLeDiff, Nat.reduceMul, Nat.reduceBEq, h2, hk1] | refine rd0 rfl ?_))
    refine ⟨k + 1, by omega, by omega, ?_⟩
    try simp only [TrimX, QE, Nat.reduceLT, reduceIte, Nat.reduceEqDiff, Nat.reduceAdd, Nat.reduceLeDiff, Nat.reduceMul, Nat.reduceBEq, wrapN hk1 hl]
    simp only [List.take_succ_eq_append_getElem hk1, List.contains_append, h2]
    simp
    try (rw [Bool.eq_iff_iff]; simp; exact eq_comm)
  ·have : k = l.length := by simp at h; omega
   (repeat (first | simp only [↓QA, QB, Nat.reduceLT, reduceIte, Nat.reduceEqDiff, Nat.reduceAdd, Nat.reduceLeDiff, Nat.reduceMul, Nat.reduceBEq] | refine rd0 rfl ?_))
   simp [this]
def less : List Int → List Int → Bool
 | _, [] => false
 | [], _ :: _ => true
 | a :: az, b :: bs => if a = b then less az bs else decide (a < b)
theorem less_step {a b : List Int} {k : Nat} (ha : k < a.length) (hb : k < b.length) (h : a[k] = b[k]) : less (a.drop (k + 1)) (b.drop (k + 1)) = less (a.drop k) (b.drop k) := by
 rw [List.drop_eq_getElem_cons ha, List.drop_eq_getElem_cons hb]; simp [less, h]
theorem less_ok (a b : List Int) (ha : a.length < 9223372036854775808) (hb : b.length < 9223372036854775808) : Pure T 79 [ints a, ints b] (.bool (less a b)) := by
 refine pure_fn (af := a79) rfl (by simp [a79]) dd ?_
 (repeat (first | simp only [↓QA, QB, Nat.reduceLT, reduceIte, Nat.reduceEqDiff, Nat.reduceAdd, Nat.reduceLeDiff, Nat.reduceMul, Nat.reduceBEq, a79] | refine rd0 rfl ?_))
 refine loopE (S := Nat) 0 (fun k => k ≤ a.length ∧ k ≤ b.length ∧ less (a.drop k) (b.drop k) = less a b) (fun k => a.length - k) (fun k => [(0, ints a), (1, ints b), (5, .int .i64 k)]) (fun _ => []) ⟨Nat.zero_le _, Nat.zero_le _, rfl⟩ rfl ?_ fun k hk => ?_
 ·try simp only [TrimX, QE, Nat.reduceLT, reduceIte, Nat.reduceEqDiff, Nat.reduceAdd, Nat.reduceLeDiff, Nat.reduceMul, Nat.reduceBEq]
  try simp
 ·obtain ⟨hka, hkb, hl⟩ := hk
  (repeat (first | simp only [↓QA, QB, Nat.reduceLT, reduceIte, Nat.reduceEqDiff, Nat.reduceAdd, Nat.reduceLeDiff, Nat.reduceMul, Nat.reduceBEq, L79_0] | refine rd0 rfl ?_))
  by_cases h1 : k < a.length
  ·have g1 : decide ((k : Int) < a.length) = true := by simpa using h1
   by_cases h2 : k < b.length
   ·have g2 : decide ((k : Int) < b.length) = true := by simpa using h2
    (repeat (first | simp only [↓QA, QB, Nat.reduceLT, reduceIte, Nat.reduceEqDiff, Nat.reduceAdd, Nat.reduceLeDiff, Nat.reduceMul, Nat.reduceBEq, g1, g2, h1, h2] | refine rd0 rfl ?_))
    refine iteP_intro (fun h3 => ?_) fun h3 => ?_
    ·have h3' : a[k] = b[k] := by simpa using h3
     (repeat (first | simp only [↓QA, QB, Nat.reduceLT, reduceIte, Nat.reduceEqDiff, Nat.reduceAdd, Nat.reduceLeDiff, Nat.reduceMul, Nat.reduceBEq, h3] | refine rd0 rfl ?_))
     refine ⟨k + 1, ⟨by omega, by omega, (less_step h1 h2 h3').trans hl⟩, by omega, ?_⟩
     try simp only [TrimX, QE, Nat.reduceLT, reduceIte, Nat.reduceEqDiff, Nat.reduceAdd, Nat.reduceLeDiff, Nat.reduceMul, Nat.reduceBEq, wrapN h1 ha]
    ·have h3' : a[k] ≠ b[k] := by simpa using h3
     have e1 : ((k : Int) == b.length) = false := by simp; omega
     have e2 : ((k : Int) == a.length) = false := by simp; omega
     (repeat (first | simp only [↓QA, QB, Nat.reduceLT, reduceIte, Nat.reduceEqDiff, Nat.reduceAdd, Nat.reduceLeDiff, Nat.reduceMul, Nat.reduceBEq, h3, e1, e2, h1, h2] | refine rd0 rfl ?_))
     rw [← hl, List.drop_eq_getElem_cons h1, List.drop_eq_getElem_cons h2]
     simp [less, h3']
   ·have hkb' : k = b.length := by omega
    have g2 : decide ((k : Int) < b.length) = false := by simp; omega
    have e1 : ((k : Int) == b.length) = true := by simp; omega
    (repeat (first | simp only [↓QA, QB, Nat.reduceLT, reduceIte, Nat.reduceEqDiff, Nat.reduceAdd, Nat.reduceLeDiff, Nat.reduceMul, Nat.reduceBEq, g1, g2, e1] | refine rd0 rfl ?_))
    rw [← hl, hkb', List.drop_length]
    cases List.drop b.length a <;> simp [less]
  ·have g1 : decide ((k : Int) < a.length) = false := by simp; omega
   have e2 : ((k : Int) == a.length) = true := by simp; omega
   have hka' : k = a.length := by omega
   (repeat (first | simp only [↓QA, QB, Nat.reduceLT, reduceIte, Nat.reduceEqDiff, Nat.reduceAdd, Nat.reduceLeDiff, Nat.reduceMul, Nat.reduceBEq, g1] | refine rd0 rfl ?_))
   refine iteP_intro (fun h3 => ?_) fun h3 => ?_
   ·have h3' : k = b.length := by simp at h3; omega
    (repeat (first | simp only [↓QA, QB, Nat.reduceLT, reduceIte, Nat.reduceEqDiff, Nat.reduceAdd, Nat.reduceLeDiff, Nat.reduceMul, Nat.reduceBEq] | refine rd0 rfl ?_))
    rw [← hl, h3', List.drop_length]
    cases List.drop b.length a <;> simp [less]
   ·have h3' : k < b.length := by simp at h3; omega
    (repeat (first | simp only [↓QA, QB, Nat.reduceLT, reduceIte, Nat.reduceEqDiff, Nat.reduceAdd, Nat.reduceLeDiff, Nat.reduceMul, Nat.reduceBEq, h3, e2] | refine rd0 rfl ?_))
    rw [← hl, hka', List.drop_length, List.drop_eq_getElem_cons (by omega)]
    simp [less]
theorem less_irr : ∀ a, less a a = false
 | [] => rfl
 | a :: az => by simp [less, less_irr az]
theorem less_tri : ∀ a b, less a b = false → less b a = false → a = b
 | [], [], _, _ => rfl
 | [], b :: bs, h, _ => by simp [less] at h
 | a :: az, [], _, h => by simp [less] at h
 | a :: az, b :: bs, h1, h2 => by
  by_cases hab : a = b
  ·subst hab
   simp [less] at h1 h2
   rw [less_tri az bs h1 h2]
  ·simp [less, hab, Ne.symm hab] at h1 h2
   omega
theorem ints_ok (a b : List Int) (ha : a.length < 9223372036854775808) (hb : b.length < 9223372036854775808) : Pure T 21 [ints a, ints b] (.bool (decide (a = b))) := by
 refine pure_fn (af := a21) rfl (by simp [a21]) dd ?_
 (repeat (first | simp only [↓QA, QB, Nat.reduceLT, reduceIte, Nat.reduceEqDiff, Nat.reduceAdd, Nat.reduceLeDiff, Nat.reduceMul, Nat.reduceBEq, a21] | refine rd0 rfl ?_))
 refine iteP_intro (fun h => ?_) fun h => ?_
 ·(repeat (first | simp only [↓QA, QB, Nat.reduceLT, reduceIte, Nat.reduceEqDiff, Nat.reduceAdd, Nat.reduceLeDiff, Nat.reduceMul, Nat.reduceBEq, h] | refine rd0 rfl ?_))
  refine callK_d (less_ok a b ha hb) rfl dd ?_
  (repeat (first | simp only [↓QA, QB, Nat.reduceLT, reduceIte, Nat.reduceEqDiff, Nat.reduceAdd, Nat.reduceLeDiff, Nat.reduceMul, Nat.reduceBEq, h] | refine rd0 rfl ?_))
  cases h1 : less a b
  ·(repeat (first | simp only [↓QA, QB, Nat.reduceLT, reduceIte, Nat.reduceEqDiff, Nat.reduceAdd, Nat.reduceLeDiff, Nat.reduceMul, Nat.reduceBEq, h] | refine rd0 rfl ?_))
   refine callK_d (less_ok b a hb ha) rfl dd ?_
   (repeat (first | simp only [↓QA, QB, Nat.reduceLT, reduceIte, Nat.reduceEqDiff, Nat.reduceAdd, Nat.reduceLeDiff, Nat.reduceMul, Nat.reduceBEq, h] | refine rd0 rfl ?_))
   cases h2 : less b a
   ·rw [less_tri a b h1 h2]; simp
   ·have : a ≠ b := by rintro rfl; rw [less_irr] at h2; cases h2
    simp [this]
  ·have : a ≠ b := by rintro rfl; rw [less_irr] at h1; cases h1
   (repeat (first | simp only [↓QA, QB, Nat.reduceLT, reduceIte, Nat.reduceEqDiff, Nat.reduceAdd, Nat.reduceLeDiff, Nat.reduceMul, Nat.reduceBEq, h] | refine rd0 rfl ?_))
   simp [this]
 ·have : a ≠ b := by rintro rfl; simp at h
  (repeat (first | simp only [↓QA, QB, Nat.reduceLT, reduceIte, Nat.reduceEqDiff, Nat.reduceAdd, Nat.reduceLeDiff, Nat.reduceMul, Nat.reduceBEq, h] | refine rd0 rfl ?_))
  simp [this]
def fewer (a b : List Int) : Bool := if a.length = b.length then less a b else decide (a.length < b.length)
theorem str_beq (a b : ByteArray) : (a.toList == b.toList) = decide (a = b) := by
 rw [Bool.eq_iff_iff]; simp
 constructor
 ·intro h; rw [Go.Lib.toList_data, Go.Lib.toList_data] at h; exact ByteArray.ext (Array.toList_inj.1 h)
 ·rintro rfl; rfl
def ahead (s : ByteArray) : List ByteArray → Nat
 | [] => 0
 | x :: xs => if x = s then 0 else ahead s xs + 1
def whereI (s : ByteArray) (l : List ByteArray) : Int := if ahead s l = l.length then -1 else ahead s l
theorem ahead_step {s : ByteArray} {l : List ByteArray} {k : Nat} (h : k < l.length) (hx : l[k] ≠ s) : k + ahead s (l.drop k) = k + 1 + ahead s (l.drop (k + 1)) := by
 rw [List.drop_eq_getElem_cons h]; simp [ahead, hx]; omega
theorem where_ok (l : List ByteArray) (s : ByteArray) (hl : l.length < 9223372036854775808) : Pure T 94 [strs l, .str s] (.int .i64 (whereI s l)) := by
 refine pure_fn (af := a94) rfl (by simp [a94]) dd ?_
 (repeat (first | simp only [↓QA, QB, Nat.reduceLT, reduceIte, Nat.reduceEqDiff, Nat.reduceAdd, Nat.reduceLeDiff, Nat.reduceMul, Nat.reduceBEq, a94] | refine rd0 rfl ?_))
 refine loopE (S := Nat) 0 (fun k => k ≤ l.length ∧ k + ahead s (l.drop k) = ahead s l) (fun k => l.length - k) (fun k => [(0, strs l), (1, .str s), (5, .int .i64 k)]) (fun _ => []) ⟨Nat.zero_le _, by simp⟩ rfl ?_ fun k hk => ?_
 ·try simp only [TrimX, QE, Nat.reduceLT, reduceIte, Nat.reduceEqDiff, Nat.reduceAdd, Nat.reduceLeDiff, Nat.reduceMul, Nat.reduceBEq]
  try simp
 ·obtain ⟨hkl, ha⟩ := hk
  (repeat (first | simp only [↓QA, QB, Nat.reduceLT, reduceIte, Nat.reduceEqDiff, Nat.reduceAdd, Nat.reduceLeDiff, Nat.reduceMul, Nat.reduceBEq, L94_0, str_beq] | refine rd0 rfl ?_))
  refine iteP_intro (fun h => ?_) fun h => ?_
  ·have hk1 : k < l.length := by simpa using h
   have e2 : ((k : Int) == l.length) = false := by simp; omega
   (repeat (first | simp only [↓QA, QB, Nat.reduceLT, reduceIte, Nat.reduceEqDiff, Nat.reduceAdd, Nat.reduceLeDiff, Nat.reduceMul, Nat.reduceBEq, h, hk1, str_beq] | refine rd0 rfl ?_))
   refine iteP_intro (fun h3 => ?_) fun h3 => ?_
   ·have h3' : l[k] ≠ s := by simpa using h3
    (repeat (first | simp only [↓QA, QB, Nat.reduceLT, reduceIte, Nat.reduceEqDiff, Nat.reduceAdd, Nat.reduceLeDiff, Nat.reduceMul, Nat.reduceBEq, h3] | refine rd0 rfl ?_))
    refine ⟨k + 1, ⟨by omega, by rw [← ahead_step hk1 h3']; exact ha⟩, by omega, ?_⟩
    try simp only [TrimX, QE, Nat.reduceLT, reduceIte, Nat.reduceEqDiff, Nat.reduceAdd, Nat.reduceLeDiff, Nat.reduceMul, Nat.reduceBEq, wrapN hk1 hl]
   ·have h3' : l[k] = s := by simpa using h3
    have h4 : ahead s (l.drop k) = 0 := by rw [List.drop_eq_getElem_cons hk1]; simp [ahead, h3']
    (repeat (first | simp only [↓QA, QB, Nat.reduceLT, reduceIte, Nat.reduceEqDiff, Nat.reduceAdd, Nat.reduceLeDiff, Nat.reduceMul, Nat.reduceBEq, h3, e2] | refine rd0 rfl ?_))
    simp only [whereI]
    rw [if_neg (by omega)]
    simp; omega
  ·have hk1 : k = l.length := by simp at h; omega
   have e2 : ((k : Int) == l.length) = true := by simp; omega
   have h4 : ahead s (l.drop k) = 0 := by rw [hk1, List.drop_length]; rfl
   (repeat (first | simp only [↓QA, QB, Nat.reduceLT, reduceIte, Nat.reduceEqDiff, Nat.reduceAdd, Nat.reduceLeDiff, Nat.reduceMul, Nat.reduceBEq, h, e2] | refine rd0 rfl ?_))
   simp only [whereI]
   rw [if_pos (by omega)]
def okByte (i : Nat) (b : Int) : Bool := inR b 97 122 || (decide (0 < i) && (b == 46 || inR b 48 57))
def okUpTo (s : ByteArray) : Nat → Bool
 | 0 => true
 | k + 1 => okUpTo s k && okByte k (byteAt s k)
def nameOk (s : ByteArray) : Bool := inR s.size 1 16 && okUpTo s s.size
theorem name_ok (s : ByteArray) (hs : s.size < 9223372036854775808) : Pure T 95 [.str s] (.bool (nameOk s)) := by
 refine pure_fn (af := a95) rfl (by simp [a95]) dd ?_
 (repeat (first | simp only [↓QA, QB, Nat.reduceLT, reduceIte, Nat.reduceEqDiff, Nat.reduceAdd, Nat.reduceLeDiff, Nat.reduceMul, Nat.reduceBEq, a95] | refine rd0 rfl ?_))
 ((first | refine callK_d (in_ok _ _ _) rfl dd ?_ | refine callD_d (in_ok _ _ _) rfl dd ?_); (repeat (first | simp only [↓QA, QB, Nat.reduceLT, reduceIte, Nat.reduceEqDiff, Nat.reduceAdd, Nat.reduceLeDiff, Nat.reduceMul, Nat.reduceBEq] | refine rd0 rfl ?_)))
 refine loopE (S := Nat) 0 (fun k => k ≤ s.size) (fun k => s.size - k) (fun k => [(0, .str s), (3, .bool (inR s.size 1 16 && okUpTo s k)), (4, .int .i64 k)]) (fun _ => []) (Nat.zero_le _) rfl ?_ fun k hk => ?_
 ·try simp only [TrimX, QE, Nat.reduceLT, reduceIte, Nat.reduceEqDiff, Nat.reduceAdd, Nat.reduceLeDiff, Nat.reduceMul, Nat.reduceBEq, okUpTo]
  try simp
 ·(repeat (first | simp only [↓QA, QB, Nat.reduceLT, reduceIte, Nat.reduceEqDiff, Nat.reduceAdd, Nat.reduceLeDiff, Nat.reduceMul, Nat.reduceBEq, L95_0] | refine rd0 rfl ?_))
  refine iteP_intro (fun h => ?_) fun h => ?_
  ·have hk1 : k < s.size := by simpa using h
   have hb := byteAt_lt s k
   have hw : IntKind.i64.wrap (byteAt s k) = byteAt s k := wrap64 ⟨by omega, by omega⟩
   have fin : ∀ (later : Bool), later = (decide (0 < k) && (byteAt s k == 46 || inR (byteAt s k) 48 57)) → (inR s.size 1 16 && okUpTo s k && (inR (byteAt s k) 97 122 || later)) = (inR s.size 1 16 && okUpTo s (k + 1)) := by
    rintro _ rfl
    simp only [okUpTo, okByte, Bool.and_assoc]
   have tail : ∀ (later : Bool) (e : Env), later = (decide (0 < k) && (byteAt s k == 46 || inR (byteAt s k) 48 57)) → True := fun _ _ _ => trivial
   (repeat (first | simp only [↓QA, QB, Nat.reduceLT, reduceIte, Nat.reduceEqDiff, Nat.reduceAdd, Nat.reduceLeDiff, Nat.reduceMul, Nat.reduceBEq, hk1, hw] | refine rd0 rfl ?_))
   cases h0 : decide ((0 : Int) < k)
   ·have h0' : decide (0 < k) = false := by simpa using h0
    (repeat (first | simp only [↓QA, QB, Nat.reduceLT, reduceIte, Nat.reduceEqDiff, Nat.reduceAdd, Nat.reduceLeDiff, Nat.reduceMul, Nat.reduceBEq, hk1, hw] | refine rd0 rfl ?_))
    cases hf : (inR s.size 1 16 && okUpTo s k)
    ·(repeat (first | simp only [↓QA, QB, Nat.reduceLT, reduceIte, Nat.reduceEqDiff, Nat.reduceAdd, Nat.reduceLeDiff, Nat.reduceMul, Nat.reduceBEq, hk1, hw, hf] | refine rd0 rfl ?_))
     refine ⟨k + 1, by omega, by omega, ?_⟩
     try simp only [TrimX, QE, Nat.reduceLT, reduceIte, Nat.reduceEqDiff, Nat.reduceAdd, Nat.reduceLeDiff, Nat.reduceMul, Nat.reduceBEq, wrapN hk1 hs, ← fin false (by simp [h0']), hf]
     try simp
    ·(repeat (first | simp only [↓QA, QB, Nat.reduceLT, reduceIte, Nat.reduceEqDiff, Nat.reduceAdd, Nat.reduceLeDiff, Nat.reduceMul, Nat.reduceBEq, hk1, hw, hf] | refine rd0 rfl ?_))
     ((first | refine callK_d (in_ok _ _ _) rfl dd ?_ | refine callD_d (in_ok _ _ _) rfl dd ?_); (repeat (first | simp only [↓QA, QB, Nat.reduceLT, reduceIte, Nat.reduceEqDiff, Nat.reduceAdd, Nat.reduceLeDiff, Nat.reduceMul, Nat.reduceBEq] | refine rd0 rfl ?_)))
     cases h2 : inR (byteAt s k) 97 122
     all_goals
      (repeat (first | simp only [↓QA, QB, Nat.reduceLT, reduceIte, Nat.reduceEqDiff, Nat.reduceAdd, Nat.reduceLeDiff, Nat.reduceMul, Nat.reduceBEq, hk1, hw, hf] | refine rd0 rfl ?_))
      refine ⟨k + 1, by omega, by omega, ?_⟩
      try simp only [TrimX, QE, Nat.reduceLT, reduceIte, Nat.reduceEqDiff, Nat.reduceAdd, Nat.reduceLeDiff, Nat.reduceMul, Nat.reduceBEq, wrapN hk1 hs, ← fin false (by simp [h0']), hf, h2]
      try simp
   ·have h0' : decide (0 < k) = true := by simpa using h0
    (repeat (first | simp only [↓QA, QB, Nat.reduceLT, reduceIte, Nat.reduceEqDiff, Nat.reduceAdd, Nat.reduceLeDiff, Nat.reduceMul, Nat.reduceBEq, hk1, hw] | refine rd0 rfl ?_))
    cases h1 : (byteAt s k == 46)
    ·(repeat (first | simp only [↓QA, QB, Nat.reduceLT, reduceIte, Nat.reduceEqDiff, Nat.reduceAdd, Nat.reduceLeDiff, Nat.reduceMul, Nat.reduceBEq, hk1, hw] | refine rd0 rfl ?_))
     ((first | refine callK_d (in_ok _ _ _) rfl dd ?_ | refine callD_d (in_ok _ _ _) rfl dd ?_); (repeat (first | simp only [↓QA, QB, Nat.reduceLT, reduceIte, Nat.reduceEqDiff, Nat.reduceAdd, Nat.reduceLeDiff, Nat.reduceMul, Nat.reduceBEq] | refine rd0 rfl ?_)))
     cases hf : (inR s.size 1 16 && okUpTo s k)
     ·(repeat (first | simp only [↓QA, QB, Nat.reduceLT, reduceIte, Nat.reduceEqDiff, Nat.reduceAdd, Nat.reduceLeDiff, Nat.reduceMul, Nat.reduceBEq, hk1, hw, hf] | refine rd0 rfl ?_))
      refine ⟨k + 1, by omega, by omega, ?_⟩
      try simp only [TrimX, QE, Nat.reduceLT, reduceIte, Nat.reduceEqDiff, Nat.reduceAdd, Nat.reduceLeDiff, Nat.reduceMul, Nat.reduceBEq, wrapN hk1 hs, ← fin _ rfl, hf]
      try simp
     ·(repeat (first | simp only [↓QA, QB, Nat.reduceLT, reduceIte, Nat.reduceEqDiff, Nat.reduceAdd, Nat.reduceLeDiff, Nat.reduceMul, Nat.reduceBEq, hk1, hw, hf] | refine rd0 rfl ?_))
      ((first | refine callK_d (in_ok _ _ _) rfl dd ?_ | refine callD_d (in_ok _ _ _) rfl dd ?_); (repeat (first | simp only [↓QA, QB, Nat.reduceLT, reduceIte, Nat.reduceEqDiff, Nat.reduceAdd, Nat.reduceLeDiff, Nat.reduceMul, Nat.reduceBEq] | refine rd0 rfl ?_)))
      cases h2 : inR (byteAt s k) 97 122
      all_goals
       (repeat (first | simp only [↓QA, QB, Nat.reduceLT, reduceIte, Nat.reduceEqDiff, Nat.reduceAdd, Nat.reduceLeDiff, Nat.reduceMul, Nat.reduceBEq, hk1, hw, hf] | refine rd0 rfl ?_))
       refine ⟨k + 1, by omega, by omega, ?_⟩
       try simp only [TrimX, QE, Nat.reduceLT, reduceIte, Nat.reduceEqDiff, Nat.reduceAdd, Nat.reduceLeDiff, Nat.reduceMul, Nat.reduceBEq, wrapN hk1 hs, ← fin _ rfl, hf, h2, h0', h1]
       try simp
    ·(repeat (first | simp only [↓QA, QB, Nat.reduceLT, reduceIte, Nat.reduceEqDiff, Nat.reduceAdd, Nat.reduceLeDiff, Nat.reduceMul, Nat.reduceBEq, hk1, hw] | refine rd0 rfl ?_))
     cases hf : (inR s.size 1 16 && okUpTo s k)
     ·(repeat (first | simp only [↓QA, QB, Nat.reduceLT, reduceIte, Nat.reduceEqDiff, Nat.reduceAdd, Nat.reduceLeDiff, Nat.reduceMul, Nat.reduceBEq, hk1, hw, hf] | refine rd0 rfl ?_))
      refine ⟨k + 1, by omega, by omega, ?_⟩
      try simp only [TrimX, QE, Nat.reduceLT, reduceIte, Nat.reduceEqDiff, Nat.reduceAdd, Nat.reduceLeDiff, Nat.reduceMul, Nat.reduceBEq, wrapN hk1 hs, ← fin _ rfl, hf]
      try simp
     ·(repeat (first | simp only [↓QA, QB, Nat.reduceLT, reduceIte, Nat.reduceEqDiff, Nat.reduceAdd, Nat.reduceLeDiff, Nat.reduceMul, Nat.reduceBEq, hk1, hw, hf] | refine rd0 rfl ?_))
      ((first | refine callK_d (in_ok _ _ _) rfl dd ?_ | refine callD_d (in_ok _ _ _) rfl dd ?_); (repeat (first | simp only [↓QA, QB, Nat.reduceLT, reduceIte, Nat.reduceEqDiff, Nat.reduceAdd, Nat.reduceLeDiff, Nat.reduceMul, Nat.reduceBEq] | refine rd0 rfl ?_)))
      cases h2 : inR (byteAt s k) 97 122
      all_goals
       (repeat (first | simp only [↓QA, QB, Nat.reduceLT, reduceIte, Nat.reduceEqDiff, Nat.reduceAdd, Nat.reduceLeDiff, Nat.reduceMul, Nat.reduceBEq, hk1, hw, hf] | refine rd0 rfl ?_))
       refine ⟨k + 1, by omega, by omega, ?_⟩
       try simp only [TrimX, QE, Nat.reduceLT, reduceIte, Nat.reduceEqDiff, Nat.reduceAdd, Nat.reduceLeDiff, Nat.reduceMul, Nat.reduceBEq, wrapN hk1 hs, ← fin _ rfl, hf, h2, h0', h1]
       try simp
  ·have hk1 : k = s.size := by simp at h; omega
   (repeat (first | simp only [↓QA, QB, Nat.reduceLT, reduceIte, Nat.reduceEqDiff, Nat.reduceAdd, Nat.reduceLeDiff, Nat.reduceMul, Nat.reduceBEq] | refine rd0 rfl ?_))
   simp [nameOk, hk1]
def fresh (s : ByteArray) (before : List ByteArray) : Int := if nameOk s = false then 6 else if ahead s before = before.length then 0 else 5
theorem fresh_ok (s : ByteArray) (l : List ByteArray) (hs : s.size < 9223372036854775808) (hl : l.length < 9223372036854775808) : Pure T 68 [.str s, strs l] (.int .i64 (fresh s l)) := by
 refine pure_fn (af := a68) rfl (by simp [a68]) dd ?_
 (repeat (first | simp only [↓QA, QB, Nat.reduceLT, reduceIte, Nat.reduceEqDiff, Nat.reduceAdd, Nat.reduceLeDiff, Nat.reduceMul, Nat.reduceBEq, a68] | refine rd0 rfl ?_))
 ((first | refine callK_d (where_ok l s hl) rfl dd ?_ | refine callD_d (where_ok l s hl) rfl dd ?_); (repeat (first | simp only [↓QA, QB, Nat.reduceLT, reduceIte, Nat.reduceEqDiff, Nat.reduceAdd, Nat.reduceLeDiff, Nat.reduceMul, Nat.reduceBEq] | refine rd0 rfl ?_)))
 refine iteP_intro (fun h => ?_) fun h => ?_
 ·have hin : ahead s l ≠ l.length := by
   intro e
   simp [whereI, e] at h
  (repeat (first | simp only [↓QA, QB, Nat.reduceLT, reduceIte, Nat.reduceEqDiff, Nat.reduceAdd, Nat.reduceLeDiff, Nat.reduceMul, Nat.reduceBEq] | refine rd0 rfl ?_))
  ((first | refine callK_d (name_ok s hs) rfl dd ?_ | refine callD_d (name_ok s hs) rfl dd ?_); (repeat (first | simp only [↓QA, QB, Nat.reduceLT, reduceIte, Nat.reduceEqDiff, Nat.reduceAdd, Nat.reduceLeDiff, Nat.reduceMul, Nat.reduceBEq] | refine rd0 rfl ?_)))
  cases hn : nameOk s
  all_goals
   (repeat (first | simp only [↓QA, QB, Nat.reduceLT, reduceIte, Nat.reduceEqDiff, Nat.reduceAdd, Nat.reduceLeDiff, Nat.reduceMul, Nat.reduceBEq] | refine rd0 rfl ?_))
   simp [fresh, hn, hin]
 ·have hin : ahead s l = l.length := by
   simp only [whereI] at h
   split at h
   ·assumption
   ·simp at h
  (repeat (first | simp only [↓QA, QB, Nat.reduceLT, reduceIte, Nat.reduceEqDiff, Nat.reduceAdd, Nat.reduceLeDiff, Nat.reduceMul, Nat.reduceBEq] | refine rd0 rfl ?_))
  ((first | refine callK_d (name_ok s hs) rfl dd ?_ | refine callD_d (name_ok s hs) rfl dd ?_); (repeat (first | simp only [↓QA, QB, Nat.reduceLT, reduceIte, Nat.reduceEqDiff, Nat.reduceAdd, Nat.reduceLeDiff, Nat.reduceMul, Nat.reduceBEq] | refine rd0 rfl ?_)))
  cases hn : nameOk s
  all_goals
   (repeat (first | simp only [↓QA, QB, Nat.reduceLT, reduceIte, Nat.reduceEqDiff, Nat.reduceAdd, Nat.reduceLeDiff, Nat.reduceMul, Nat.reduceBEq] | refine rd0 rfl ?_))
   simp [fresh, hn, hin]
def numbers (a : Int) : Nat → List Int
 | 0 => []
 | n + 1 => a :: numbers (a + 1) n
theorem numbers_len : ∀ n a, (numbers a n).length = n
 | 0, _ => rfl
 | n + 1, a => by simp [numbers, numbers_len n]
theorem numbers_mem : ∀ n a x, x ∈ numbers a n ↔ a ≤ x ∧ x < a + n
 | 0, a, x => by simp [numbers]
 | n + 1, a, x => by simp [numbers, numbers_mem n]; omega
def least (i : Nat) (c : List Int) : Int := if 0 < i then (c[i - 1]?).getD 0 + 1 else 0
def nexts (below i : Nat) (c : List Int) : List (List Int) := (numbers (least i c) ((below : Int) - least i c).toNat).map fun n => c ++ [n]
def choices (below : Nat) : Nat → List (List Int)
 | 0 => [[]]
 | i + 1 => (choices below i).flatMap (nexts below i)
theorem choices_spec (below : Nat) : ∀ i c, c ∈ choices below i → c.length = i ∧ ∀ x ∈ c, 0 ≤ x ∧ x < below
 | 0, c, h => by simp [choices] at h; subst h; simp
 | i + 1, c, h => by
  simp only [choices, List.mem_flatMap] at h
  obtain ⟨d, h1, h2⟩ := h
  obtain ⟨q1, q2⟩ := choices_spec below i d h1
  simp only [nexts, List.mem_map, numbers_mem] at h2
  obtain ⟨n, h3, rfl⟩ := h2
  refine ⟨by simp [q1], fun x hx => ?_⟩
  rcases List.mem_append.1 hx with hx | hx
  ·exact q2 x hx
  ·simp at hx
   subst hx
   have : 0 ≤ least i d := by
    unfold least
    split
    ·rename_i hi
     have hlt : i - 1 < d.length := by omega
     have := q2 d[i - 1] (List.getElem_mem hlt)
     simp [hlt]
     omega
    ·omega
   omega
theorem less_trans : ∀ {a b c : List Int}, less a b = true → less b c = true → less a c = true
 | a, b, [], h1, h2 => by cases b <;> simp [less] at h2
 | a, [], c :: cs, h1, h2 => by cases a <;> simp [less] at h1
 | [], b :: bs, c :: cs, h1, h2 => by simp [less]
 | a :: az, b :: bs, c :: cs, h1, h2 => by
  simp only [less] at *
  by_cases hab : a = b
  ·subst hab
   by_cases hac : a = c
   ·subst hac
    simp only [if_true] at *
    exact less_trans h1 h2
   ·simp only [hac, if_false, if_true] at *
    exact h2
  ·by_cases hbc : b = c
   ·subst hbc
    simp only [hab, if_false, if_true, decide_eq_true_eq] at *
    exact h1
   ·simp only [hab, hbc, if_false, decide_eq_true_eq] at *
    rw [if_neg (by omega)]
    simp; omega
theorem fewer_irr (a : List Int) : fewer a a = false := by simp [fewer, less_irr]
theorem fewer_trans {a b c : List Int} (h1 : fewer a b = true) (h2 : fewer b c = true) : fewer a c = true := by
 simp only [fewer] at *
 by_cases e1 : a.length = b.length <;> by_cases e2 : b.length = c.length
 ·simp only [e1, e2, if_true] at *; exact less_trans h1 h2
 ·simp only [e1, e2, if_true, if_false, decide_eq_true_eq] at *; exact h2
 ·rw [if_neg e1] at h1; rw [if_neg (by omega)]; simp at h1 ⊢; omega
 ·simp only [e1, e2, if_false, decide_eq_true_eq] at *
  rw [if_neg (by omega)]; simp; omega
theorem fewer_tri {a b : List Int} (h1 : fewer a b = false) (h2 : fewer b a = false) : a = b := by
 simp only [fewer] at *
 by_cases e1 : a.length = b.length
 ·simp only [e1, if_true] at *
  exact less_tri a b h1 h2
 ·rw [if_neg e1] at h1; rw [if_neg (Ne.symm e1)] at h2
  simp at h1 h2; omega
theorem nfewer_trans {a b c : List Int} (h1 : fewer b a = false) (h2 : fewer c b = false) : fewer c a = false := by
 rw [Bool.eq_false_iff]
 intro h
 by_cases hab : fewer a b = true
 ·rw [fewer_trans h hab] at h2; cases h2
 ·have := fewer_tri (by simpa using hab) h1
  subst this
  rw [h] at h2; cases h2
def lst (n s : Nat) : List Int := (numbers 0 n).filter fun i => decide (s / 2 ^ i.toNat % 2 = 1)
theorem lst_in : ∀ n : Fin 7, ∀ s : Fin 64, s.val < 2 ^ n.val → lst n s ∈ choices n (lst n s).length := by decide +kernel
theorem in_lst : ∀ n m : Fin 7, ∀ c ∈ choices n m, ∃ s : Fin 64, s.val < 2 ^ n.val ∧ lst n s = c := by decide +kernel
theorem choices_sorted : ∀ n m : Fin 7, (choices n m).Pairwise fun a b => less a b = true := by decide +kernel
theorem choices_one : ∀ n : Fin 7, (choices n n).length = 1 := by decide +kernel
theorem lst_len (n s : Nat) : (lst n s).length ≤ n := by
 have := List.length_filter_le (fun i : Int => decide (s / 2 ^ i.toNat % 2 = 1)) (numbers 0 n)
 rw [numbers_len] at this
 exact this
def firstFrom (f : List Int → Bool) (n : Nat) : Nat → Nat → Option (List Int)
 | 0, _ => none
 | k + 1, m => match (choices n m).find? f with
  | some l => some l
  | none => firstFrom f n k (m + 1)
theorem all_contains : ∀ n : Fin 7, ∀ c ∈ choices n n, ∀ j : Fin 7, j.val < n.val → c.contains ((j.val : Nat) : Int) = true := by decide +kernel
def fewStep (f : List Int → Bool) (o : Option (List Int)) (l : List Int) : Option (List Int) := match o with
 | none => if f l = true then some l else none
 | some b => if fewer b l = true then some b else if f l = true then some l else some b
def fewFold (f : List Int → Bool) (n : Nat) : Nat → Nat → Option (List Int) → Option (List Int)
 | 0, _, o => o
 | k + 1, s, o => fewFold f n k (s + 1) (fewStep f o (lst n s))
theorem fewFold_spec (f : List Int → Bool) (n : Nat) : ∀ k s o, (∀ w, o = some w → f w = true ∧ ∃ t, t < s ∧ w = lst n t ∧ ∀ t', t' < s → f (lst n t') = true → fewer (lst n t') w = false) → (o = none → ∀ t, t < s → f (lst n t) = false) →
  (∀ w, fewFold f n k s o = some w → f w = true ∧ ∃ t, t < s + k ∧ w = lst n t ∧ ∀ t', t' < s + k → f (lst n t') = true → fewer (lst n t') w = false) ∧ (fewFold f n k s o = none → ∀ t, t < s + k → f (lst n t) = false)
 | 0, s, o, h1, h2 => ⟨h1, h2⟩
 | k + 1, s, o, h1, h2 => by
  have ih := fewFold_spec f n k (s + 1) (fewStep f o (lst n s))
  rw [show s + 1 + k = s + (k + 1) by omega] at ih
  simp only [fewFold]
  have last : ∀ (w : List Int) t', t' < s + 1 → (∀ t'', t'' < s → f (lst n t'') = true → fewer (lst n t'') w = false) → (f (lst n s) = true → fewer (lst n s) w = false) → f (lst n t') = true → fewer (lst n t') w = false := by
   intro w t' ht h3 h4 hs
   by_cases he : t' = s
   ·subst he; exact h4 hs
   ·exact h3 t' (by omega) hs
  refine ih (fun w hw => ?_) fun hn t ht => ?_
  ·cases o with
   | none =>
    simp only [fewStep] at hw
    split at hw
    ·rename_i hs
     simp only [Option.some.injEq] at hw
     subst hw
     refine ⟨hs, s, by omega, rfl, fun t' ht hst => last _ t' ht (fun t'' h4 h5 => by rw [h2 rfl t'' h4] at h5; cases h5) (fun _ => fewer_irr _) hst⟩
    ·cases hw
   | some b =>
    obtain ⟨q1, t, q2, q3, q4⟩ := h1 b rfl
    simp only [fewStep] at hw
    split at hw
    ·rename_i hf
     simp only [Option.some.injEq] at hw
     subst hw
     refine ⟨q1, t, by omega, q3, fun t' ht hst => last _ t' ht q4 (fun _ => ?_) hst⟩
     rw [Bool.eq_false_iff]
     intro h5
     have := fewer_trans hf h5
     rw [fewer_irr] at this; cases this
    ·rename_i hf
     split at hw
     ·rename_i hs
      simp only [Option.some.injEq] at hw
      subst hw
      refine ⟨hs, s, by omega, rfl, fun t' ht hst => last _ t' ht (fun t'' h4 h5 => ?_) (fun _ => fewer_irr _) hst⟩
      exact nfewer_trans (by simpa using hf) (q4 t'' h4 h5)
     ·rename_i hs
      simp only [Option.some.injEq] at hw
      subst hw
      exact ⟨q1, t, by omega, q3, fun t' ht hst => last _ t' ht q4 (fun h5 => absurd h5 hs) hst⟩
  ·cases o with
   | none =>
    simp only [fewStep] at hn
    split at hn
    ·cases hn
    ·rename_i hs
     by_cases he : t = s
     ·subst he; simpa using hs
     ·exact h2 rfl t (by omega)
   | some b =>
    simp only [fewStep] at hn
    split at hn
    ·cases hn
    ·split at hn <;> cases hn
theorem choices_le : ∀ {n i : Nat} {c : List Int}, c ∈ choices n i → i ≤ n := by
 intro n i
 cases i with
 | zero => intros; omega
 | succ i =>
  intro c hc
  simp only [choices, List.mem_flatMap, nexts, List.mem_map, numbers_mem] at hc
  obtain ⟨d, hd, x, hx, rfl⟩ := hc
  have key : ∀ j (d : List Int), d ∈ choices n j → (j : Int) ≤ least j d := by
   intro j
   induction j with
   | zero => intro d _; simp [least]
   | succ j ih =>
    intro d hd
    simp only [choices, List.mem_flatMap, nexts, List.mem_map, numbers_mem] at hd
    obtain ⟨d', hd', y, hy, rfl⟩ := hd
    have h5 := ih d' hd'
    have h6 := (choices_spec n j d' hd').1
    simp only [least, Nat.succ_pos, if_true, Nat.add_sub_cancel]
    rw [List.getElem?_append_right (by omega), h6, Nat.sub_self]
    simp only [List.getElem?_cons_zero, Option.getD_some]
    omega
  have := key i d hd
  omega
theorem firstFrom_spec (f : List Int → Bool) (n : Nat) (hN : n ≤ 6) : ∀ k m, (∀ m', m' < m → ∀ c ∈ choices n m', f c = false) →
  (∀ l, firstFrom f n k m = some l → l ∈ choices n l.length ∧ f l = true ∧ ∀ m', ∀ c ∈ choices n m', f c = true → fewer c l = false) ∧ (firstFrom f n k m = none → ∀ m', m' < m + k → ∀ c ∈ choices n m', f c = false)
 | 0, m, hlow => ⟨fun l h => by simp [firstFrom] at h, fun _ m' h c hc => hlow m' (by omega) c hc⟩
 | k + 1, m, hlow => by
  simp only [firstFrom]
  cases hf : (choices n m).find? f with
  | none =>
   simp only
   have ih := firstFrom_spec f n hN k (m + 1) fun m' hm' c hc => by
    by_cases he : m' = m
    ·subst he
     rw [List.find?_eq_none] at hf
     simpa using hf c hc
    ·exact hlow m' (by omega) c hc
   exact ⟨ih.1, fun h m' hm' => ih.2 h m' (by omega)⟩
  | some l =>
   simp only
   refine ⟨fun l' h => ?_, fun h => by cases h⟩
   cases h
   have hmem := List.mem_of_find?_eq_some hf
   have hs := List.find?_some hf
   have hlen := (choices_spec _ _ _ hmem).1
   rw [hlen]
   refine ⟨hmem, hs, fun m' c hc hsc => ?_⟩
   have hcl := (choices_spec _ _ _ hc).1
   by_cases h1 : m' < m
   ·rw [hlow m' h1 c hc] at hsc; cases hsc
   ·by_cases he : m' = m
    ·subst he
     rw [Bool.eq_false_iff]
     intro hlt
     simp only [fewer, hcl, hlen, if_true] at hlt
     obtain ⟨pre, post, e1, e2⟩ := (List.find?_eq_some_iff_append.1 hf).2
     have hmn := choices_le hmem
     have hpw := choices_sorted ⟨n, by omega⟩ ⟨m', by omega⟩
     simp only at hpw
     rw [e1] at hc hpw
     rcases List.mem_append.1 hc with hc | hc
     ·have := e2 c hc
      rw [hsc] at this; cases this
     ·rcases List.mem_cons.1 hc with rfl | hc
      ·rw [less_irr] at hlt; cases hlt
      ·have := (List.pairwise_append.1 hpw).2.1
       have := (List.pairwise_cons.1 this).1 c hc
       have h3 := less_trans hlt this
       rw [less_irr] at h3; cases h3
    ·simp only [fewer]; rw [if_neg (by omega)]; simp; omega
theorem few_eq (f : List Int → Bool) (n : Nat) (hN : n ≤ 6) : fewFold f n (2 ^ n) 0 none = firstFrom f n (n + 1) 0 := by
 have hp : 2 ^ n ≤ 2 ^ 6 := Nat.pow_le_pow_right (by omega) hN
 obtain ⟨w1, w2⟩ := firstFrom_spec f n hN (n + 1) 0 (fun m' h => by omega)
 obtain ⟨s1, s2⟩ := fewFold_spec f n (2 ^ n) 0 none (fun w h => by cases h) (fun _ t h => by omega)
 rw [Nat.zero_add] at s1 s2
 cases hf : fewFold f n (2 ^ n) 0 none with
 | none =>
  cases hg : firstFrom f n (n + 1) 0 with
  | none => rfl
  | some l =>
   obtain ⟨a, b, c⟩ := w1 l hg
   have hle := choices_le a
   obtain ⟨t, ht, hlt⟩ := in_lst ⟨n, by omega⟩ ⟨l.length, by omega⟩ l a
   have := s2 hf t.val ht
   rw [show lst n t.val = l from hlt, b] at this; cases this
 | some w =>
  obtain ⟨q1, t', q2, q3, q4⟩ := s1 w hf
  have hin := lst_in ⟨n, by omega⟩ ⟨t', by omega⟩ q2
  simp only at hin
  rw [← q3] at hin
  have hle : w.length ≤ n := by rw [q3]; exact lst_len _ _
  cases hg : firstFrom f n (n + 1) 0 with
  | none =>
   have := w2 hg w.length (by omega) w hin
   rw [q1] at this; cases this
  | some l =>
   obtain ⟨a, b, c⟩ := w1 l hg
   have hll := choices_le a
   obtain ⟨t, ht, hlt⟩ := in_lst ⟨n, by omega⟩ ⟨l.length, by omega⟩ l a
   have a1 := q4 t.val ht (by rw [show lst n t.val = l from hlt]; exact b)
   rw [show lst n t.val = l from hlt] at a1
   have a2 := c w.length w hin q1
   rw [fewer_tri a1 a2]
open Go
variable {P : Program}
def IsStruct (P : Program) (t : TypeId) (ts : List TypeId) : Prop := ∃ fs, P.underlying t = some (.struct fs) ∧ fs.toList.map Field.type = ts
theorem typ_st {n : Nat} {t : TypeId} {ts : List TypeId} {cs : List AV} (hu : IsStruct P t ts) (h : Typ P (n + 1) t cs) : mkV P t cs = .agg cs ∧ Parts P n ts cs := by
 obtain ⟨fs, h1, h2⟩ := hu
 have := typ_struct h1 h
 rw [h2] at this
 exact ⟨mkV_struct h1, this⟩
theorem tc_span {n : Nat} {i t : TypeId} {cs : List AV} (hi : P.underlying i = some (.int .i64)) (hs : IsStruct P t [i, i]) (h : Typ P (n + 2) t cs) : ∃ s : Span, cs = [.int .i64 s.lo, .int .i64 s.hi] := by
 obtain ⟨_, a, b, rfl, h1, c, d, rfl, h2, rfl⟩ := typ_st hs h
 obtain ⟨x, rfl, _⟩ := typ_int hi h1
 obtain ⟨y, rfl, _⟩ := typ_int hi h2
 exact ⟨⟨x, y⟩, rfl⟩
end Go.Am.Room
namespace Go.Am.Room
def firstBad {α : Type} (f : Nat → α → Int) : List α → Nat → Option (Nat × Int)
 | [], _ => none
 | x :: xs, i => if f i x = 0 then firstBad f xs (i + 1) else some (i, f i x)
theorem firstBad_step {α : Type} {f : Nat → α → Int} {l : List α} {k : Nat} (h : k < l.length) : firstBad f (l.drop k) k = if f k l[k] = 0 then firstBad f (l.drop (k + 1)) (k + 1) else some (k, f k l[k]) := by
 rw [List.drop_eq_getElem_cons h]; rfl
theorem firstBad_end {α : Type} {f : Nat → α → Int} {l : List α} {k : Nat} (h : k = l.length) : firstBad f (l.drop k) k = none := by
 rw [h, List.drop_length]; rfl
def spanL : List Int → Span
 | [] => ⟨0, 0⟩
 | x :: xs => xs.foldl join ⟨x, x⟩
def settled (yes all : Nat) : Int := if yes = all then 1 else if yes = 0 then 2 else 0
theorem inR_iff {n lo hi : Int} : inR n lo hi = true ↔ lo ≤ n ∧ n ≤ hi := by simp [inR]
theorem ends_zero {s : Span} {lo hi : Int} (h : ends s lo hi = 0) : lo ≤ s.lo ∧ s.lo ≤ s.hi ∧ s.hi ≤ hi := by
 unfold ends at h
 split at h
 ·omega
 ·rename_i h1
  split at h
  ·omega
  ·simp [inR] at h1; omega
theorem firstBad_all {α : Type} {f : Nat → α → Int} : ∀ {l : List α} {i : Nat}, firstBad f l i = none → ∀ k (h : k < l.length), f (i + k) l[k] = 0
 | [], _, _, k, h => by simp at h
 | x :: xs, i, h, k, hk => by
  simp only [firstBad] at h
  split at h
  ·rename_i h0
   cases k with
   | zero => exact h0
   | succ k =>
    have := firstBad_all h k (by simpa using hk)
    simpa [Nat.add_assoc, Nat.add_comm 1 k] using this
  ·cases h
theorem firstBad_nz {α : Type} {f : Nat → α → Int} : ∀ {l : List α} {i j : Nat} {e : Int}, firstBad f l i = some (j, e) → e ≠ 0
 | [], _, _, _, h => by cases h
 | x :: xs, i, j, e, h => by
  simp only [firstBad] at h
  split at h
  ·exact firstBad_nz h
  ·rename_i hn
   simp at h
   rw [← h.2]
   exact hn
structure Plot where
 name : ByteArray
 flower : Span
 hands : Int
structure Look where
 plot : Int
 day : Int
 points : Int
structure Farm where
 rain : List Span
 full : Int
 ripe : Int
 way : Span
 plots : List Plot
 looks : List Look
theorem S_mapSpan (σ : St) (m d : Nat) (l : List Span) : snapMs σ m d (l.map encSpan) = some (l.map encSpan) := S_datas (datas_map data_span l) σ m d
instance (l : List Span) : Dats (l.map encSpan) := ⟨datas_map data_span l⟩
def encPlot (p : Plot) : AV := .agg [.str p.name, .int .i64 p.flower.lo, .int .i64 p.flower.hi, .int .i64 p.hands]
theorem encPlot_eq (p : Plot) : encPlot p = .agg [.str p.name, .int .i64 p.flower.lo, .int .i64 p.flower.hi, .int .i64 p.hands] := by simp only [encPlot]
theorem data_plot (p : Plot) : Data (encPlot p) := data_agg (datas_cons (data_str _) (datas_cons (data_int _ _) (datas_cons (data_int _ _) (datas_cons (data_int _ _) datas_nil))))
instance (p : Plot) : Dat (encPlot p) := ⟨data_plot p⟩
def encLook (x : Look) : AV := .agg [.int .i64 x.plot, .int .i64 x.day, .int .i64 x.points]
theorem encLook_eq (x : Look) : encLook x = .agg [.int .i64 x.plot, .int .i64 x.day, .int .i64 x.points] := by simp only [encLook]
theorem data_look (x : Look) : Data (encLook x) := data_agg (datas_cons (data_int _ _) (datas_cons (data_int _ _) (datas_cons (data_int _ _) datas_nil)))
instance (x : Look) : Dat (encLook x) := ⟨data_look x⟩
instance (l : List Plot) : Dats (l.map encPlot) := ⟨datas_map data_plot l⟩
instance (l : List Look) : Dats (l.map encLook) := ⟨datas_map data_look l⟩
def farmCells (v : Farm) : List AV := [.lit (v.rain.map encSpan) false none, .int .i64 v.full, .int .i64 v.ripe, .int .i64 v.way.lo, .int .i64 v.way.hi, .lit (v.plots.map encPlot) false none, .lit (v.looks.map encLook) false none]
theorem farmCells_eq (v : Farm) : farmCells v = [.lit (v.rain.map encSpan) false none, .int .i64 v.full, .int .i64 v.ripe, .int .i64 v.way.lo, .int .i64 v.way.hi, .lit (v.plots.map encPlot) false none, .lit (v.looks.map encLook) false none] := by simp only [farmCells]
def encFarm (v : Farm) : AV := .agg (farmCells v)
theorem encFarm_eq (v : Farm) : encFarm v = .agg (farmCells v) := by simp only [encFarm]
theorem data_farm (v : Farm) : Data (encFarm v) := data_agg (datas_cons (data_list data_span _) (datas_cons (data_int _ _) (datas_cons (data_int _ _) (datas_cons (data_int _ _) (datas_cons (data_int _ _) (datas_cons (data_list data_plot _) (datas_cons (data_list data_look _) datas_nil)))))))
instance (v : Farm) : Dat (encFarm v) := ⟨data_farm v⟩
theorem S_mapPlot (σ : St) (m d : Nat) (l : List Plot) : snapMs σ m d (l.map encPlot) = some (l.map encPlot) := S_datas (datas_map data_plot l) σ m d
theorem S_mapLook (σ : St) (m d : Nat) (l : List Look) : snapMs σ m d (l.map encLook) = some (l.map encLook) := S_datas (datas_map data_look l) σ m d
structure Fits (v : Farm) : Prop where
 rain : v.rain.length < 9223372036854775808
 plots : v.plots.length < 9223372036854775808
 looks : v.looks.length < 9223372036854775808
 names : ∀ p ∈ v.plots, p.name.size < 9223372036854775808
def endOf (v : Farm) : Int := v.rain.length
def raErr (_ : Nat) (s : Span) : Int := ends s 0 2
def plErr2 (v : Farm) (p : Plot) : Int := if ends p.flower 0 (endOf v - 1) = 7 ∨ inR p.hands 1 99 = false then 7 else ends p.flower 0 (endOf v - 1)
def plErr (v : Farm) (i : Nat) (p : Plot) : Int := if fresh p.name ((v.plots.take i).map Plot.name) = 0 then plErr2 v p else fresh p.name ((v.plots.take i).map Plot.name)
def lkErr (v : Farm) (_ : Nat) (x : Look) : Int := if inR x.plot 0 ((v.plots.length : Int) - 1) = false then 4 else if inR x.day 0 (endOf v) = false ∨ inR x.points 0 30 = false then 7 else 0
def check4 (v : Farm) : Int × Int × Int := if 4 < v.looks.length then (4, 0, 3) else match firstBad (lkErr v) v.looks 0 with | some (i, e) => (4, i, e) | none => (0, 0, 0)
def check3 (v : Farm) : Int × Int × Int := if 4 < v.plots.length then (3, 0, 3) else match firstBad (plErr v) v.plots 0 with | some (i, e) => (3, i, e) | none => check4 v
def check2 (v : Farm) : Int × Int × Int := if inR v.full 0 30 = false ∨ inR v.ripe 0 30 = false ∨ ends v.way 0 9 = 7 then (2, 0, 7) else if ends v.way 0 9 = 0 then check3 v else (2, 0, ends v.way 0 9)
def check (v : Farm) : Int × Int × Int := if inR v.rain.length 1 7 = false then (1, 0, 3) else match firstBad raErr v.rain 0 with | some (i, e) => (1, i, e) | none => check2 v
def pts (r : Nat → Int) (a : Nat) : Nat → Int
 | 0 => 0
 | d + 1 => if a ≤ d then pts r a d + (1 + r d) else 0
def rl (l : List Int) (i : Nat) : Int := (l[i]?).getD 0
def ptsL (l : List Int) (a d : Int) : Int := pts (rl l) a.toNat d.toNat
def waysIn (s : Span) : List Int := numbers s.lo (s.hi + 1 - s.lo).toNat
def ext (s : Span) (l : List Int) : List (List Int) := (waysIn s).map fun n => l ++ [n]
def weatherTo (rs : List Span) : Nat → List (List Int)
 | 0 => [[]]
 | k + 1 => match rs[k]? with | some s => (weatherTo rs k).flatMap (ext s) | none => weatherTo rs k
def weather (v : Farm) : List (List Int) := weatherTo v.rain v.rain.length
def lookOk (plot : Int) (but : List Int) (rain : List Int) (d : Int) (k : Nat) (x : Look) : Bool := !decide (x.plot = plot) || but.contains (k : Int) || ptsL rain d x.day == x.points
def flowerOk (v : Farm) (plot : Int) (rain but : List Int) (d : Int) : Bool := (List.range v.looks.length).all fun k => match v.looks[k]? with | some x => lookOk plot but rain d k x | none => true
def flowerAt (v : Farm) (p : Nat) : Span := match v.plots[p]? with | some x => x.flower | none => ⟨0, -1⟩
def flowersOf (v : Farm) (p : Nat) (rain but : List Int) : List Int := (waysIn (flowerAt v p)).filter (flowerOk v (p : Int) rain but)
structure Truth where
 rain : List Int
 fl : List (List Int)
def truthOf (v : Farm) (but rain : List Int) : Option Truth :=
 let l := (List.range v.plots.length).map fun (p : Nat) => flowersOf v p rain but
 if l.all (fun x => !x.isEmpty) then some ⟨rain, l⟩ else none
def truths (v : Farm) (but : List Int) : List Truth := (weather v).filterMap (truthOf v but)
def encTruth (t : Truth) : AV := .agg [ints t.rain, .lit (t.fl.map ints) false none]
theorem encTruth_eq (t : Truth) : encTruth t = .agg [ints t.rain, .lit (t.fl.map ints) false none] := by simp only [encTruth]
theorem data_truth (t : Truth) : Data (encTruth t) := data_agg (datas_cons (data_ints _) (datas_cons (data_list data_ints _) datas_nil))
instance (t : Truth) : Dat (encTruth t) := ⟨data_truth t⟩
def truthsAV (l : List Truth) : AV := .lit (l.map encTruth) false none
theorem data_truths (l : List Truth) : Data (truthsAV l) := data_list data_truth l
instance (l : List Truth) : Dat (truthsAV l) := ⟨data_truths l⟩
instance (l : List Truth) : Dats (l.map encTruth) := ⟨datas_map data_truth l⟩
theorem S_mapT (σ : St) (m d : Nat) (l : List Truth) : snapMs σ m d (l.map encTruth) = some (l.map encTruth) := S_datas (datas_map data_truth l) σ m d
def someB (v : Farm) (but : List Int) : Bool := !(truths v but).isEmpty
def errAsk (v : Farm) (plot : Int) : Int := if (check v).2.2 = 0 then (if inR plot 0 ((v.plots.length : Int) - 1) then 0 else 4) else (check v).2.2
def within (n most e : Int) : Int := if e = 0 then (if inR n 0 most then 0 else 7) else e
def errKnown (v : Farm) (e : Int) : Int := if e = 0 then (if (truths v []).isEmpty then 8 else 0) else e
def flAt (t : Truth) (p : Nat) : List Int := (t.fl[p]?).getD []
def fullIn (l : List Truth) (p d : Nat) : List Int := l.flatMap fun t => (flAt t p).map fun h => ptsL t.rain h d
def fullS (l : List Truth) (p d : Nat) : Span := spanL (fullIn l p d)
def grownErr (v : Farm) (plot day : Int) : Int := errKnown v (within day (endOf v) (errAsk v plot))
def grownOf (v : Farm) (plot day : Int) : Span × Int := if grownErr v plot day = 0 then (fullS (truths v []) plot.toNat day.toNat, 0) else (⟨0, 0⟩, grownErr v plot day)
def rainErr (v : Farm) (day : Int) : Int := errKnown v (within day (endOf v - 1) (check v).2.2)
def rainedIn (l : List Truth) (d : Nat) : List Int := l.map fun t => rl t.rain d
def rainedOf (v : Farm) (day : Int) : Span × Int := if rainErr v day = 0 then (spanL (rainedIn (truths v []) day.toNat), 0) else (⟨0, 0⟩, rainErr v day)
def plotErr (v : Farm) (plot : Int) : Int := errKnown v (errAsk v plot)
def isFl (l : List Truth) (p : Nat) (d : Int) : Bool := l.any fun t => (flAt t p).contains d
def floweredIn (v : Farm) (l : List Truth) (p : Nat) : List Int := (numbers 0 v.rain.length).filter (isFl l p)
def floweredOf (v : Farm) (plot : Int) : List Int × Int := if plotErr v plot = 0 then (floweredIn v (truths v []) plot.toNat, 0) else ([], plotErr v plot)
def goodAt (v : Farm) (n w : Int) : Bool := decide (v.full ≤ n) && decide (n + w ≤ v.ripe)
def goodsOf (v : Farm) (n : Int) : List Bool := (waysIn v.way).map (goodAt v n)
def goodsIn (v : Farm) (l : List Truth) (p d : Nat) : List Bool := (fullIn l p d).flatMap (goodsOf v)
def goodOf (v : Farm) (l : List Truth) (p d : Nat) : Int := settled ((goodsIn v l p d).filter id).length (goodsIn v l p d).length
def cutOf (v : Farm) (plot day : Int) : Int × Int := if grownErr v plot day = 0 then (goodOf v (truths v []) plot.toNat day.toNat, 0) else (0, grownErr v plot day)
def sureDays (v : Farm) (l : List Truth) (p : Nat) : List Int := (numbers 0 (v.rain.length + 1)).filter fun d => goodOf v l p d.toNat == 1
def mayDays (v : Farm) (l : List Truth) (p : Nat) : List Int := (numbers 0 (v.rain.length + 1)).filter fun d => !(goodOf v l p d.toNat == 2)
def daysOf (v : Farm) (plot : Int) : List Int × List Int × Int := if plotErr v plot = 0 then (sureDays v (truths v []) plot.toNat, mayDays v (truths v []) plot.toNat, 0) else ([], [], plotErr v plot)
def greenB (v : Farm) (l : List Truth) (p d : Nat) : Bool := decide ((fullS l p d).hi + v.way.hi ≤ v.ripe)
def wholeB (v : Farm) (l : List Truth) (p d : Nat) : Bool := decide (v.full ≤ (fullS l p d).lo)
def lastTo (q : Nat → Bool) : Nat → Int
 | 0 => -1
 | k + 1 => if q k then k else lastTo q k
def lastIn (v : Farm) (l : List Truth) (p : Nat) : Int := lastTo (greenB v l p) (v.rain.length + 1)
def lastOf (v : Farm) (plot : Int) : Int × Int := if plotErr v plot = 0 then (if lastIn v (truths v []) plot.toNat = -1 then (0, 9) else (lastIn v (truths v []) plot.toNat, 0)) else (0, plotErr v plot)
def handsAt (v : Farm) (p : Int) : Int := match v.plots[p.toNat]? with | some x => x.hands | none => 0
def handsOf (v : Farm) : List Int → Int
 | [] => 0
 | p :: l => handsAt v p + handsOf v l
def shrinksOf (v : Farm) (l : List Truth) (ps : List Int) (d : Nat) : List Int := ps.filter fun p => !wholeB v l p.toNat d
def doesB (v : Farm) (l : List Truth) (ps : List Int) (d : Nat) (hands : Int) : Bool := decide (hands ≤ handsOf v ps) && ps.all fun p => greenB v l p.toNat d
def earlyStep (v : Farm) (l : List Truth) (d : Nat) (hands : Int) (o : Option (List Int)) (ps : List Int) : Option (List Int) :=
 if doesB v l ps d hands then (match o with | none => some ps | some b => if (shrinksOf v l ps d).length < (shrinksOf v l b d).length then some ps else some b) else o
def chFrom (n : Nat) : Nat → Nat → List (List Int)
 | 0, _ => []
 | k + 1, m => choices n m ++ chFrom n k (m + 1)
def allChoices (n : Nat) : List (List Int) := chFrom n (n + 1) 0
def earlyIn (v : Farm) (l : List Truth) (d : Nat) (hands : Int) : Option (List Int) := (allChoices v.plots.length).foldl (earlyStep v l d hands) none
def earlyErr (v : Farm) (day hands : Int) : Int := errKnown v (within hands 400 (within day (endOf v) (check v).2.2))
def earlyR (v : Farm) (l : List Truth) (d : Nat) : Option (List Int) → List Int × List Int × Int
 | none => ([], [], 9)
 | some b => (b, shrinksOf v l b d, 0)
def earlyOf (v : Farm) (day hands : Int) : List Int × List Int × Int := if earlyErr v day hands = 0 then earlyR v (truths v []) day.toNat (earlyIn v (truths v []) day.toNat hands) else ([], [], earlyErr v day hands)
def wrongL (v : Farm) : List Int := (firstFrom (someB v) v.looks.length v.looks.length 0).getD (((choices v.looks.length v.looks.length)[0]?).getD [])
def wrongOf (v : Farm) : List Int × Int := if (check v).2.2 = 0 then (wrongL v, 0) else ([], (check v).2.2)
def nmHill : ByteArray := ⟨#[104, 105, 108, 108]⟩
def nmBank : ByteArray := ⟨#[98, 97, 110, 107]⟩
def nmBend : ByteArray := ⟨#[98, 101, 110, 100]⟩
def exF (l : List Look) : Farm := ⟨[⟨1, 1⟩, ⟨0, 1⟩, ⟨0, 0⟩, ⟨1, 2⟩, ⟨0, 1⟩], 6, 11, ⟨2, 3⟩, [⟨nmHill, ⟨0, 0⟩, 30⟩, ⟨nmBank, ⟨1, 2⟩, 20⟩, ⟨nmBend, ⟨0, 1⟩, 25⟩], l⟩
def exL : Farm := exF [⟨1, 3, 2⟩]
def exW : Farm := exF [⟨1, 3, 2⟩, ⟨0, 1, 3⟩]
theorem x1 : grownOf (exF []) 1 4 = (⟨3, 6⟩, 0) := by decide +kernel
theorem x2 : grownOf exL 1 4 = (⟨4, 5⟩, 0) := by decide +kernel
theorem x3 : cutOf (exF []) 0 4 = (1, 0) := by decide +kernel
theorem x4 : cutOf (exF []) 0 3 = (2, 0) := by decide +kernel
theorem x5 : daysOf (exF []) 0 = ([4], [4, 5], 0) := by decide +kernel
theorem x6 : lastOf (exF []) 0 = (4, 0) := by decide +kernel
theorem x7 : earlyOf (exF []) 4 50 = ([0, 1], [1], 0) := by decide +kernel
theorem x8 : earlyOf (exF []) 4 80 = ([], [], 9) := by decide +kernel
theorem x9 : rainedOf exL 1 = (⟨0, 0⟩, 0) := by decide +kernel
theorem x10 : floweredOf exL 1 = ([1], 0) := by decide +kernel
theorem x11 : wrongOf exW = ([1], 0) := by decide +kernel
theorem x12 : lastOf exW 0 = (0, 8) := by decide +kernel
open Go
variable {P : Program}
structure Tys (P : Program) : Prop where
 int : P.underlying 3 = some (.int .i64)
 u8 : P.underlying 5 = some (.int .u8)
 str : P.underlying 9 = some .string
 rain : P.underlying 22 = some (.slice 24)
 span : IsStruct P 24 [3, 3]
 plots : P.underlying 25 = some (.slice 81)
 looks : P.underlying 26 = some (.slice 50)
 farm : IsStruct P 28 [22, 3, 3, 24, 25, 26]
 look : IsStruct P 50 [3, 3, 3]
 u8s : P.underlying 53 = some (.slice 5)
 u16 : P.underlying 63 = some (.int .u16)
 want : IsStruct P 65 [5, 63]
 a2 : P.underlying 79 = some (.array 2 5)
 plot : IsStruct P 81 [9, 24, 3]
 lookB : P.bytesOf 50 = 24
theorem ty_plot {n : Nat} {cs : List AV} (T : Tys P) (h : Typ P (n + 3) 81 cs) : ∃ s : Plot, mkV P 81 cs = encPlot s ∧ s.name.size < 9223372036854775808 := by
 obtain ⟨e, a, b, rfl, h1, c, d, rfl, h2, c2, d2, rfl, h3, rfl⟩ := typ_st T.plot h
 obtain ⟨x, rfl, hx⟩ := typ_str T.str h1
 obtain ⟨y, rfl⟩ := tc_span T.int T.span h2
 obtain ⟨z, rfl, _⟩ := typ_int T.int h3
 exact ⟨⟨x, y, z⟩, e, by simp only [maxLen] at hx; simp only; omega⟩
theorem ty_span {n : Nat} {cs : List AV} (T : Tys P) (h : Typ P (n + 2) 24 cs) : ∃ s : Span, mkV P 24 cs = encSpan s ∧ True := by
 obtain ⟨e, a, b, rfl, h1, c, d, rfl, h2, rfl⟩ := typ_st T.span h
 obtain ⟨x, rfl, _⟩ := typ_int T.int h1
 obtain ⟨y, rfl, _⟩ := typ_int T.int h2
 exact ⟨⟨x, y⟩, e, trivial⟩
theorem ty_look {n : Nat} {cs : List AV} (T : Tys P) (h : Typ P (n + 2) 50 cs) : ∃ s : Look, mkV P 50 cs = encLook s ∧ True := by
 obtain ⟨e, a, b, rfl, h1, c, d, rfl, h2, c2, d2, rfl, h3, rfl⟩ := typ_st T.look h
 obtain ⟨x, rfl, _⟩ := typ_int T.int h1
 obtain ⟨y, rfl, _⟩ := typ_int T.int h2
 obtain ⟨z, rfl, _⟩ := typ_int T.int h3
 exact ⟨⟨x, y, z⟩, e, trivial⟩
theorem ty_farmB {n : Nat} {cs : List AV} (T : Tys P) (h : Typ P (n + 5) 28 cs) : ∃ s : Farm, mkV P 28 cs = encFarm s ∧ Fits s ∧ s.looks.length * 24 ≤ 140737488351232 := by
 obtain ⟨e, a1, b1, rfl, h1, a2, b2, rfl, h2, a3, b3, rfl, h3, a4, b4, rfl, h4, a5, b5, rfl, h5, a6, b6, rfl, h6, rfl⟩ := typ_st T.farm h
 obtain ⟨x1, rfl, ⟨l1, _⟩, _⟩ := typ_slice T.rain h1 fun y hy => ty_span T hy
 obtain ⟨x2, rfl, _⟩ := typ_int T.int h2
 obtain ⟨x3, rfl, _⟩ := typ_int T.int h3
 obtain ⟨x4, rfl⟩ := tc_span T.int T.span h4
 obtain ⟨x5, rfl, ⟨l5, _⟩, q5⟩ := typ_slice T.plots h5 fun y hy => ty_plot T hy
 obtain ⟨x6, rfl, ⟨l6, b6⟩, _⟩ := typ_slice T.looks h6 fun y hy => ty_look T hy
 exact ⟨⟨x1, x2, x3, x4, x5, x6⟩, e, ⟨l1, l5, l6, q5⟩, by rw [T.lookB] at b6; simpa [reachBytes] using b6⟩
end Go.Am.Room
namespace Go.Am.Room
structure Vd (v : Farm) : Prop where
 nra : 1 ≤ v.rain.length ∧ v.rain.length ≤ 7
 ra : ∀ s ∈ v.rain, 0 ≤ s.lo ∧ s.lo ≤ s.hi ∧ s.hi ≤ 2
 full : 0 ≤ v.full ∧ v.full ≤ 30
 ripe : 0 ≤ v.ripe ∧ v.ripe ≤ 30
 way : 0 ≤ v.way.lo ∧ v.way.lo ≤ v.way.hi ∧ v.way.hi ≤ 9
 npl : v.plots.length ≤ 4
 pl : ∀ i (h : i < v.plots.length), plErr v i v.plots[i] = 0
 nlk : v.looks.length ≤ 4
 lk : ∀ x ∈ v.looks, (0 ≤ x.plot ∧ x.plot < v.plots.length) ∧ (0 ≤ x.day ∧ x.day ≤ v.rain.length) ∧ 0 ≤ x.points ∧ x.points ≤ 30
theorem vd_of_check {v : Farm} (h : (check v).2.2 = 0) : Vd v := by
 unfold check at h
 split at h
 ·simp at h
 rename_i c1
 split at h
 ·rename_i i e he; exact absurd h (firstBad_nz he)
 rename_i f1
 unfold check2 at h
 split at h
 ·simp at h
 rename_i c2
 split at h
 case isFalse hn => exact absurd h hn
 rename_i c0
 unfold check3 at h
 split at h
 ·simp at h
 rename_i c3
 split at h
 ·rename_i i e he; exact absurd h (firstBad_nz he)
 rename_i f2
 unfold check4 at h
 split at h
 ·simp at h
 rename_i c4
 split at h
 ·rename_i i e he; exact absurd h (firstBad_nz he)
 rename_i f3
 simp only [not_or, Bool.not_eq_false] at c1 c2
 obtain ⟨d1, d2, d3⟩ := c2
 rw [inR_iff] at c1 d1 d2
 refine ⟨by omega, ?_, d1, d2, ends_zero c0, by omega, fun i hi => by simpa using firstBad_all f2 i hi, by omega, ?_⟩
 ·intro x hx
  obtain ⟨k, hk, rfl⟩ := List.getElem_of_mem hx
  exact ends_zero (firstBad_all f1 k hk)
 ·intro x hx
  obtain ⟨k, hk, rfl⟩ := List.getElem_of_mem hx
  have := firstBad_all f3 k hk
  unfold lkErr at this
  split at this
  ·omega
  rename_i hi
  split at this
  ·omega
  rename_i hj
  rw [not_or, Bool.not_eq_false, Bool.not_eq_false, inR_iff, inR_iff] at hj
  rw [Bool.not_eq_false, inR_iff] at hi
  simp only [endOf] at hj
  omega
theorem pl_ok {v : Farm} (h : Vd v) {i : Nat} (hi : i < v.plots.length) : (0 ≤ v.plots[i].flower.lo ∧ v.plots[i].flower.lo ≤ v.plots[i].flower.hi ∧ v.plots[i].flower.hi ≤ (v.rain.length : Int) - 1) ∧ 1 ≤ v.plots[i].hands ∧ v.plots[i].hands ≤ 99 := by
 have := h.pl i hi
 unfold plErr at this
 split at this
 ·unfold plErr2 at this
  split at this
  ·omega
  ·rename_i h1
   rw [not_or, Bool.not_eq_false, inR_iff] at h1
   have := ends_zero this
   simp only [endOf] at this
   omega
 ·rename_i h0; exact absurd this h0
theorem flower_at {v : Farm} {p : Nat} (hp : p < v.plots.length) : flowerAt v p = v.plots[p].flower := by simp [flowerAt, hp]
theorem hands_at {v : Farm} {p : Nat} (hp : p < v.plots.length) : handsAt v (p : Int) = v.plots[p].hands := by simp [handsAt, hp]
theorem waysIn_mem {s : Span} {n : Int} : n ∈ waysIn s ↔ s.lo ≤ n ∧ n ≤ s.hi := by
 rw [waysIn, numbers_mem]; omega
theorem waysIn_len {s : Span} : (waysIn s).length = (s.hi + 1 - s.lo).toNat := numbers_len _ _
theorem ext_mem {s : Span} {l c : List Int} : c ∈ ext s l ↔ ∃ n, (s.lo ≤ n ∧ n ≤ s.hi) ∧ c = l ++ [n] := by
 simp only [ext, List.mem_map, waysIn_mem]
 constructor
 ·rintro ⟨n, h, rfl⟩; exact ⟨n, h, rfl⟩
 ·rintro ⟨n, h, rfl⟩; exact ⟨n, h, rfl⟩
theorem weatherTo_succ {rs : List Span} {k : Nat} (h : k < rs.length) : weatherTo rs (k + 1) = (weatherTo rs k).flatMap (ext rs[k]) := by
 simp only [weatherTo, List.getElem?_eq_getElem h]
theorem weatherTo_mem {rs : List Span} : ∀ {k : Nat}, k ≤ rs.length → ∀ {c : List Int}, c ∈ weatherTo rs k ↔ c.length = k ∧ ∀ i (h : i < k) (h2 : i < rs.length) , rs[i].lo ≤ rl c i ∧ rl c i ≤ rs[i].hi
 | 0, _, c => by
  simp only [weatherTo, List.mem_singleton]
  constructor
  ·rintro rfl; exact ⟨rfl, fun i h => by omega⟩
  ·rintro ⟨h, _⟩; exact List.length_eq_zero_iff.1 h
 | k + 1, hk, c => by
  rw [weatherTo_succ (show k < rs.length by omega), List.mem_flatMap]
  constructor
  ·rintro ⟨l, hl, hc⟩
   obtain ⟨n, hn, rfl⟩ := ext_mem.1 hc
   obtain ⟨h1, h2⟩ := (weatherTo_mem (by omega)).1 hl
   refine ⟨by simp [h1], fun i hi hi2 => ?_⟩
   by_cases e : i = k
   ·subst e
    simp only [rl]
    rw [List.getElem?_append_right (by omega), h1, Nat.sub_self]
    exact hn
   ·have := h2 i (by omega) hi2
    simp only [rl] at this ⊢
    rw [List.getElem?_append_left (by omega)]
    exact this
  ·rintro ⟨h1, h2⟩
   have hd : c ≠ [] := by intro e; subst e; simp at h1
   have hsp := List.dropLast_concat_getLast hd
   refine ⟨c.dropLast, (weatherTo_mem (by omega)).2 ⟨by simp [h1], fun i hi hi2 => ?_⟩, ext_mem.2 ⟨c.getLast hd, ?_, hsp.symm⟩⟩
   ·have := h2 i (by omega) hi2
    simp only [rl] at this ⊢
    rw [List.getElem?_dropLast, if_pos (by omega)]
    exact this
   ·have := h2 k (by omega) (by omega)
    have hlast : rl c k = c.getLast hd := by
     simp only [rl]
     rw [List.getLast_eq_getElem, List.getElem?_eq_getElem (by omega)]
     simp [h1]
    rw [hlast] at this
    exact this
structure RainOk (v : Farm) (c : List Int) : Prop where
 len : c.length = v.rain.length
 bd : ∀ i (h : i < v.rain.length), v.rain[i].lo ≤ rl c i ∧ rl c i ≤ v.rain[i].hi
theorem weather_mem {v : Farm} {c : List Int} : c ∈ weather v ↔ RainOk v c := by
 rw [weather, weatherTo_mem (Nat.le_refl _)]
 exact ⟨fun ⟨h1, h2⟩ => ⟨h1, fun i h => h2 i h h⟩, fun ⟨h1, h2⟩ => ⟨h1, fun i h _ => h2 i h⟩⟩
theorem rain_bd {v : Farm} (hv : Vd v) {c : List Int} (h : RainOk v c) (i : Nat) : 0 ≤ rl c i ∧ rl c i ≤ 2 := by
 by_cases hi : i < v.rain.length
 ·have h1 := h.bd i hi
  have h2 := hv.ra _ (List.getElem_mem hi)
  omega
 ·rw [rl, List.getElem?_eq_none (by rw [h.len]; omega)]
  simp
theorem pts_self (r : Nat → Int) (a : Nat) : pts r a a = 0 := by
 cases a with
 | zero => rfl
 | succ a => simp only [pts]; rw [if_neg (by omega)]
theorem pts_lt (r : Nat → Int) {a d : Nat} (h : d ≤ a) : pts r a d = 0 := by
 cases d with
 | zero => rfl
 | succ d => simp only [pts]; rw [if_neg (by omega)]
theorem pts_step (r : Nat → Int) {a d : Nat} (h : a ≤ d) : pts r a (d + 1) = pts r a d + (1 + r d) := by simp only [pts]; rw [if_pos h]
theorem pts_bd {r : Nat → Int} (hr : ∀ i, 0 ≤ r i ∧ r i ≤ 2) (a : Nat) : ∀ d, 0 ≤ pts r a d ∧ pts r a d ≤ 3 * d
 | 0 => by simp [pts]
 | d + 1 => by
  have ih := pts_bd hr a d
  have := hr d
  simp only [pts]
  split
  ·omega
  ·omega
theorem mem_truths {v : Farm} {but : List Int} {t : Truth} : t ∈ truths v but ↔ RainOk v t.rain ∧ t.fl = (List.range v.plots.length).map (fun p => flowersOf v p t.rain but) ∧ ∀ x ∈ t.fl, x ≠ [] := by
 simp only [truths, List.mem_filterMap]
 constructor
 ·rintro ⟨c, hc, h⟩
  simp only [truthOf] at h
  split at h
  ·rename_i ha
   simp only [Option.some.injEq] at h
   subst h
   refine ⟨weather_mem.1 hc, rfl, fun x hx e => ?_⟩
   have := List.all_eq_true.1 ha x hx
   rw [e] at this
   simp at this
  ·cases h
 ·rintro ⟨h1, h2, h3⟩
  refine ⟨t.rain, weather_mem.2 h1, ?_⟩
  obtain ⟨rain, fl⟩ := t
  simp only at h1 h2 h3 ⊢
  simp only [truthOf, ← h2]
  rw [if_pos]
  rw [List.all_eq_true]
  intro x hx
  have := h3 x hx
  cases x with
  | nil => exact absurd rfl this
  | cons a b => rfl
structure TOk (v : Farm) (t : Truth) : Prop where
 rain : RainOk v t.rain
 len : t.fl.length = v.plots.length
 fl : ∀ p, p < v.plots.length → flAt t p ≠ [] ∧ (flAt t p).length ≤ 7 ∧ ∀ d ∈ flAt t p, 0 ≤ d ∧ d < v.rain.length
theorem flowers_bd {v : Farm} (hv : Vd v) {p : Nat} (hp : p < v.plots.length) (rain but : List Int) : (flowersOf v p rain but).length ≤ 7 ∧ ∀ d ∈ flowersOf v p rain but, 0 ≤ d ∧ d < v.rain.length := by
 have h1 := (pl_ok hv hp).1
 have h2 := hv.nra
 rw [flowersOf, flower_at hp]
 refine ⟨Nat.le_trans (List.length_filter_le _ _) (by rw [waysIn_len]; omega), fun d hd => ?_⟩
 have := waysIn_mem.1 (List.mem_filter.1 hd).1
 omega
theorem tok_of {v : Farm} (hv : Vd v) {but : List Int} {t : Truth} (h : t ∈ truths v but) : TOk v t := by
 obtain ⟨h1, h2, h3⟩ := mem_truths.1 h
 refine ⟨h1, by rw [h2]; simp, fun p hp => ?_⟩
 have e : flAt t p = flowersOf v p t.rain but := by simp [flAt, h2, hp]
 rw [e]
 refine ⟨h3 _ (by rw [h2]; exact List.mem_map.2 ⟨p, by simpa using hp, rfl⟩), flowers_bd hv hp _ _⟩
end Go.Am.Room
set_option maxRecDepth 4000
namespace Go.Am.Room
def QXFFaC1 := And.intro @encFarm_eq (And.intro @farmCells_eq (And.intro @encPlot_eq (And.intro @encLook_eq (And.intro @encSpan_eq (And.intro @S_mapPlot (And.intro @S_mapLook (@S_mapSpan)))))))
def enc3 (x : Int × Int × Int) : AV := .tuple [.int .i64 x.1, .int .i64 x.2.1, .int .i64 x.2.2]
theorem rend_ok (v : Farm) : Pure T 69 [encFarm v] (.int .i64 (endOf v)) := by
 refine pure_fn (af := a69) rfl (by simp [a69]) dd ?_
 (repeat (first | simp only [↓QA, QB, Nat.reduceLT, reduceIte, Nat.reduceEqDiff, Nat.reduceAdd, Nat.reduceLeDiff, Nat.reduceMul, Nat.reduceBEq, QXFFaC1, a69, endOf] | refine rd0 rfl ?_))
theorem append_str {k : Nat} {ns : List ByteArray} {s : ByteArray} {b : ABlk} {ex : Bool} {τ : St} (hk : ns.length = k) (hn : k < 16) : appendAV 1 16 (b :: .tok 1 k ex :: τ) (.lit (ns.map .str) false (some 1)) (.lit [.str s] true none) = some (.lit ((ns ++ [s]).map .str) false (some 1), b :: .tok 1 (k + 1) true :: τ) := by
 rw [app_tok (ex := ex) ⟨L_allM 1 _ ns (fun x => C_str _), by simp [allCells, AV.cells, AV.cell], by simp [room, hk]; omega, by simp [room, hk]; omega⟩ (by simp) (by simp [hk])]
 simp [hk]
theorem take_name {v : Farm} {k : Nat} (h : k < v.plots.length) : (v.plots.take (k + 1)).map Plot.name = (v.plots.take k).map Plot.name ++ [v.plots[k].name] := by
 rw [List.take_succ_eq_append_getElem h, List.map_append]; rfl
theorem refcheck_ok (v : Farm) (h : Fits v) : Pure T 16 [encFarm v] (enc3 (check v)) := by
 refine pure_fn (af := a16) rfl (by simp [a16]) dd ?_
 have hfr := h.rain
 have hfp := h.plots
 have hfl := h.looks
 (repeat (first | simp only [↓QA, QB, Nat.reduceLT, reduceIte, Nat.reduceEqDiff, Nat.reduceAdd, Nat.reduceLeDiff, Nat.reduceMul, Nat.reduceBEq, QXFFaC1, a16] | refine rd0 rfl ?_))
 ((first | refine callK_d (in_ok v.rain.length 1 7) rfl dd ?_ | refine callD_d (in_ok v.rain.length 1 7) rfl dd ?_); (repeat (first | simp only [↓QA, QB, Nat.reduceLT, reduceIte, Nat.reduceEqDiff, Nat.reduceAdd, Nat.reduceLeDiff, Nat.reduceMul, Nat.reduceBEq, QXFFaC1] | refine rd0 rfl ?_)))
 cases h1 : inR v.rain.length 1 7
 ·(repeat (first | simp only [↓QA, QB, Nat.reduceLT, reduceIte, Nat.reduceEqDiff, Nat.reduceAdd, Nat.reduceLeDiff, Nat.reduceMul, Nat.reduceBEq, QXFFaC1] | refine rd0 rfl ?_))
  simp [check, h1, enc3]
 ·have h1' : v.rain.length ≤ 7 := by simp [inR] at h1; omega
  have hc : check v = match firstBad raErr v.rain 0 with | some (i, e) => (1, (i : Int), e) | none => check2 v := by simp only [check, h1, Bool.true_eq_false, if_false]; try rfl
  rw [hc]
  (repeat (first | simp only [↓QA, QB, Nat.reduceLT, reduceIte, Nat.reduceEqDiff, Nat.reduceAdd, Nat.reduceLeDiff, Nat.reduceMul, Nat.reduceBEq, QXFFaC1] | refine rd0 rfl ?_))
  refine loopE (S := Nat) 0 (fun k => k ≤ v.rain.length ∧ firstBad raErr (v.rain.drop k) k = firstBad raErr v.rain 0) (fun k => v.rain.length - k)
   (fun k => [(1, .ptr 0 0), (5, .int .i64 k)]) (fun _ => [.cells (farmCells v)]) ⟨Nat.zero_le _, by simp⟩ (by simp [farmCells, ints]) ?_ fun k hs => ?_
  ·try simp only [TrimX, QE, Nat.reduceLT, reduceIte, Nat.reduceEqDiff, Nat.reduceAdd, Nat.reduceLeDiff, Nat.reduceMul, Nat.reduceBEq, QXFFaC1]
   try simp
  ·obtain ⟨hk, hb⟩ := hs
   (repeat (first | simp only [↓QA, QB, Nat.reduceLT, reduceIte, Nat.reduceEqDiff, Nat.reduceAdd, Nat.reduceLeDiff, Nat.reduceMul, Nat.reduceBEq, QXFFaC1, L16_0] | refine rd0 rfl ?_))
   refine iteP_intro (fun hd => ?_) fun hd => ?_
   ·have hk1 : k < v.rain.length := by simpa using hd
    rw [firstBad_step hk1] at hb
    have hw := wrapN hk1 hfr
    have hre : raErr k v.rain[k] = ends v.rain[k] 0 2 := rfl
    rw [hre] at hb
    (repeat (first | simp only [↓QA, QB, Nat.reduceLT, reduceIte, Nat.reduceEqDiff, Nat.reduceAdd, Nat.reduceLeDiff, Nat.reduceMul, Nat.reduceBEq, QXFFaC1, hk1] | refine rd0 rfl ?_))
    ((first | refine callK_d (ends_ok v.rain[k] 0 2) rfl dd ?_ | refine callD_d (ends_ok v.rain[k] 0 2) rfl dd ?_); (repeat (first | simp only [↓QA, QB, Nat.reduceLT, reduceIte, Nat.reduceEqDiff, Nat.reduceAdd, Nat.reduceLeDiff, Nat.reduceMul, Nat.reduceBEq, QXFFaC1, hk1] | refine rd0 rfl ?_)))
    cases hf : (ends v.rain[k] 0 2 == 0)
    ·have hf' : ends v.rain[k] 0 2 ≠ 0 := by simpa using hf
     rw [if_neg hf'] at hb
     rw [← hb]
     (repeat (first | simp only [↓QA, QB, Nat.reduceLT, reduceIte, Nat.reduceEqDiff, Nat.reduceAdd, Nat.reduceLeDiff, Nat.reduceMul, Nat.reduceBEq, QXFFaC1, hf] | refine rd0 rfl ?_))
     rfl
    ·have hf' : ends v.rain[k] 0 2 = 0 := by simpa using hf
     rw [if_pos hf'] at hb
     (repeat (first | simp only [↓QA, QB, Nat.reduceLT, reduceIte, Nat.reduceEqDiff, Nat.reduceAdd, Nat.reduceLeDiff, Nat.reduceMul, Nat.reduceBEq, QXFFaC1, hf, hw] | refine rd0 rfl ?_))
     refine ⟨k + 1, ⟨by omega, hb⟩, by omega, ?_⟩
     try simp only [TrimX, QE, Nat.reduceLT, reduceIte, Nat.reduceEqDiff, Nat.reduceAdd, Nat.reduceLeDiff, Nat.reduceMul, Nat.reduceBEq, QXFFaC1, hw]
     try simp [okBlk]
   ·have hk1 : k = v.rain.length := by simp at hd; omega
    rw [firstBad_end hk1] at hb
    rw [← hb]
    (repeat (first | simp only [↓QA, QB, Nat.reduceLT, reduceIte, Nat.reduceEqDiff, Nat.reduceAdd, Nat.reduceLeDiff, Nat.reduceMul, Nat.reduceBEq, QXFFaC1] | refine rd0 rfl ?_))
    ((first | refine callK_d (ends_ok v.way 0 9) rfl dd ?_ | refine callD_d (ends_ok v.way 0 9) rfl dd ?_); (repeat (first | simp only [↓QA, QB, Nat.reduceLT, reduceIte, Nat.reduceEqDiff, Nat.reduceAdd, Nat.reduceLeDiff, Nat.reduceMul, Nat.reduceBEq, QXFFaC1] | refine rd0 rfl ?_)))
    ((first | refine callK_d (in_ok v.full 0 30) rfl dd ?_ | refine callD_d (in_ok v.full 0 30) rfl dd ?_); (repeat (first | simp only [↓QA, QB, Nat.reduceLT, reduceIte, Nat.reduceEqDiff, Nat.reduceAdd, Nat.reduceLeDiff, Nat.reduceMul, Nat.reduceBEq, QXFFaC1] | refine rd0 rfl ?_)))
    cases h2 : inR v.full 0 30
    ·(repeat (first | simp only [↓QA, QB, Nat.reduceLT, reduceIte, Nat.reduceEqDiff, Nat.reduceAdd, Nat.reduceLeDiff, Nat.reduceMul, Nat.reduceBEq, QXFFaC1] | refine rd0 rfl ?_))
     simp [check2, h2, enc3]
    ·(repeat (first | simp only [↓QA, QB, Nat.reduceLT, reduceIte, Nat.reduceEqDiff, Nat.reduceAdd, Nat.reduceLeDiff, Nat.reduceMul, Nat.reduceBEq, QXFFaC1] | refine rd0 rfl ?_))
     ((first | refine callK_d (in_ok v.ripe 0 30) rfl dd ?_ | refine callD_d (in_ok v.ripe 0 30) rfl dd ?_); (repeat (first | simp only [↓QA, QB, Nat.reduceLT, reduceIte, Nat.reduceEqDiff, Nat.reduceAdd, Nat.reduceLeDiff, Nat.reduceMul, Nat.reduceBEq, QXFFaC1] | refine rd0 rfl ?_)))
     cases h3 : inR v.ripe 0 30
     ·(repeat (first | simp only [↓QA, QB, Nat.reduceLT, reduceIte, Nat.reduceEqDiff, Nat.reduceAdd, Nat.reduceLeDiff, Nat.reduceMul, Nat.reduceBEq, QXFFaC1] | refine rd0 rfl ?_))
      simp [check2, h3, enc3]
     ·(repeat (first | simp only [↓QA, QB, Nat.reduceLT, reduceIte, Nat.reduceEqDiff, Nat.reduceAdd, Nat.reduceLeDiff, Nat.reduceMul, Nat.reduceBEq, QXFFaC1] | refine rd0 rfl ?_))
      cases h4 : (ends v.way 0 9 == 7)
      ·have h4' : ends v.way 0 9 ≠ 7 := by simpa using h4
       (repeat (first | simp only [↓QA, QB, Nat.reduceLT, reduceIte, Nat.reduceEqDiff, Nat.reduceAdd, Nat.reduceLeDiff, Nat.reduceMul, Nat.reduceBEq, QXFFaC1, h4] | refine rd0 rfl ?_))
       cases h5 : (ends v.way 0 9 == 0)
       ·have h5' : ends v.way 0 9 ≠ 0 := by simpa using h5
        (repeat (first | simp only [↓QA, QB, Nat.reduceLT, reduceIte, Nat.reduceEqDiff, Nat.reduceAdd, Nat.reduceLeDiff, Nat.reduceMul, Nat.reduceBEq, QXFFaC1, h5] | refine rd0 rfl ?_))
        simp [check2, h2, h3, h4', h5', enc3]
       ·have h5' : ends v.way 0 9 = 0 := by simpa using h5
        have hc : check2 v = check3 v := by simp [check2, h2, h3, h5']
        rw [hc]
        (repeat (first | simp only [↓QA, QB, Nat.reduceLT, reduceIte, Nat.reduceEqDiff, Nat.reduceAdd, Nat.reduceLeDiff, Nat.reduceMul, Nat.reduceBEq, QXFFaC1, h5] | refine rd0 rfl ?_))
        cases h6 : decide ((4 : Int) < (v.plots.length : Int))
        case' true =>
         have h6' : 4 < v.plots.length := by first | (have := of_decide_eq_false h6; omega) | (have := of_decide_eq_true h6; omega)
         (repeat (first | simp only [↓QA, QB, Nat.reduceLT, reduceIte, Nat.reduceEqDiff, Nat.reduceAdd, Nat.reduceLeDiff, Nat.reduceMul, Nat.reduceBEq, QXFFaC1] | refine rd0 rfl ?_))
         simp [check3, h6', enc3]
        have h6' : ¬ 4 < v.plots.length := by first | (have := of_decide_eq_false h6; omega) | (have := of_decide_eq_true h6; omega)
        have hc : check3 v = match firstBad (plErr v) v.plots 0 with | some (i, e) => (3, (i : Int), e) | none => check4 v := by simp only [check3, h6', if_false]; try rfl
        rw [hc]
        have hwe : IntKind.i64.wrap (endOf v - 1) = endOf v - 1 := wrap64 ⟨by simp only [endOf]; omega, by simp only [endOf]; omega⟩
        (repeat (first | simp only [↓QA, QB, Nat.reduceLT, reduceIte, Nat.reduceEqDiff, Nat.reduceAdd, Nat.reduceLeDiff, Nat.reduceMul, Nat.reduceBEq, QXFFaC1] | refine rd0 rfl ?_))
        refine ghostK 8 1 [] rfl ?_
        refine loopE (S := Nat × Bool) (0, false) (fun s => s.1 ≤ v.plots.length ∧ firstBad (plErr v) (v.plots.drop s.1) s.1 = firstBad (plErr v) v.plots 0) (fun s => v.plots.length - s.1)
         (fun s => [(1, .ptr 0 0), (8, .lit (((v.plots.take s.1).map Plot.name).map .str) false (some 1)), (9, .int .i64 s.1)]) (fun s => [.cells (farmCells v), .tok 1 s.1 s.2]) ⟨Nat.zero_le _, by simp⟩ (by simp [farmCells, ints]) ?_ fun s hs => ?_
        ·try simp only [TrimX, QE, Nat.reduceLT, reduceIte, Nat.reduceEqDiff, Nat.reduceAdd, Nat.reduceLeDiff, Nat.reduceMul, Nat.reduceBEq, QXFFaC1]
         try simp
        ·obtain ⟨k, ex⟩ := s
         obtain ⟨hk, hb⟩ := hs
         simp only at hk hb
         have hlen : ((v.plots.take k).map Plot.name).length = k := by simp [hk]
         (repeat (first | simp only [↓QA, QB, Nat.reduceLT, reduceIte, Nat.reduceEqDiff, Nat.reduceAdd, Nat.reduceLeDiff, Nat.reduceMul, Nat.reduceBEq, QXFFaC1, L16_2] | refine rd0 rfl ?_))
         refine iteP_intro (fun hd => ?_) fun hd => ?_
         ·have hk1 : k < v.plots.length := by simpa using hd
          rw [firstBad_step hk1] at hb
          have hw := wrapN hk1 hfp
          have hap := fun (τ : St) => append_str (k := k) (ns := (v.plots.take k).map Plot.name) (s := v.plots[k].name) (b := .cells (farmCells v)) (ex := ex) (τ := τ) hlen (by omega)
          simp only [farmCells_eq] at hap
          have hset : plErr v k v.plots[k] = if fresh v.plots[k].name ((v.plots.take k).map Plot.name) = 0 then plErr2 v v.plots[k] else fresh v.plots[k].name ((v.plots.take k).map Plot.name) := rfl
          have hfre := fresh_ok v.plots[k].name ((v.plots.take k).map Plot.name) (h.names _ (List.getElem_mem hk1)) (by rw [hlen]; omega)
          have htn := take_name hk1
          obtain ⟨p, hpe⟩ : ∃ p, v.plots[k] = p := ⟨_, rfl⟩
          rw [hpe] at hset hap hb htn hfre
          have hset2 : plErr2 v p = if ends p.flower 0 (endOf v - 1) = 7 ∨ inR p.hands 1 99 = false then 7 else ends p.flower 0 (endOf v - 1) := rfl
          obtain ⟨F, hF⟩ : ∃ F, fresh p.name ((v.plots.take k).map Plot.name) = F := ⟨_, rfl⟩
          rw [hF] at hset hfre
          obtain ⟨E, hE⟩ : ∃ E, ends p.flower 0 (endOf v - 1) = E := ⟨_, rfl⟩
          have hen := ends_ok p.flower 0 (endOf v - 1)
          rw [hE] at hset2 hen
          (repeat (first | simp only [↓QA, QB, Nat.reduceLT, reduceIte, Nat.reduceEqDiff, Nat.reduceAdd, Nat.reduceLeDiff, Nat.reduceMul, Nat.reduceBEq, QXFFaC1, hk1, hpe] | refine rd0 rfl ?_))
          ((first | refine callK_s (hfre) (by try simp only [QS, QC, Nat.reduceLT, reduceIte, Nat.reduceEqDiff, Nat.reduceAdd, Nat.reduceLeDiff, Nat.reduceMul, Nat.reduceBEq, QXFFaC1]) trivial ?_ | refine callD_s (hfre) (by try simp only [QS, QC, Nat.reduceLT, reduceIte, Nat.reduceEqDiff, Nat.reduceAdd, Nat.reduceLeDiff, Nat.reduceMul, Nat.reduceBEq, QXFFaC1]) trivial ?_); (repeat (first | simp only [↓QA, QB, Nat.reduceLT, reduceIte, Nat.reduceEqDiff, Nat.reduceAdd, Nat.reduceLeDiff, Nat.reduceMul, Nat.reduceBEq, QXFFaC1, hk1, hpe, hap] | refine rd0 rfl ?_)))
          ((first | refine callK_d (rend_ok v) rfl dd ?_ | refine callD_d (rend_ok v) rfl dd ?_); (repeat (first | simp only [↓QA, QB, Nat.reduceLT, reduceIte, Nat.reduceEqDiff, Nat.reduceAdd, Nat.reduceLeDiff, Nat.reduceMul, Nat.reduceBEq, QXFFaC1, hwe] | refine rd0 rfl ?_)))
          ((first | refine callK_d (hen) rfl dd ?_ | refine callD_d (hen) rfl dd ?_); (repeat (first | simp only [↓QA, QB, Nat.reduceLT, reduceIte, Nat.reduceEqDiff, Nat.reduceAdd, Nat.reduceLeDiff, Nat.reduceMul, Nat.reduceBEq, QXFFaC1, hk1, hpe] | refine rd0 rfl ?_)))
          cases hf : (F == 0)
          ·have hf' : F ≠ 0 := by simpa using hf
           rw [if_neg hf'] at hset
           rw [hset, if_neg hf'] at hb
           rw [← hb]
           (repeat (first | simp only [↓QA, QB, Nat.reduceLT, reduceIte, Nat.reduceEqDiff, Nat.reduceAdd, Nat.reduceLeDiff, Nat.reduceMul, Nat.reduceBEq, QXFFaC1, hf] | refine rd0 rfl ?_))
           rfl
          ·have hf' : F = 0 := by simpa using hf
           rw [if_pos hf', hset2] at hset
           cases h7 : (E == 7)
           ·have h7' : E ≠ 7 := by simpa using h7
            (repeat (first | simp only [↓QA, QB, Nat.reduceLT, reduceIte, Nat.reduceEqDiff, Nat.reduceAdd, Nat.reduceLeDiff, Nat.reduceMul, Nat.reduceBEq, QXFFaC1, hf, h7] | refine rd0 rfl ?_))
            ((first | refine callK_d (in_ok p.hands 1 99) rfl dd ?_ | refine callD_d (in_ok p.hands 1 99) rfl dd ?_); (repeat (first | simp only [↓QA, QB, Nat.reduceLT, reduceIte, Nat.reduceEqDiff, Nat.reduceAdd, Nat.reduceLeDiff, Nat.reduceMul, Nat.reduceBEq, QXFFaC1, hf, h7] | refine rd0 rfl ?_)))
            cases h8 : inR p.hands 1 99
            ·have : plErr v k p = 7 := by rw [hset, if_pos (.inr h8)]
             rw [this] at hb
             (repeat (first | simp only [↓QA, QB, Nat.reduceLT, reduceIte, Nat.reduceEqDiff, Nat.reduceAdd, Nat.reduceLeDiff, Nat.reduceMul, Nat.reduceBEq, QXFFaC1, hf, h7, show ((7 : Int) == 0) = false from rfl] | refine rd0 rfl ?_))
             rw [← hb]
             rfl
            ·have : plErr v k p = E := by rw [hset, if_neg (by simp [h7', h8])]
             rw [this] at hb
             cases h9 : (E == 0)
             ·have h9' : E ≠ 0 := by simpa using h9
              rw [if_neg h9'] at hb
              (repeat (first | simp only [↓QA, QB, Nat.reduceLT, reduceIte, Nat.reduceEqDiff, Nat.reduceAdd, Nat.reduceLeDiff, Nat.reduceMul, Nat.reduceBEq, QXFFaC1, hf, h7, h9] | refine rd0 rfl ?_))
              rw [← hb]
              rfl
             ·have h9' : E = 0 := by simpa using h9
              rw [if_pos h9'] at hb
              (repeat (first | simp only [↓QA, QB, Nat.reduceLT, reduceIte, Nat.reduceEqDiff, Nat.reduceAdd, Nat.reduceLeDiff, Nat.reduceMul, Nat.reduceBEq, QXFFaC1, hf, h7, h9, hw] | refine rd0 rfl ?_))
              refine ⟨(k + 1, true), ⟨by simp only; omega, hb⟩, by simp only; omega, ?_⟩
              try simp only [TrimX, QE, Nat.reduceLT, reduceIte, Nat.reduceEqDiff, Nat.reduceAdd, Nat.reduceLeDiff, Nat.reduceMul, Nat.reduceBEq, QXFFaC1, htn, hw]
              try simp [okBlk]
           ·have h7' : E = 7 := by simpa using h7
            have : plErr v k p = 7 := by rw [hset, if_pos (.inl h7')]
            rw [this] at hb
            (repeat (first | simp only [↓QA, QB, Nat.reduceLT, reduceIte, Nat.reduceEqDiff, Nat.reduceAdd, Nat.reduceLeDiff, Nat.reduceMul, Nat.reduceBEq, QXFFaC1, hf, h7, show ((7 : Int) == 0) = false from rfl] | refine rd0 rfl ?_))
            rw [← hb]
            rfl
         ·have hk1 : k = v.plots.length := by simp at hd; omega
          rw [firstBad_end hk1] at hb
          rw [← hb, hk1]
          (repeat (first | simp only [↓QA, QB, Nat.reduceLT, reduceIte, Nat.reduceEqDiff, Nat.reduceAdd, Nat.reduceLeDiff, Nat.reduceMul, Nat.reduceBEq, QXFFaC1] | refine rd0 rfl ?_))
          cases h7 : decide ((4 : Int) < (v.looks.length : Int))
          case' true =>
           have h7' : 4 < v.looks.length := by first | (have := of_decide_eq_false h7; omega) | (have := of_decide_eq_true h7; omega)
           (repeat (first | simp only [↓QA, QB, Nat.reduceLT, reduceIte, Nat.reduceEqDiff, Nat.reduceAdd, Nat.reduceLeDiff, Nat.reduceMul, Nat.reduceBEq, QXFFaC1] | refine rd0 rfl ?_))
           simp [check4, h7', enc3]
          have h7' : ¬ 4 < v.looks.length := by first | (have := of_decide_eq_false h7; omega) | (have := of_decide_eq_true h7; omega)
          have hc : check4 v = match firstBad (lkErr v) v.looks 0 with | some (i, e) => (4, (i : Int), e) | none => (0, 0, 0) := by simp only [check4, h7', if_false]; try rfl
          rw [hc]
          have hwl : IntKind.i64.wrap ((v.plots.length : Int) - 1) = (v.plots.length : Int) - 1 := wrap64 ⟨by omega, by omega⟩
          (repeat (first | simp only [↓QA, QB, Nat.reduceLT, reduceIte, Nat.reduceEqDiff, Nat.reduceAdd, Nat.reduceLeDiff, Nat.reduceMul, Nat.reduceBEq, QXFFaC1] | refine rd0 rfl ?_))
          refine loopE (S := Nat) 0 (fun k => k ≤ v.looks.length ∧ firstBad (lkErr v) (v.looks.drop k) k = firstBad (lkErr v) v.looks 0) (fun k => v.looks.length - k)
           (fun k => [(1, .ptr 0 0), (13, .int .i64 k)]) (fun _ => [.cells (farmCells v), .tok 1 v.plots.length ex]) ⟨Nat.zero_le _, by simp⟩ (by simp [farmCells, ints]) ?_ fun m hm => ?_
          ·try simp only [TrimX, QE, Nat.reduceLT, reduceIte, Nat.reduceEqDiff, Nat.reduceAdd, Nat.reduceLeDiff, Nat.reduceMul, Nat.reduceBEq, QXFFaC1]
           try simp
          ·obtain ⟨hm, hbm⟩ := hm
           (repeat (first | simp only [↓QA, QB, Nat.reduceLT, reduceIte, Nat.reduceEqDiff, Nat.reduceAdd, Nat.reduceLeDiff, Nat.reduceMul, Nat.reduceBEq, QXFFaC1, L16_4] | refine rd0 rfl ?_))
           refine iteP_intro (fun hd3 => ?_) fun hd3 => ?_
           ·have hm1 : m < v.looks.length := by simpa using hd3
            rw [firstBad_step hm1] at hbm
            have hw3 := wrapN hm1 hfl
            obtain ⟨x, hx⟩ : ∃ x, v.looks[m] = x := ⟨_, rfl⟩
            rw [hx] at hbm
            have hle : lkErr v m x = if inR x.plot 0 ((v.plots.length : Int) - 1) = false then 4 else if inR x.day 0 (endOf v) = false ∨ inR x.points 0 30 = false then 7 else 0 := rfl
            rw [hle] at hbm
            (repeat (first | simp only [↓QA, QB, Nat.reduceLT, reduceIte, Nat.reduceEqDiff, Nat.reduceAdd, Nat.reduceLeDiff, Nat.reduceMul, Nat.reduceBEq, QXFFaC1, hm1, hx, hwl] | refine rd0 rfl ?_))
            ((first | refine callK_d (in_ok x.plot 0 ((v.plots.length : Int) - 1)) rfl dd ?_ | refine callD_d (in_ok x.plot 0 ((v.plots.length : Int) - 1)) rfl dd ?_); (repeat (first | simp only [↓QA, QB, Nat.reduceLT, reduceIte, Nat.reduceEqDiff, Nat.reduceAdd, Nat.reduceLeDiff, Nat.reduceMul, Nat.reduceBEq, QXFFaC1, hm1, hx] | refine rd0 rfl ?_)))
            cases hi : inR x.plot 0 ((v.plots.length : Int) - 1)
            ·rw [hi] at hbm
             (repeat (first | simp only [↓QA, QB, Nat.reduceLT, reduceIte, Nat.reduceEqDiff, Nat.reduceAdd, Nat.reduceLeDiff, Nat.reduceMul, Nat.reduceBEq, QXFFaC1, hm1] | refine rd0 rfl ?_))
             rw [← hbm]
             rfl
            ·rw [hi] at hbm
             simp only [Bool.true_eq_false, if_false] at hbm
             (repeat (first | simp only [↓QA, QB, Nat.reduceLT, reduceIte, Nat.reduceEqDiff, Nat.reduceAdd, Nat.reduceLeDiff, Nat.reduceMul, Nat.reduceBEq, QXFFaC1, hm1, hx] | refine rd0 rfl ?_))
             ((first | refine callK_d (rend_ok v) rfl dd ?_ | refine callD_d (rend_ok v) rfl dd ?_); (repeat (first | simp only [↓QA, QB, Nat.reduceLT, reduceIte, Nat.reduceEqDiff, Nat.reduceAdd, Nat.reduceLeDiff, Nat.reduceMul, Nat.reduceBEq, QXFFaC1, hm1, hx] | refine rd0 rfl ?_)))
             ((first | refine callK_d (in_ok x.day 0 (endOf v)) rfl dd ?_ | refine callD_d (in_ok x.day 0 (endOf v)) rfl dd ?_); (repeat (first | simp only [↓QA, QB, Nat.reduceLT, reduceIte, Nat.reduceEqDiff, Nat.reduceAdd, Nat.reduceLeDiff, Nat.reduceMul, Nat.reduceBEq, QXFFaC1, hm1, hx] | refine rd0 rfl ?_)))
             cases hi2 : inR x.day 0 (endOf v)
             ·rw [hi2] at hbm
              (repeat (first | simp only [↓QA, QB, Nat.reduceLT, reduceIte, Nat.reduceEqDiff, Nat.reduceAdd, Nat.reduceLeDiff, Nat.reduceMul, Nat.reduceBEq, QXFFaC1, hm1] | refine rd0 rfl ?_))
              rw [← hbm]
              simp [enc3]
             ·rw [hi2] at hbm
              (repeat (first | simp only [↓QA, QB, Nat.reduceLT, reduceIte, Nat.reduceEqDiff, Nat.reduceAdd, Nat.reduceLeDiff, Nat.reduceMul, Nat.reduceBEq, QXFFaC1, hm1, hx] | refine rd0 rfl ?_))
              ((first | refine callK_d (in_ok x.points 0 30) rfl dd ?_ | refine callD_d (in_ok x.points 0 30) rfl dd ?_); (repeat (first | simp only [↓QA, QB, Nat.reduceLT, reduceIte, Nat.reduceEqDiff, Nat.reduceAdd, Nat.reduceLeDiff, Nat.reduceMul, Nat.reduceBEq, QXFFaC1, hm1, hx] | refine rd0 rfl ?_)))
              cases hi3 : inR x.points 0 30
              ·rw [hi3] at hbm
               (repeat (first | simp only [↓QA, QB, Nat.reduceLT, reduceIte, Nat.reduceEqDiff, Nat.reduceAdd, Nat.reduceLeDiff, Nat.reduceMul, Nat.reduceBEq, QXFFaC1, hm1] | refine rd0 rfl ?_))
               rw [← hbm]
               simp [enc3]
              ·rw [hi3] at hbm
               (repeat (first | simp only [↓QA, QB, Nat.reduceLT, reduceIte, Nat.reduceEqDiff, Nat.reduceAdd, Nat.reduceLeDiff, Nat.reduceMul, Nat.reduceBEq, QXFFaC1, hm1, hw3] | refine rd0 rfl ?_))
               refine ⟨m + 1, ⟨by omega, by rw [← hbm]; rfl⟩, by omega, ?_⟩
               try simp only [TrimX, QE, Nat.reduceLT, reduceIte, Nat.reduceEqDiff, Nat.reduceAdd, Nat.reduceLeDiff, Nat.reduceMul, Nat.reduceBEq, QXFFaC1, hw3]
               try simp
           ·have hm1 : m = v.looks.length := by simp at hd3; omega
            rw [firstBad_end hm1] at hbm
            rw [← hbm]
            (repeat (first | simp only [↓QA, QB, Nat.reduceLT, reduceIte, Nat.reduceEqDiff, Nat.reduceAdd, Nat.reduceLeDiff, Nat.reduceMul, Nat.reduceBEq, QXFFaC1] | refine rd0 rfl ?_))
            rfl
      ·have h4' : ends v.way 0 9 = 7 := by simpa using h4
       (repeat (first | simp only [↓QA, QB, Nat.reduceLT, reduceIte, Nat.reduceEqDiff, Nat.reduceAdd, Nat.reduceLeDiff, Nat.reduceMul, Nat.reduceBEq, QXFFaC1, h4] | refine rd0 rfl ?_))
       simp [check2, h4', enc3]
theorem T_sapp (m : Nat) : ∀ (σ a b c : St), EqS m (σ ++ a) (σ ++ b) (σ ++ c) = EqS m a b c
 | [], a, b, c => rfl
 | x :: σ, a, b, c => by simp only [List.cons_append, EqS, T_sapp m σ a b c, true_or, true_and, and_self]
theorem and1 (a : Nat) (h : a < 9223372036854775808) : Go.Am.bits .and .i64 (a : Int) 1 = ((a % 2 : Nat) : Int) := by
 have e1 : (BitVec.ofInt 64 (a : Int) &&& BitVec.ofInt 64 1).toNat = a % 2 := by
  rw [BitVec.toNat_and]
  have h1 : (BitVec.ofInt 64 (a : Int)).toNat = a := by
   rw [BitVec.toNat_ofInt]
   omega
  have h2 : (BitVec.ofInt 64 1).toNat = 1 := by decide
  rw [h1, h2, Nat.and_one_is_mod]
 show IntKind.i64.wrap (((BitVec.ofInt 64 (a : Int) &&& BitVec.ofInt 64 1).toNat : Nat) : Int) = _
 rw [e1]
 exact wrap64 ⟨by omega, by omega⟩
theorem V_and1 (a : Nat) (h : a < 9223372036854775808) : binAV .and (.int .i64 (a : Int)) (.int .i64 1) = some (.int .i64 ((a % 2 : Nat) : Int)) := by
 simp [binAV, binInt, and1 a h]
theorem V_shr (a i : Nat) (h : i ≤ 60) : binAV .shr (.int .i64 (a : Int)) (.int .i64 (i : Int)) = some (.int .i64 ((a / 2 ^ i : Nat) : Int)) := by
 have hm : Nat.min i 64 = i := Nat.min_eq_left (by omega)
 have h0 : ¬ (i : Int) < 0 := by omega
 simp only [binAV, h0, if_false, IntKind.bits, Int.toNat_natCast, hm, Option.some.injEq, AV.int.injEq, true_and]
 rw [Int.fdiv_eq_ediv_of_nonneg _ (Int.pow_nonneg (by omega))]
 norm_cast
theorem T_sapp0 (m : Nat) (σ b c : St) : EqS m σ (σ ++ b) (σ ++ c) = EqS m [] b c := by have := T_sapp m σ [] b c; rwa [List.append_nil] at this
def Does (T : FuncId → Option AFunc) (f : AV) (args : List AV) (σ : St) (v : AV) (σ' : St) : Prop := Run T (.callv f args σ) fun o => o.v = v ∧ o.σ = σ'
theorem callK_do {f : AV} {args : List AV} {v : AV} {σ σ' : St} {K : AV → St → Prop} (h : Does T f args σ v σ') (k : K v σ') : cK (K := ⟨K⟩) T f args σ := .mono h fun o ho => by rw [ho.1, ho.2]; exact k
theorem callD_do {f : AV} {args : List AV} {v : AV} {σ σ' : St} {K : AV → St → Prop} (h : Does T f args σ v σ') (k : K v σ') : cD (K := ⟨K⟩) T f args σ := ⟨v, σ', h, k⟩
theorem C_yield (i : Nat) : cellsOk 1 (.yield i) = true := by simp [cellsOk, AV.cells, AV.cell]
theorem K_yield (i : Nat) : (AV.yield i).cells = [.yield i] := by simp [AV.cells]
theorem rK_range {f : AOpd} {g : FuncId} {first cap : List AV} {ps : List Nat} {a b : ACode} {e : Env} {σ : St} {K : KJ} {R : Out → Prop} (hf : f.ev e = .func g first cap)
  (h : Run T (.call g (first ++ [.yield σ.length] ++ cap) (σ ++ [.loop .ready none e ps a b])) R)
  (h1 : ∀ o, R o → ∃ st pend env' ps' a' b', o.σ[σ.length]? = some (.loop st pend env' ps' a' b') ∧ st ≠ .busy ∧ K pend e (o.σ.set σ.length .dead)) : rK (K := ⟨K⟩) T (.rangeFunc f ps a b) e σ := .rangeFunc hf h h1
theorem append_intT {σ : St} {l : List Int} {a : Int} {ex : Bool} {t : Nat} (hn : l.length < 100) (ht : σ[t]? = some (.tok 1 l.length ex)) : appendAV 1 8 σ (.lit (l.map (.int .i64)) false (some t)) (.lit [.int .i64 a] true none) = some (.lit ((l ++ [a]).map (.int .i64)) false (some t), σ.set t (.tok 1 (l.length + 1) true)) := by
 rw [app_tok (ex := ex) ⟨L_allM 1 _ l (fun x => C_int _ _), by simp [allCells, AV.cells, AV.cell], by simp [room]; omega, by simp [room]; omega⟩ (by simp) (by simpa using ht)]
 simp
theorem ok_datas {vs : List AV} (h : Datas vs) (m : Nat) : okVs m vs := okVs_up _ h.1
theorem ok_data {v : AV} (h : Data v) (m : Nat) : okV m v := (ok_datas (datas_cons h datas_nil) m).1
end Go.Am.Room
set_option maxRecDepth 4000
namespace Go.Am.Room
def QXFFaC2 := And.intro @encFarm_eq (And.intro @farmCells_eq (And.intro @encPlot_eq (And.intro @encLook_eq (And.intro @encSpan_eq (And.intro @S_mapPlot (And.intro @S_mapLook (@S_mapSpan)))))))
theorem rl_at {l : List Int} {k : Nat} (h : k < l.length) : rl l k = l[k] := by simp [rl, h]
theorem points_ok (l : List Int) (a d : Nat) (hl : ∀ i, 0 ≤ rl l i ∧ rl l i ≤ 2) (hd : d ≤ l.length) (hd7 : l.length ≤ 7) : Pure T 43 [ints l, .int .i64 a, .int .i64 d] (.int .i64 (pts (rl l) a d)) := by
 refine pure_fn (af := a43) rfl (by simp [a43]) dd ?_
 (repeat (first | simp only [↓QA, QB, Nat.reduceLT, reduceIte, Nat.reduceEqDiff, Nat.reduceAdd, Nat.reduceLeDiff, Nat.reduceMul, Nat.reduceBEq, QXFFaC2, a43] | refine rd0 rfl ?_))
 by_cases ha : a ≤ d
 ·refine loopE (S := Nat) a (fun k => a ≤ k ∧ k ≤ d) (fun k => d - k) (fun k => [(0, ints l), (2, .int .i64 d), (7, .int .i64 (pts (rl l) a k)), (8, .int .i64 k)]) (fun _ => []) ⟨Nat.le_refl _, ha⟩ rfl ?_ fun k hk => ?_
  ·try simp only [TrimX, QE, Nat.reduceLT, reduceIte, Nat.reduceEqDiff, Nat.reduceAdd, Nat.reduceLeDiff, Nat.reduceMul, Nat.reduceBEq, QXFFaC2]
   simp [pts_self]
  ·obtain ⟨h1, h2⟩ := hk
   (repeat (first | simp only [↓QA, QB, Nat.reduceLT, reduceIte, Nat.reduceEqDiff, Nat.reduceAdd, Nat.reduceLeDiff, Nat.reduceMul, Nat.reduceBEq, QXFFaC2, L43_0] | refine rd0 rfl ?_))
   refine iteP_intro (fun h => ?_) fun h => ?_
   ·have hk1 : k < d := by simpa using h
    have hk2 : k < l.length := by omega
    have hw := wrapN hk1 (by omega)
    have hb := pts_bd hl a k
    have hs := pts_step (rl l) h1
    have he := rl_at hk2
    have hr := hl k
    obtain ⟨P, hP⟩ : ∃ P, pts (rl l) a k = P := ⟨_, rfl⟩
    obtain ⟨R, hR⟩ : ∃ R, rl l k = R := ⟨_, rfl⟩
    rw [hP] at hb hs
    rw [hR] at he hs hr
    have w1 : IntKind.i64.wrap (P + 1) = P + 1 := wrap64 ⟨by omega, by omega⟩
    have w2 : IntKind.i64.wrap (P + 1 + R) = P + 1 + R := wrap64 ⟨by omega, by omega⟩
    have hs2 : pts (rl l) a (k + 1) = P + 1 + R := by omega
    rw [hP]
    (repeat (first | simp only [↓QA, QB, Nat.reduceLT, reduceIte, Nat.reduceEqDiff, Nat.reduceAdd, Nat.reduceLeDiff, Nat.reduceMul, Nat.reduceBEq, QXFFaC2, hk2, ← he, w1, w2] | refine rd0 rfl ?_))
    refine ⟨k + 1, ⟨by omega, by omega⟩, by omega, ?_⟩
    try simp only [TrimX, QE, Nat.reduceLT, reduceIte, Nat.reduceEqDiff, Nat.reduceAdd, Nat.reduceLeDiff, Nat.reduceMul, Nat.reduceBEq, QXFFaC2, hw, hs2]
   ·have hk1 : k = d := by simp at h; omega
    subst hk1
    (repeat (first | simp only [↓QA, QB, Nat.reduceLT, reduceIte, Nat.reduceEqDiff, Nat.reduceAdd, Nat.reduceLeDiff, Nat.reduceMul, Nat.reduceBEq, QXFFaC2] | refine rd0 rfl ?_))
 ·have hlt : decide ((a : Int) < (d : Int)) = false := by simp; omega
  rw [pts_lt (rl l) (by omega)]
  refine loopE (S := Unit) () (fun _ => True) (fun _ => 0) (fun _ => [(0, ints l), (2, .int .i64 d), (7, .int .i64 0), (8, .int .i64 a)]) (fun _ => []) trivial rfl ?_ fun _ _ => ?_
  ·try simp only [TrimX, QE, Nat.reduceLT, reduceIte, Nat.reduceEqDiff, Nat.reduceAdd, Nat.reduceLeDiff, Nat.reduceMul, Nat.reduceBEq, QXFFaC2]
   try simp
  ·(repeat (first | simp only [↓QA, QB, Nat.reduceLT, reduceIte, Nat.reduceEqDiff, Nat.reduceAdd, Nat.reduceLeDiff, Nat.reduceMul, Nat.reduceBEq, QXFFaC2, L43_0, hlt] | refine rd0 rfl ?_))
theorem ways_step {a b : Int} (h : a ≤ b) : numbers a (b + 1 - a).toNat = a :: numbers (a + 1) (b + 1 - (a + 1)).toNat := by
 have : (b + 1 - a).toNat = (b + 1 - (a + 1)).toNat + 1 := by omega
 rw [this, numbers]
theorem ways_end {a b : Int} (h : ¬ a ≤ b) : numbers a (b + 1 - a).toNat = [] := by
 have : (b + 1 - a).toNat = 0 := by omega
 rw [this, numbers]
end Go.Am.Room
set_option maxRecDepth 4000
namespace Go.Am.Room
def flowerUpTo (v : Farm) (plot : Int) (rain but : List Int) (d : Int) (n : Nat) : Bool := (List.range n).all fun k => match v.looks[k]? with | some x => lookOk plot but rain d k x | none => true
theorem flowerUpTo_succ {v : Farm} {k : Nat} (hk : k < v.looks.length) (plot : Int) (rain but : List Int) (d : Int) : flowerUpTo v plot rain but d (k + 1) = (flowerUpTo v plot rain but d k && lookOk plot but rain d k v.looks[k]) := by
 simp [flowerUpTo, List.range_succ, List.all_append, hk]
end Go.Am.Room
set_option maxRecDepth 4000
namespace Go.Am.Room
def flTo (v : Farm) (rain but : List Int) (k : Nat) : List (List Int) := (List.range k).map fun (p : Nat) => flowersOf v p rain but
def allFl (v : Farm) (rain but : List Int) (k : Nat) : Bool := (flTo v rain but k).all fun x => !x.isEmpty
theorem truthOf_eq (v : Farm) (but rain : List Int) : truthOf v but rain = if allFl v rain but v.plots.length = true then some ⟨rain, flTo v rain but v.plots.length⟩ else none := rfl
theorem foldl_join : ∀ (l : List Int) (s : Span), s.lo ≤ s.hi → (l.foldl join s).lo ≤ s.lo ∧ s.hi ≤ (l.foldl join s).hi ∧ (∀ x ∈ l, (l.foldl join s).lo ≤ x ∧ x ≤ (l.foldl join s).hi) ∧ ((l.foldl join s).lo = s.lo ∨ (l.foldl join s).lo ∈ l) ∧ ((l.foldl join s).hi = s.hi ∨ (l.foldl join s).hi ∈ l)
 | [], s, h => ⟨Int.le_refl _, Int.le_refl _, fun x hx => by simp at hx, .inl rfl, .inl rfl⟩
 | y :: l, s, h => by
  have hj : (join s y).lo ≤ (join s y).hi := by simp only [join]; omega
  obtain ⟨a, b, c, d, e⟩ := foldl_join l (join s y) hj
  simp only [List.foldl_cons]
  have h1 : (join s y).lo ≤ s.lo ∧ (join s y).lo ≤ y ∧ ((join s y).lo = s.lo ∨ (join s y).lo = y) := by simp only [join]; omega
  have h2 : s.hi ≤ (join s y).hi ∧ y ≤ (join s y).hi ∧ ((join s y).hi = s.hi ∨ (join s y).hi = y) := by simp only [join]; omega
  refine ⟨by omega, by omega, fun x hx => ?_, ?_, ?_⟩
  ·rcases List.mem_cons.1 hx with rfl | hx
   ·omega
   ·exact c x hx
  ·rcases d with d | d
   ·rcases h1.2.2 with h | h
    ·left; omega
    ·right; rw [d, h]; simp
   ·right; simp [d]
  ·rcases e with e | e
   ·rcases h2.2.2 with h | h
    ·left; omega
    ·right; rw [e, h]; simp
   ·right; simp [e]
theorem spanL_spec {l : List Int} (h : l ≠ []) : (spanL l).lo ∈ l ∧ (spanL l).hi ∈ l ∧ ∀ x ∈ l, (spanL l).lo ≤ x ∧ x ≤ (spanL l).hi := by
 cases l with
 | nil => exact absurd rfl h
 | cons x l =>
  obtain ⟨a, b, c, d, e⟩ := foldl_join l ⟨x, x⟩ (Int.le_refl _)
  simp only [spanL]
  refine ⟨?_, ?_, fun y hy => ?_⟩
  ·rcases d with d | d
   ·rw [d]; simp
   ·simp [d]
  ·rcases e with e | e
   ·rw [e]; simp
   ·simp [e]
  ·rcases List.mem_cons.1 hy with rfl | hy
   ·exact ⟨a, b⟩
   ·exact c y hy
theorem filter_len {α : Type} {p : α → Bool} {l : List α} : (l.filter p).length = l.length ↔ ∀ x ∈ l, p x = true := by
 rw [List.length_filter_eq_length_iff]
theorem settled_one {α : Type} {p : α → Bool} {l : List α} : settled (l.filter p).length l.length = 1 ↔ ∀ x ∈ l, p x = true := by
 rw [← filter_len]
 unfold settled
 split
 ·rename_i h; simp [h]
 ·rename_i h
  split
  ·simp [h]
  ·simp [h]
theorem settled_two {α : Type} {p : α → Bool} {l : List α} : settled (l.filter p).length l.length = 2 ↔ l ≠ [] ∧ ∀ x ∈ l, p x = false := by
 unfold settled
 split
 ·rename_i h
  simp only [show ¬ (1 : Int) = 2 by omega, false_iff]
  rintro ⟨h1, h2⟩
  rw [filter_len] at h
  cases l with
  | nil => exact h1 rfl
  | cons x l =>
   have a := h x (by simp)
   have b := h2 x (by simp)
   rw [a] at b; cases b
 ·rename_i h
  split
  ·rename_i h0
   simp only [true_iff]
   refine ⟨fun e => ?_, fun x hx => ?_⟩
   ·subst e; simp at h
   ·have := List.eq_nil_of_length_eq_zero h0
    rw [List.filter_eq_nil_iff] at this
    simpa using this x hx
  ·rename_i h0
   simp only [show ¬ (0 : Int) = 2 by omega, false_iff]
   rintro ⟨h1, h2⟩
   apply h0
   rw [List.length_eq_zero_iff, List.filter_eq_nil_iff]
   intro x hx
   simp [h2 x hx]
theorem settled_cases (a b : Nat) : settled a b = 0 ∨ settled a b = 1 ∨ settled a b = 2 := by
 unfold settled; split
 ·simp
 ·split <;> simp
end Go.Am.Room
set_option maxRecDepth 4000
namespace Go.Am.Room
def encSE (x : Span × Int) : AV := .tuple [encSpan x.1, .int .i64 x.2]
def encLE (x : List Int × Int) : AV := .tuple [ints x.1, .int .i64 x.2]
def encIE (x : Int × Int) : AV := .tuple [.int .i64 x.1, .int .i64 x.2]
def encLLE (x : List Int × List Int × Int) : AV := .tuple [ints x.1, ints x.2.1, .int .i64 x.2.2]
theorem errAsk_ok {v : Farm} {n : Int} (h : errAsk v n = 0) : Vd v ∧ 0 ≤ n ∧ n < v.plots.length := by
 unfold errAsk at h
 split at h
 ·rename_i h0
  split at h
  ·rename_i h1; have := inR_iff.1 h1; exact ⟨vd_of_check h0, by omega, by omega⟩
  ·omega
 ·rename_i h0; exact absurd h h0
theorem within_ok {n most e : Int} (h : within n most e = 0) : e = 0 ∧ 0 ≤ n ∧ n ≤ most := by
 unfold within at h
 split at h
 ·rename_i h0
  split at h
  ·rename_i h1; exact ⟨h0, inR_iff.1 h1⟩
  ·omega
 ·rename_i h0; exact absurd h h0
theorem errKnown_ok {v : Farm} {e : Int} (h : errKnown v e = 0) : e = 0 ∧ truths v [] ≠ [] := by
 unfold errKnown at h
 split at h
 ·rename_i h0
  split at h
  ·omega
  ·rename_i h1; exact ⟨h0, by simpa using h1⟩
 ·rename_i h0; exact absurd h h0
def ptsT (t : Truth) (d : Nat) (h : Int) : Int := ptsL t.rain h d
end Go.Am.Room
set_option maxRecDepth 4000
namespace Go.Am.Room
theorem ptsT_bd {v : Farm} (hv : Vd v) {t : Truth} (ht : TOk v t) {d : Nat} (hd : d ≤ v.rain.length) (h : Int) : 0 ≤ ptsT t d h ∧ ptsT t d h ≤ 21 := by
 have hb := pts_bd (rain_bd hv ht.rain) h.toNat d
 have := hv.nra
 simp only [ptsT, ptsL, Int.toNat_natCast]
 omega
theorem fullIn_bd {v : Farm} (hv : Vd v) {l : List Truth} (hl : ∀ t ∈ l, TOk v t) {d : Nat} (hd : d ≤ v.rain.length) (p : Nat) : ∀ n ∈ fullIn l p d, 0 ≤ n ∧ n ≤ 21 := by
 intro n hn
 simp only [fullIn, List.mem_flatMap, List.mem_map] at hn
 obtain ⟨t, ht, h, _, rfl⟩ := hn
 exact ptsT_bd hv (hl t ht) hd h
theorem fullIn_ne {v : Farm} {l : List Truth} (hl : ∀ t ∈ l, TOk v t) (hne : l ≠ []) {p : Nat} (hp : p < v.plots.length) (d : Nat) : fullIn l p d ≠ [] := by
 cases l with
 | nil => exact absurd rfl hne
 | cons t l =>
  have := ((hl t (by simp)).fl p hp).1
  cases hf : flAt t p with
  | nil => exact absurd hf this
  | cons a b => simp [fullIn, hf]
theorem fullS_bd {v : Farm} (hv : Vd v) {l : List Truth} (hl : ∀ t ∈ l, TOk v t) (hne : l ≠ []) {p d : Nat} (hp : p < v.plots.length) (hd : d ≤ v.rain.length) : 0 ≤ (fullS l p d).lo ∧ (fullS l p d).lo ≤ (fullS l p d).hi ∧ (fullS l p d).hi ≤ 21 := by
 have hs := spanL_spec (fullIn_ne hl hne hp d)
 have h1 := fullIn_bd hv hl hd p _ hs.1
 have h2 := fullIn_bd hv hl hd p _ hs.2.1
 have h3 := hs.2.2 _ hs.1
 simp only [fullS]
 omega
end Go.Am.Room
set_option maxRecDepth 4000
namespace Go.Am.Room
def idxOf {α : Type} (p : α → Bool) : List α → Nat → Int
 | [], _ => -1
 | x :: xs, k => if p x then k else idxOf p xs (k + 1)
theorem idxOf_any {α : Type} (p : α → Bool) : ∀ (l : List α) (k : Nat), decide (0 ≤ idxOf p l k) = l.any p
 | [], k => by simp [idxOf]
 | x :: xs, k => by
  cases h : p x
  ·simp [idxOf, h, idxOf_any p xs (k + 1)]
  ·simp [idxOf, h]
theorem index_int (σ : St) (f : AV) (l : List Int) (p : Int → Bool) (hl : l.length < 9223372036854775808) (hk : Keeps σ f) (h : ∀ x ∈ l, Same T f [.int .i64 x] σ (.bool (p x))) : Same T (.func 103 [] []) [ints l, f] σ (.int .i64 (idxOf p l 0)) := by
 refine same_fn (af := a103) rfl (by simp [a103]) ?_
 have hk0 := hk.nil
 (repeat (first | simp only [↓QA, QB, Nat.reduceLT, reduceIte, Nat.reduceEqDiff, Nat.reduceAdd, Nat.reduceLeDiff, Nat.reduceMul, Nat.reduceBEq, a103] | refine rd0 rfl ?_))
 refine loopE (S := Nat) 0 (fun k => k ≤ l.length ∧ idxOf p (l.drop k) k = idxOf p l 0) (fun k => l.length - k) (fun k => [(0, ints l), (1, f), (7, .int .i64 l.length), (8, .int .i64 k)]) (fun _ => σ) ⟨Nat.zero_le _, by simp⟩ rfl ?_ fun k hk1 => ?_
 ·try simp only [TrimX, QE, Nat.reduceLT, reduceIte, Nat.reduceEqDiff, Nat.reduceAdd, Nat.reduceLeDiff, Nat.reduceMul, Nat.reduceBEq]
  try simp
 ·obtain ⟨hkl, hi⟩ := hk1
  (repeat (first | simp only [↓QA, QB, Nat.reduceLT, reduceIte, Nat.reduceEqDiff, Nat.reduceAdd, Nat.reduceLeDiff, Nat.reduceMul, Nat.reduceBEq, L103_0] | refine rd0 rfl ?_))
  refine iteP_intro (fun hd => ?_) fun hd => ?_
  ·have hlt : k < l.length := by simpa using hd
   rw [List.drop_eq_getElem_cons hlt] at hi
   simp only [idxOf] at hi
   have hw := wrapN hlt hl
   (repeat (first | simp only [↓QA, QB, Nat.reduceLT, reduceIte, Nat.reduceEqDiff, Nat.reduceAdd, Nat.reduceLeDiff, Nat.reduceMul, Nat.reduceBEq, hlt] | refine rd0 rfl ?_))
   refine callK_same (h l[k] (List.getElem_mem hlt)) ?_
   (repeat (first | simp only [↓QA, QB, Nat.reduceLT, reduceIte, Nat.reduceEqDiff, Nat.reduceAdd, Nat.reduceLeDiff, Nat.reduceMul, Nat.reduceBEq] | refine rd0 rfl ?_))
   cases hp : p l[k]
   ·(repeat (first | simp only [↓QA, QB, Nat.reduceLT, reduceIte, Nat.reduceEqDiff, Nat.reduceAdd, Nat.reduceLeDiff, Nat.reduceMul, Nat.reduceBEq, hw] | refine rd0 rfl ?_))
    refine ⟨k + 1, ⟨by omega, by rw [← hi, hp]; rfl⟩, by omega, ?_⟩
    try simp only [TrimX, QE, Nat.reduceLT, reduceIte, Nat.reduceEqDiff, Nat.reduceAdd, Nat.reduceLeDiff, Nat.reduceMul, Nat.reduceBEq, hw, hk0, Nat.le_refl]
   ·(repeat (first | simp only [↓QA, QB, Nat.reduceLT, reduceIte, Nat.reduceEqDiff, Nat.reduceAdd, Nat.reduceLeDiff, Nat.reduceMul, Nat.reduceBEq] | refine rd0 rfl ?_))
    refine baseR [] (by first | rfl | simp) ?_
    rw [← hi, hp]
    try simp only [QS, QC, Nat.reduceLT, reduceIte, Nat.reduceEqDiff, Nat.reduceAdd, Nat.reduceLeDiff, Nat.reduceMul, Nat.reduceBEq]
  ·have hlt : k = l.length := by simp at hd; omega
   (repeat (first | simp only [↓QA, QB, Nat.reduceLT, reduceIte, Nat.reduceEqDiff, Nat.reduceAdd, Nat.reduceLeDiff, Nat.reduceMul, Nat.reduceBEq] | refine rd0 rfl ?_))
   refine baseR [] (by first | rfl | simp) ?_
   rw [← hi, hlt, List.drop_length]
   try simp only [QS, QC, Nat.reduceLT, reduceIte, Nat.reduceEqDiff, Nat.reduceAdd, Nat.reduceLeDiff, Nat.reduceMul, Nat.reduceBEq, idxOf]
theorem contains_int (σ : St) (f : AV) (l : List Int) (p : Int → Bool) (hl : l.length < 9223372036854775808) (hk : Keeps σ f) (h : ∀ x ∈ l, Same T f [.int .i64 x] σ (.bool (p x))) : Same T (.func 90 [] []) [ints l, f] σ (.bool (l.any p)) := by
 refine same_fn (af := a90) rfl (by simp [a90]) ?_
 (repeat (first | simp only [↓QA, QB, Nat.reduceLT, reduceIte, Nat.reduceEqDiff, Nat.reduceAdd, Nat.reduceLeDiff, Nat.reduceMul, Nat.reduceBEq, a90] | refine rd0 rfl ?_))
 refine callK_same (index_int σ f l p hl hk h) ?_
 (repeat (first | simp only [↓QA, QB, Nat.reduceLT, reduceIte, Nat.reduceEqDiff, Nat.reduceAdd, Nat.reduceLeDiff, Nat.reduceMul, Nat.reduceBEq] | refine rd0 rfl ?_))
 refine baseR [] (by first | rfl | simp) ?_
 rw [← idxOf_any p l 0]
 try simp only [QS, QC, Nat.reduceLT, reduceIte, Nat.reduceEqDiff, Nat.reduceAdd, Nat.reduceLeDiff, Nat.reduceMul, Nat.reduceBEq]
def outside (lo hi n : Int) : Bool := decide (n < lo) || decide (hi < n)
theorem beyond1_ok (lo hi n : Int) : Same T (.func 91 [] [.ptr 0 0, .ptr 1 0]) [.int .i64 n] [.cells [.int .i64 lo], .cells [.int .i64 hi]] (.bool (outside lo hi n)) := by
 refine same_fn (af := a91) rfl (by simp [a91]) ?_
 (repeat (first | simp only [↓QA, QB, Nat.reduceLT, reduceIte, Nat.reduceEqDiff, Nat.reduceAdd, Nat.reduceLeDiff, Nat.reduceMul, Nat.reduceBEq, a91] | refine rd0 rfl ?_))
 refine iteP_intro (fun h => ?_) fun h => ?_
 all_goals
  (repeat (first | simp only [↓QA, QB, Nat.reduceLT, reduceIte, Nat.reduceEqDiff, Nat.reduceAdd, Nat.reduceLeDiff, Nat.reduceMul, Nat.reduceBEq, h] | refine rd0 rfl ?_))
  refine baseR [] (by first | rfl | simp) ?_
  try simp only [QS, QC, Nat.reduceLT, reduceIte, Nat.reduceEqDiff, Nat.reduceAdd, Nat.reduceLeDiff, Nat.reduceMul, Nat.reduceBEq, outside, h]
  try simp
def beyond (lo hi : Int) (ns : List Int) : Bool := ns.any (outside lo hi)
theorem beyond_ok (lo hi : Int) (ns : List Int) (hl : ns.length < 9223372036854775808) : Pure T 55 [.int .i64 lo, .int .i64 hi, ints ns] (.bool (beyond lo hi ns)) := by
 refine pure_fn (af := a55) rfl (by simp [a55]) dd ?_
 (repeat (first | simp only [↓QA, QB, Nat.reduceLT, reduceIte, Nat.reduceEqDiff, Nat.reduceAdd, Nat.reduceLeDiff, Nat.reduceMul, Nat.reduceBEq, a55] | refine rd0 rfl ?_))
 refine callK_same (contains_int _ _ ns (outside lo hi) hl (fun τ => ?_) fun x _ => beyond1_ok lo hi x) ?_
 ·try simp only [QS, QC, Nat.reduceLT, reduceIte, Nat.reduceEqDiff, Nat.reduceAdd, Nat.reduceLeDiff, Nat.reduceMul, Nat.reduceBEq]
 ·(repeat (first | simp only [↓QA, QB, Nat.reduceLT, reduceIte, Nat.reduceEqDiff, Nat.reduceAdd, Nat.reduceLeDiff, Nat.reduceMul, Nat.reduceBEq, beyond] | refine rd0 rfl ?_))
theorem off1_ok (lo hi n : Int) : Same T (.func 104 [] [.ptr 0 0, .ptr 1 0]) [.int .i64 n] [.cells [.int .i64 lo], .cells [.int .i64 hi]] (.bool (outside lo hi n)) := by
 refine same_fn (af := a104) rfl (by simp [a104]) ?_
 (repeat (first | simp only [↓QA, QB, Nat.reduceLT, reduceIte, Nat.reduceEqDiff, Nat.reduceAdd, Nat.reduceLeDiff, Nat.reduceMul, Nat.reduceBEq, a104] | refine rd0 rfl ?_))
 refine iteP_intro (fun h => ?_) fun h => ?_
 all_goals
  (repeat (first | simp only [↓QA, QB, Nat.reduceLT, reduceIte, Nat.reduceEqDiff, Nat.reduceAdd, Nat.reduceLeDiff, Nat.reduceMul, Nat.reduceBEq, h] | refine rd0 rfl ?_))
  refine baseR [] (by first | rfl | simp) ?_
  try simp only [QS, QC, Nat.reduceLT, reduceIte, Nat.reduceEqDiff, Nat.reduceAdd, Nat.reduceLeDiff, Nat.reduceMul, Nat.reduceBEq, outside, h]
  try simp
theorem off_ok (lo hi : Int) (ns : List Int) (hl : ns.length < 9223372036854775808) : Pure T 92 [.int .i64 lo, .int .i64 hi, ints ns] (.bool (beyond lo hi ns)) := by
 refine pure_fn (af := a92) rfl (by simp [a92]) dd ?_
 (repeat (first | simp only [↓QA, QB, Nat.reduceLT, reduceIte, Nat.reduceEqDiff, Nat.reduceAdd, Nat.reduceLeDiff, Nat.reduceMul, Nat.reduceBEq, a92] | refine rd0 rfl ?_))
 refine callK_same (contains_int _ _ ns (outside lo hi) hl (fun τ => ?_) fun x _ => off1_ok lo hi x) ?_
 ·try simp only [QS, QC, Nat.reduceLT, reduceIte, Nat.reduceEqDiff, Nat.reduceAdd, Nat.reduceLeDiff, Nat.reduceMul, Nat.reduceBEq]
 ·(repeat (first | simp only [↓QA, QB, Nat.reduceLT, reduceIte, Nat.reduceEqDiff, Nat.reduceAdd, Nat.reduceLeDiff, Nat.reduceMul, Nat.reduceBEq, beyond] | refine rd0 rfl ?_))
theorem okUpTo_mono (s : ByteArray) : ∀ n k, k ≤ n → okUpTo s k = false → okUpTo s n = false
  | 0, k, h, h1 => by have : k = 0 := by omega
                      subst this; exact h1
  | n + 1, k, h, h1 => by
    by_cases hk : k = n + 1
    · subst hk; exact h1
    · simp [okUpTo, okUpTo_mono s n k (by omega) h1]
theorem beyond1 (lo hi n : Int) : beyond lo hi [n] = !inR n lo hi := by
 rw [Bool.eq_iff_iff]; simp [beyond, outside, inR]
theorem beyond2 (lo hi n m : Int) : beyond lo hi [n, m] = (!inR n lo hi || !inR m lo hi) := by
 rw [Bool.eq_iff_iff]; simp [beyond, outside, inR]
theorem handname_ok (s : ByteArray) (hs : s.size < 9223372036854775808) : Pure T 61 [.str s] (.bool (nameOk s)) := by
 refine pure_fn (af := a61) rfl (by simp [a61]) dd ?_
 (repeat (first | simp only [↓QA, QB, Nat.reduceLT, reduceIte, Nat.reduceEqDiff, Nat.reduceAdd, Nat.reduceLeDiff, Nat.reduceMul, Nat.reduceBEq, a61] | refine rd0 rfl ?_))
 refine loopE (S := Nat) 0 (fun k => k ≤ s.size ∧ okUpTo s k = true) (fun k => s.size - k) (fun k => [(0, .str s), (7, .ptr 0 0)]) (fun k => [.siter s k]) ⟨Nat.zero_le _, rfl⟩ rfl ?_ fun k hk => ?_
 ·try simp only [TrimX, QE, Nat.reduceLT, reduceIte, Nat.reduceEqDiff, Nat.reduceAdd, Nat.reduceLeDiff, Nat.reduceMul, Nat.reduceBEq]
  try simp
 ·obtain ⟨hkl, hok⟩ := hk
  by_cases hk1 : k < s.size
  ·obtain ⟨R, hR⟩ : ∃ R : Int, ((Utf8.decode s k).1 : Int) = R := ⟨_, rfl⟩
   obtain ⟨W, hW⟩ : ∃ W, (Utf8.decode s k).2 = W := ⟨_, rfl⟩
   have hstep : okUpTo s (k + 1) = okByte k (byteAt s k) := by simp [okUpTo, hok]
   have hbl := byteAt_lt s k
   have key : (97 ≤ R ∧ R ≤ 122 ∨ 0 < k ∧ (R = 46 ∨ 48 ≤ R ∧ R ≤ 57)) → W = 1 ∧ okUpTo s (k + 1) = true := by
    intro h
    by_cases hb : byteAt s k < 128
    ·have := byteAt_ascii hk1 hb
     rw [this] at hR hW
     have hR' : R = byteAt s k := by simp at hR; omega
     refine ⟨hW.symm, ?_⟩
     rw [hstep, okByte, ← hR']
     simp [inR]
     omega
    ·have := byteAt_high hk1 (by omega)
     omega
   have key2 : ¬ (97 ≤ R ∧ R ≤ 122 ∨ 0 < k ∧ (R = 46 ∨ 48 ≤ R ∧ R ≤ 57)) → nameOk s = false := by
    intro h
    have : okUpTo s (k + 1) = false := by
     rw [hstep, okByte]
     by_cases hb : byteAt s k < 128
     ·have := byteAt_ascii hk1 hb
      rw [this] at hR hW
      have hR' : R = byteAt s k := by simp at hR; omega
      rw [← hR']
      simp [inR]
      omega
     ·simp [inR]; omega
    simp [nameOk, okUpTo_mono s s.size (k + 1) (by omega) this]
   have go : ∀ (e : Env), W = 1 ∧ okUpTo s (k + 1) = true → Env.get e 0 = .str s → Env.get e 7 = .ptr 0 0 → ∃ s', (s' ≤ s.size ∧ okUpTo s s' = true) ∧ s.size - s' < s.size - k ∧ TrimX [.siter s k] e [.siter s (k + W)] [(0, .str s), (7, .ptr 0 0)] [.siter s s'] := by
    intro e h e0 e7
    refine ⟨k + 1, ⟨by omega, h.2⟩, by omega, ?_⟩
    try simp only [TrimX, QE, Nat.reduceLT, reduceIte, Nat.reduceEqDiff, Nat.reduceAdd, Nat.reduceLeDiff, Nat.reduceMul, Nat.reduceBEq, e0, e7, h.1]
    try simp [okBlk]
   (repeat (first | simp only [↓QA, QB, Nat.reduceLT, reduceIte, Nat.reduceEqDiff, Nat.reduceAdd, Nat.reduceLeDiff, Nat.reduceMul, Nat.reduceBEq, L61_0, V_snextT hk1, hR, hW] | refine rd0 rfl ?_))
   cases h1 : decide (97 ≤ R)
   ·have h1' : ¬ 97 ≤ R := by simpa using h1
    (repeat (first | simp only [↓QA, QB, Nat.reduceLT, reduceIte, Nat.reduceEqDiff, Nat.reduceAdd, Nat.reduceLeDiff, Nat.reduceMul, Nat.reduceBEq, h1] | refine rd0 rfl ?_))
    cases h3 : ((k : Int) == 0)
    ·have h3' : 0 < k := by simp at h3; omega
     (repeat (first | simp only [↓QA, QB, Nat.reduceLT, reduceIte, Nat.reduceEqDiff, Nat.reduceAdd, Nat.reduceLeDiff, Nat.reduceMul, Nat.reduceBEq, h3] | refine rd0 rfl ?_))
     cases h4 : (R == 46)
     ·have h4' : R ≠ 46 := by simpa using h4
      (repeat (first | simp only [↓QA, QB, Nat.reduceLT, reduceIte, Nat.reduceEqDiff, Nat.reduceAdd, Nat.reduceLeDiff, Nat.reduceMul, Nat.reduceBEq, h4] | refine rd0 rfl ?_))
      cases h5 : decide (R < 48)
      ·have h5' : ¬ R < 48 := by simpa using h5
       (repeat (first | simp only [↓QA, QB, Nat.reduceLT, reduceIte, Nat.reduceEqDiff, Nat.reduceAdd, Nat.reduceLeDiff, Nat.reduceMul, Nat.reduceBEq, h5] | refine rd0 rfl ?_))
       cases h6 : decide (57 < R)
       ·have h6' : ¬ 57 < R := by simpa using h6
        (repeat (first | simp only [↓QA, QB, Nat.reduceLT, reduceIte, Nat.reduceEqDiff, Nat.reduceAdd, Nat.reduceLeDiff, Nat.reduceMul, Nat.reduceBEq, h6] | refine rd0 rfl ?_))
        exact go _ (key (by omega)) (by try simp only [TrimX, QE, Nat.reduceLT, reduceIte, Nat.reduceEqDiff, Nat.reduceAdd, Nat.reduceLeDiff, Nat.reduceMul, Nat.reduceBEq]) (by try simp only [TrimX, QE, Nat.reduceLT, reduceIte, Nat.reduceEqDiff, Nat.reduceAdd, Nat.reduceLeDiff, Nat.reduceMul, Nat.reduceBEq])
       ·have h6' : 57 < R := by simpa using h6
        rw [key2 (by omega)]
        (repeat (first | simp only [↓QA, QB, Nat.reduceLT, reduceIte, Nat.reduceEqDiff, Nat.reduceAdd, Nat.reduceLeDiff, Nat.reduceMul, Nat.reduceBEq, h6] | refine rd0 rfl ?_))
      ·have h5' : R < 48 := by simpa using h5
       rw [key2 (by omega)]
       (repeat (first | simp only [↓QA, QB, Nat.reduceLT, reduceIte, Nat.reduceEqDiff, Nat.reduceAdd, Nat.reduceLeDiff, Nat.reduceMul, Nat.reduceBEq, h5] | refine rd0 rfl ?_))
     ·have h4' : R = 46 := by simpa using h4
      (repeat (first | simp only [↓QA, QB, Nat.reduceLT, reduceIte, Nat.reduceEqDiff, Nat.reduceAdd, Nat.reduceLeDiff, Nat.reduceMul, Nat.reduceBEq, h4] | refine rd0 rfl ?_))
      exact go _ (key (by omega)) (by try simp only [TrimX, QE, Nat.reduceLT, reduceIte, Nat.reduceEqDiff, Nat.reduceAdd, Nat.reduceLeDiff, Nat.reduceMul, Nat.reduceBEq]) (by try simp only [TrimX, QE, Nat.reduceLT, reduceIte, Nat.reduceEqDiff, Nat.reduceAdd, Nat.reduceLeDiff, Nat.reduceMul, Nat.reduceBEq])
    ·have h3' : k = 0 := by simp at h3; omega
     rw [key2 (by omega)]
     (repeat (first | simp only [↓QA, QB, Nat.reduceLT, reduceIte, Nat.reduceEqDiff, Nat.reduceAdd, Nat.reduceLeDiff, Nat.reduceMul, Nat.reduceBEq, h3] | refine rd0 rfl ?_))
   ·have h1' : 97 ≤ R := by simpa using h1
    (repeat (first | simp only [↓QA, QB, Nat.reduceLT, reduceIte, Nat.reduceEqDiff, Nat.reduceAdd, Nat.reduceLeDiff, Nat.reduceMul, Nat.reduceBEq, h1] | refine rd0 rfl ?_))
    cases h2 : decide (R ≤ 122)
    ·have h2' : ¬ R ≤ 122 := by simpa using h2
     (repeat (first | simp only [↓QA, QB, Nat.reduceLT, reduceIte, Nat.reduceEqDiff, Nat.reduceAdd, Nat.reduceLeDiff, Nat.reduceMul, Nat.reduceBEq, h2] | refine rd0 rfl ?_))
     cases h3 : ((k : Int) == 0)
     ·have h3' : 0 < k := by simp at h3; omega
      (repeat (first | simp only [↓QA, QB, Nat.reduceLT, reduceIte, Nat.reduceEqDiff, Nat.reduceAdd, Nat.reduceLeDiff, Nat.reduceMul, Nat.reduceBEq, h3] | refine rd0 rfl ?_))
      cases h4 : (R == 46)
      ·have h4' : R ≠ 46 := by simpa using h4
       (repeat (first | simp only [↓QA, QB, Nat.reduceLT, reduceIte, Nat.reduceEqDiff, Nat.reduceAdd, Nat.reduceLeDiff, Nat.reduceMul, Nat.reduceBEq, h4] | refine rd0 rfl ?_))
       cases h5 : decide (R < 48)
       ·have h5' : ¬ R < 48 := by simpa using h5
        (repeat (first | simp only [↓QA, QB, Nat.reduceLT, reduceIte, Nat.reduceEqDiff, Nat.reduceAdd, Nat.reduceLeDiff, Nat.reduceMul, Nat.reduceBEq, h5] | refine rd0 rfl ?_))
        cases h6 : decide (57 < R)
        ·have h6' : ¬ 57 < R := by simpa using h6
         (repeat (first | simp only [↓QA, QB, Nat.reduceLT, reduceIte, Nat.reduceEqDiff, Nat.reduceAdd, Nat.reduceLeDiff, Nat.reduceMul, Nat.reduceBEq, h6] | refine rd0 rfl ?_))
         exact go _ (key (by omega)) (by try simp only [TrimX, QE, Nat.reduceLT, reduceIte, Nat.reduceEqDiff, Nat.reduceAdd, Nat.reduceLeDiff, Nat.reduceMul, Nat.reduceBEq]) (by try simp only [TrimX, QE, Nat.reduceLT, reduceIte, Nat.reduceEqDiff, Nat.reduceAdd, Nat.reduceLeDiff, Nat.reduceMul, Nat.reduceBEq])
        ·have h6' : 57 < R := by simpa using h6
         rw [key2 (by omega)]
         (repeat (first | simp only [↓QA, QB, Nat.reduceLT, reduceIte, Nat.reduceEqDiff, Nat.reduceAdd, Nat.reduceLeDiff, Nat.reduceMul, Nat.reduceBEq, h6] | refine rd0 rfl ?_))
       ·have h5' : R < 48 := by simpa using h5
        rw [key2 (by omega)]
        (repeat (first | simp only [↓QA, QB, Nat.reduceLT, reduceIte, Nat.reduceEqDiff, Nat.reduceAdd, Nat.reduceLeDiff, Nat.reduceMul, Nat.reduceBEq, h5] | refine rd0 rfl ?_))
      ·have h4' : R = 46 := by simpa using h4
       (repeat (first | simp only [↓QA, QB, Nat.reduceLT, reduceIte, Nat.reduceEqDiff, Nat.reduceAdd, Nat.reduceLeDiff, Nat.reduceMul, Nat.reduceBEq, h4] | refine rd0 rfl ?_))
       exact go _ (key (by omega)) (by try simp only [TrimX, QE, Nat.reduceLT, reduceIte, Nat.reduceEqDiff, Nat.reduceAdd, Nat.reduceLeDiff, Nat.reduceMul, Nat.reduceBEq]) (by try simp only [TrimX, QE, Nat.reduceLT, reduceIte, Nat.reduceEqDiff, Nat.reduceAdd, Nat.reduceLeDiff, Nat.reduceMul, Nat.reduceBEq])
     ·have h3' : k = 0 := by simp at h3; omega
      rw [key2 (by omega)]
      (repeat (first | simp only [↓QA, QB, Nat.reduceLT, reduceIte, Nat.reduceEqDiff, Nat.reduceAdd, Nat.reduceLeDiff, Nat.reduceMul, Nat.reduceBEq, h3] | refine rd0 rfl ?_))
    ·have h2' : R ≤ 122 := by simpa using h2
     (repeat (first | simp only [↓QA, QB, Nat.reduceLT, reduceIte, Nat.reduceEqDiff, Nat.reduceAdd, Nat.reduceLeDiff, Nat.reduceMul, Nat.reduceBEq, h2] | refine rd0 rfl ?_))
     exact go _ (key (by omega)) (by try simp only [TrimX, QE, Nat.reduceLT, reduceIte, Nat.reduceEqDiff, Nat.reduceAdd, Nat.reduceLeDiff, Nat.reduceMul, Nat.reduceBEq]) (by try simp only [TrimX, QE, Nat.reduceLT, reduceIte, Nat.reduceEqDiff, Nat.reduceAdd, Nat.reduceLeDiff, Nat.reduceMul, Nat.reduceBEq])
  ·have hk2 : k = s.size := by omega
   (repeat (first | simp only [↓QA, QB, Nat.reduceLT, reduceIte, Nat.reduceEqDiff, Nat.reduceAdd, Nat.reduceLeDiff, Nat.reduceMul, Nat.reduceBEq, L61_0, V_snextF hk1] | refine rd0 rfl ?_))
   ((first | refine callK_v (off_ok 1 16 [(s.size : Int)] (by simp)) (by simp [clr, clrs, ints]) (by simp [okV, okVs]) ?_ | refine callD_v (off_ok 1 16 [(s.size : Int)] (by simp)) (by simp [clr, clrs, ints]) (by simp [okV, okVs]) ?_); (repeat (first | simp only [↓QA, QB, Nat.reduceLT, reduceIte, Nat.reduceEqDiff, Nat.reduceAdd, Nat.reduceLeDiff, Nat.reduceMul, Nat.reduceBEq] | refine rd0 rfl ?_)))
   rw [beyond1]
   (repeat (first | simp only [↓QA, QB, Nat.reduceLT, reduceIte, Nat.reduceEqDiff, Nat.reduceAdd, Nat.reduceLeDiff, Nat.reduceMul, Nat.reduceBEq] | refine rd0 rfl ?_))
   simp [nameOk, ← hk2, hok]
def enc2 (x : Int × Int) : AV := .tuple [.int .i64 x.1, .int .i64 x.2]
theorem any_nameOf {α : Type} (f : α → ByteArray) (s : ByteArray) : ∀ l : List α, l.any (fun x => decide (f x = s)) = decide (ahead s (l.map f) ≠ (l.map f).length)
 | [] => by simp [ahead]
 | x :: xs => by
  simp only [List.any_cons, any_nameOf f s xs, List.map_cons, ahead, List.length_cons]
  by_cases h : f x = s
  ·simp [h]
  ·simp [h]
end Go.Am.Room
set_option maxRecDepth 4000
namespace Go.Am.Room
def QXFFaP1 := And.intro @encFarm_eq (And.intro @farmCells_eq (And.intro @encPlot_eq (And.intro @encLook_eq (And.intro @encSpan_eq (And.intro @S_mapPlot (And.intro @S_mapLook (@S_mapSpan)))))))
theorem pends_ok (s : Span) (lo hi : Int) : Pure T 58 [encSpan s, .int .i64 lo, .int .i64 hi] (.int .i64 (ends s lo hi)) := by
 refine pure_fn (af := a58) rfl (by simp [a58]) dd ?_
 (repeat (first | simp only [↓QA, QB, Nat.reduceLT, reduceIte, Nat.reduceEqDiff, Nat.reduceAdd, Nat.reduceLeDiff, Nat.reduceMul, Nat.reduceBEq, QXFFaP1, a58] | refine rd0 rfl ?_))
 ((first | refine callK_v (beyond_ok lo hi [s.lo, s.hi] (by simp)) (by simp [clr, clrs, ints]) (by simp [okV, okVs]) ?_ | refine callD_v (beyond_ok lo hi [s.lo, s.hi] (by simp)) (by simp [clr, clrs, ints]) (by simp [okV, okVs]) ?_); (repeat (first | simp only [↓QA, QB, Nat.reduceLT, reduceIte, Nat.reduceEqDiff, Nat.reduceAdd, Nat.reduceLeDiff, Nat.reduceMul, Nat.reduceBEq, QXFFaP1, beyond2] | refine rd0 rfl ?_)))
 cases h1 : (!inR s.lo lo hi || !inR s.hi lo hi)
 ·(repeat (first | simp only [↓QA, QB, Nat.reduceLT, reduceIte, Nat.reduceEqDiff, Nat.reduceAdd, Nat.reduceLeDiff, Nat.reduceMul, Nat.reduceBEq, QXFFaP1] | refine rd0 rfl ?_))
  cases h2 : decide (s.hi < s.lo)
  ·have h2' : ¬ s.hi < s.lo := by simpa using h2
   (repeat (first | simp only [↓QA, QB, Nat.reduceLT, reduceIte, Nat.reduceEqDiff, Nat.reduceAdd, Nat.reduceLeDiff, Nat.reduceMul, Nat.reduceBEq, QXFFaP1, h2] | refine rd0 rfl ?_))
   simp [ends, h1, h2']
  ·have h2' : s.hi < s.lo := by simpa using h2
   (repeat (first | simp only [↓QA, QB, Nat.reduceLT, reduceIte, Nat.reduceEqDiff, Nat.reduceAdd, Nat.reduceLeDiff, Nat.reduceMul, Nat.reduceBEq, QXFFaP1, h2] | refine rd0 rfl ?_))
   simp [ends, h1, h2']
 ·(repeat (first | simp only [↓QA, QB, Nat.reduceLT, reduceIte, Nat.reduceEqDiff, Nat.reduceAdd, Nat.reduceLeDiff, Nat.reduceMul, Nat.reduceBEq, QXFFaP1] | refine rd0 rfl ?_))
  simp [ends, h1]
theorem index_pl (σ : St) (f : AV) (l : List Plot) (p : Plot → Bool) (hl : l.length < 9223372036854775808) (hk : Keeps σ f) (h : ∀ x ∈ l, Same T f [encPlot x] σ (.bool (p x))) : Same T (.func 93 [] []) [.lit (l.map encPlot) false none, f] σ (.int .i64 (idxOf p l 0)) := by
 refine same_fn (af := a93) rfl (by simp [a93]) ?_
 have hk0 := hk.nil
 (repeat (first | simp only [↓QA, QB, Nat.reduceLT, reduceIte, Nat.reduceEqDiff, Nat.reduceAdd, Nat.reduceLeDiff, Nat.reduceMul, Nat.reduceBEq, QXFFaP1, a93] | refine rd0 rfl ?_))
 refine loopE (S := Nat) 0 (fun k => k ≤ l.length ∧ idxOf p (l.drop k) k = idxOf p l 0) (fun k => l.length - k) (fun k => [(0, .lit (l.map encPlot) false none), (1, f), (7, .int .i64 l.length), (8, .int .i64 k)]) (fun _ => σ) ⟨Nat.zero_le _, by simp⟩ rfl ?_ fun k hk1 => ?_
 ·try simp only [TrimX, QE, Nat.reduceLT, reduceIte, Nat.reduceEqDiff, Nat.reduceAdd, Nat.reduceLeDiff, Nat.reduceMul, Nat.reduceBEq, QXFFaP1]
  try simp
 ·obtain ⟨hkl, hi⟩ := hk1
  (repeat (first | simp only [↓QA, QB, Nat.reduceLT, reduceIte, Nat.reduceEqDiff, Nat.reduceAdd, Nat.reduceLeDiff, Nat.reduceMul, Nat.reduceBEq, QXFFaP1, L93_0] | refine rd0 rfl ?_))
  refine iteP_intro (fun hd => ?_) fun hd => ?_
  ·have hlt : k < l.length := by simpa using hd
   rw [List.drop_eq_getElem_cons hlt] at hi
   simp only [idxOf] at hi
   have hw := wrapN hlt hl
   (repeat (first | simp only [↓QA, QB, Nat.reduceLT, reduceIte, Nat.reduceEqDiff, Nat.reduceAdd, Nat.reduceLeDiff, Nat.reduceMul, Nat.reduceBEq, QXFFaP1, hlt] | refine rd0 rfl ?_))
   refine callK_same (h l[k] (List.getElem_mem hlt)) ?_
   (repeat (first | simp only [↓QA, QB, Nat.reduceLT, reduceIte, Nat.reduceEqDiff, Nat.reduceAdd, Nat.reduceLeDiff, Nat.reduceMul, Nat.reduceBEq, QXFFaP1] | refine rd0 rfl ?_))
   cases hp : p l[k]
   ·(repeat (first | simp only [↓QA, QB, Nat.reduceLT, reduceIte, Nat.reduceEqDiff, Nat.reduceAdd, Nat.reduceLeDiff, Nat.reduceMul, Nat.reduceBEq, QXFFaP1, hw] | refine rd0 rfl ?_))
    refine ⟨k + 1, ⟨by omega, by rw [← hi, hp]; rfl⟩, by omega, ?_⟩
    try simp only [TrimX, QE, Nat.reduceLT, reduceIte, Nat.reduceEqDiff, Nat.reduceAdd, Nat.reduceLeDiff, Nat.reduceMul, Nat.reduceBEq, QXFFaP1, hw, hk0, Nat.le_refl, S_mapPlot]
   ·(repeat (first | simp only [↓QA, QB, Nat.reduceLT, reduceIte, Nat.reduceEqDiff, Nat.reduceAdd, Nat.reduceLeDiff, Nat.reduceMul, Nat.reduceBEq, QXFFaP1] | refine rd0 rfl ?_))
    refine baseR [] (by first | rfl | simp) ?_
    rw [← hi, hp]
    try simp only [QS, QC, Nat.reduceLT, reduceIte, Nat.reduceEqDiff, Nat.reduceAdd, Nat.reduceLeDiff, Nat.reduceMul, Nat.reduceBEq, QXFFaP1]
  ·have hlt : k = l.length := by simp at hd; omega
   (repeat (first | simp only [↓QA, QB, Nat.reduceLT, reduceIte, Nat.reduceEqDiff, Nat.reduceAdd, Nat.reduceLeDiff, Nat.reduceMul, Nat.reduceBEq, QXFFaP1] | refine rd0 rfl ?_))
   refine baseR [] (by first | rfl | simp) ?_
   rw [← hi, hlt, List.drop_length]
   try simp only [QS, QC, Nat.reduceLT, reduceIte, Nat.reduceEqDiff, Nat.reduceAdd, Nat.reduceLeDiff, Nat.reduceMul, Nat.reduceBEq, QXFFaP1, idxOf]
theorem contains_pl (σ : St) (f : AV) (l : List Plot) (p : Plot → Bool) (hl : l.length < 9223372036854775808) (hk : Keeps σ f) (h : ∀ x ∈ l, Same T f [encPlot x] σ (.bool (p x))) : Same T (.func 62 [] []) [.lit (l.map encPlot) false none, f] σ (.bool (l.any p)) := by
 refine same_fn (af := a62) rfl (by simp [a62]) ?_
 (repeat (first | simp only [↓QA, QB, Nat.reduceLT, reduceIte, Nat.reduceEqDiff, Nat.reduceAdd, Nat.reduceLeDiff, Nat.reduceMul, Nat.reduceBEq, QXFFaP1, a62] | refine rd0 rfl ?_))
 refine callK_same (index_pl σ f l p hl hk h) ?_
 (repeat (first | simp only [↓QA, QB, Nat.reduceLT, reduceIte, Nat.reduceEqDiff, Nat.reduceAdd, Nat.reduceLeDiff, Nat.reduceMul, Nat.reduceBEq, QXFFaP1] | refine rd0 rfl ?_))
 refine baseR [] (by first | rfl | simp) ?_
 rw [← idxOf_any p l 0]
 try simp only [QS, QC, Nat.reduceLT, reduceIte, Nat.reduceEqDiff, Nat.reduceAdd, Nat.reduceLeDiff, Nat.reduceMul, Nat.reduceBEq, QXFFaP1]
def failF {α : Type} (of : Nat → α → Int) (l : List α) : Int × Int := match firstBad of l 0 with | some (i, e) => (i, e) | none => (0, 0)
theorem failing_span (σ : St) (f : AV) (l : List Span) (of : Nat → Span → Int) (hl : l.length < 9223372036854775808) (hk : Keeps σ f)
  (h : ∀ i (hi : i < l.length), Same T f [.int .i64 i, encSpan l[i]] (σ ++ [.cells (encSpan l[i]).cells]) (.int .i64 (of i l[i]))) : Same T (.func 56 [] []) [.lit (l.map encSpan) false none, f] σ (enc2 (failF of l)) := by
 refine same_fn (af := a56) rfl (by simp [a56]) ?_
 have hk0 := hk.nil
 have hk2 : ∀ τ, snapM (σ ++ τ) σ.length 20 f = some f := hk
 (repeat (first | simp only [↓QA, QB, Nat.reduceLT, reduceIte, Nat.reduceEqDiff, Nat.reduceAdd, Nat.reduceLeDiff, Nat.reduceMul, Nat.reduceBEq, QXFFaP1, a56] | refine rd0 rfl ?_))
 refine loopE (S := Nat) 0 (fun k => k ≤ l.length ∧ firstBad of (l.drop k) k = firstBad of l 0) (fun k => l.length - k) (fun k => [(1, f), (9, .lit (l.map encSpan) false none), (10, .int .i64 l.length), (11, .int .i64 k)]) (fun _ => σ) ⟨Nat.zero_le _, by simp⟩ rfl ?_ fun k hk1 => ?_
 ·try simp only [TrimX, QE, Nat.reduceLT, reduceIte, Nat.reduceEqDiff, Nat.reduceAdd, Nat.reduceLeDiff, Nat.reduceMul, Nat.reduceBEq, QXFFaP1]
  try simp
 ·obtain ⟨hkl, hi⟩ := hk1
  (repeat (first | simp only [↓QA, QB, Nat.reduceLT, reduceIte, Nat.reduceEqDiff, Nat.reduceAdd, Nat.reduceLeDiff, Nat.reduceMul, Nat.reduceBEq, QXFFaP1, L56_0] | refine rd0 rfl ?_))
  refine iteP_intro (fun hd => ?_) fun hd => ?_
  ·have hlt : k < l.length := by simpa using hd
   have hs := h k hlt
   rw [firstBad_step hlt] at hi
   have hw := wrapN hlt hl
   try simp only [↓QA, QB, Nat.reduceLT, reduceIte, Nat.reduceEqDiff, Nat.reduceAdd, Nat.reduceLeDiff, Nat.reduceMul, Nat.reduceBEq, QXFFaP1, hlt] at hs
   (repeat (first | simp only [↓QA, QB, Nat.reduceLT, reduceIte, Nat.reduceEqDiff, Nat.reduceAdd, Nat.reduceLeDiff, Nat.reduceMul, Nat.reduceBEq, QXFFaP1, hlt] | refine rd0 rfl ?_))
   refine callK_same hs ?_
   (repeat (first | simp only [↓QA, QB, Nat.reduceLT, reduceIte, Nat.reduceEqDiff, Nat.reduceAdd, Nat.reduceLeDiff, Nat.reduceMul, Nat.reduceBEq, QXFFaP1] | refine rd0 rfl ?_))
   cases hp : (of k l[k] == 0)
   ·have hp' : of k l[k] ≠ 0 := by simpa using hp
    rw [if_neg hp'] at hi
    (repeat (first | simp only [↓QA, QB, Nat.reduceLT, reduceIte, Nat.reduceEqDiff, Nat.reduceAdd, Nat.reduceLeDiff, Nat.reduceMul, Nat.reduceBEq, QXFFaP1, hp] | refine rd0 rfl ?_))
    refine baseR _ rfl ?_
    try simp only [QS, QC, Nat.reduceLT, reduceIte, Nat.reduceEqDiff, Nat.reduceAdd, Nat.reduceLeDiff, Nat.reduceMul, Nat.reduceBEq, QXFFaP1, enc2, failF, ← hi, reduceCtorEq]
   ·have hp' : of k l[k] = 0 := by simpa using hp
    rw [if_pos hp'] at hi
    (repeat (first | simp only [↓QA, QB, Nat.reduceLT, reduceIte, Nat.reduceEqDiff, Nat.reduceAdd, Nat.reduceLeDiff, Nat.reduceMul, Nat.reduceBEq, QXFFaP1, hp, hw] | refine rd0 rfl ?_))
    refine ⟨k + 1, ⟨by omega, hi⟩, by omega, ?_⟩
    try simp only [TrimX, QE, Nat.reduceLT, reduceIte, Nat.reduceEqDiff, Nat.reduceAdd, Nat.reduceLeDiff, Nat.reduceMul, Nat.reduceBEq, QXFFaP1, hw, hk0, hk2, Nat.le_refl, S_mapSpan]
  ·have hlt : k = l.length := by simp at hd; omega
   rw [firstBad_end hlt] at hi
   (repeat (first | simp only [↓QA, QB, Nat.reduceLT, reduceIte, Nat.reduceEqDiff, Nat.reduceAdd, Nat.reduceLeDiff, Nat.reduceMul, Nat.reduceBEq, QXFFaP1] | refine rd0 rfl ?_))
   refine baseR [] (by first | rfl | simp) ?_
   try simp only [QS, QC, Nat.reduceLT, reduceIte, Nat.reduceEqDiff, Nat.reduceAdd, Nat.reduceLeDiff, Nat.reduceMul, Nat.reduceBEq, QXFFaP1, enc2, failF, ← hi, reduceCtorEq]
theorem failing_plot (σ : St) (f : AV) (l : List Plot) (of : Nat → Plot → Int) (hl : l.length < 9223372036854775808) (hk : Keeps σ f)
  (h : ∀ i (hi : i < l.length), Same T f [.int .i64 i, encPlot l[i]] (σ ++ [.cells (encPlot l[i]).cells]) (.int .i64 (of i l[i]))) : Same T (.func 59 [] []) [.lit (l.map encPlot) false none, f] σ (enc2 (failF of l)) := by
 refine same_fn (af := a59) rfl (by simp [a59]) ?_
 have hk0 := hk.nil
 have hk2 : ∀ τ, snapM (σ ++ τ) σ.length 20 f = some f := hk
 (repeat (first | simp only [↓QA, QB, Nat.reduceLT, reduceIte, Nat.reduceEqDiff, Nat.reduceAdd, Nat.reduceLeDiff, Nat.reduceMul, Nat.reduceBEq, QXFFaP1, a59] | refine rd0 rfl ?_))
 refine loopE (S := Nat) 0 (fun k => k ≤ l.length ∧ firstBad of (l.drop k) k = firstBad of l 0) (fun k => l.length - k) (fun k => [(1, f), (9, .lit (l.map encPlot) false none), (10, .int .i64 l.length), (11, .int .i64 k)]) (fun _ => σ) ⟨Nat.zero_le _, by simp⟩ rfl ?_ fun k hk1 => ?_
 ·try simp only [TrimX, QE, Nat.reduceLT, reduceIte, Nat.reduceEqDiff, Nat.reduceAdd, Nat.reduceLeDiff, Nat.reduceMul, Nat.reduceBEq, QXFFaP1]
  try simp
 ·obtain ⟨hkl, hi⟩ := hk1
  (repeat (first | simp only [↓QA, QB, Nat.reduceLT, reduceIte, Nat.reduceEqDiff, Nat.reduceAdd, Nat.reduceLeDiff, Nat.reduceMul, Nat.reduceBEq, QXFFaP1, L59_0] | refine rd0 rfl ?_))
  refine iteP_intro (fun hd => ?_) fun hd => ?_
  ·have hlt : k < l.length := by simpa using hd
   have hs := h k hlt
   rw [firstBad_step hlt] at hi
   have hw := wrapN hlt hl
   try simp only [↓QA, QB, Nat.reduceLT, reduceIte, Nat.reduceEqDiff, Nat.reduceAdd, Nat.reduceLeDiff, Nat.reduceMul, Nat.reduceBEq, QXFFaP1, hlt] at hs
   (repeat (first | simp only [↓QA, QB, Nat.reduceLT, reduceIte, Nat.reduceEqDiff, Nat.reduceAdd, Nat.reduceLeDiff, Nat.reduceMul, Nat.reduceBEq, QXFFaP1, hlt] | refine rd0 rfl ?_))
   refine callK_same hs ?_
   (repeat (first | simp only [↓QA, QB, Nat.reduceLT, reduceIte, Nat.reduceEqDiff, Nat.reduceAdd, Nat.reduceLeDiff, Nat.reduceMul, Nat.reduceBEq, QXFFaP1] | refine rd0 rfl ?_))
   cases hp : (of k l[k] == 0)
   ·have hp' : of k l[k] ≠ 0 := by simpa using hp
    rw [if_neg hp'] at hi
    (repeat (first | simp only [↓QA, QB, Nat.reduceLT, reduceIte, Nat.reduceEqDiff, Nat.reduceAdd, Nat.reduceLeDiff, Nat.reduceMul, Nat.reduceBEq, QXFFaP1, hp] | refine rd0 rfl ?_))
    refine baseR _ rfl ?_
    try simp only [QS, QC, Nat.reduceLT, reduceIte, Nat.reduceEqDiff, Nat.reduceAdd, Nat.reduceLeDiff, Nat.reduceMul, Nat.reduceBEq, QXFFaP1, enc2, failF, ← hi, reduceCtorEq]
   ·have hp' : of k l[k] = 0 := by simpa using hp
    rw [if_pos hp'] at hi
    (repeat (first | simp only [↓QA, QB, Nat.reduceLT, reduceIte, Nat.reduceEqDiff, Nat.reduceAdd, Nat.reduceLeDiff, Nat.reduceMul, Nat.reduceBEq, QXFFaP1, hp, hw] | refine rd0 rfl ?_))
    refine ⟨k + 1, ⟨by omega, hi⟩, by omega, ?_⟩
    try simp only [TrimX, QE, Nat.reduceLT, reduceIte, Nat.reduceEqDiff, Nat.reduceAdd, Nat.reduceLeDiff, Nat.reduceMul, Nat.reduceBEq, QXFFaP1, hw, hk0, hk2, Nat.le_refl, S_mapPlot]
  ·have hlt : k = l.length := by simp at hd; omega
   rw [firstBad_end hlt] at hi
   (repeat (first | simp only [↓QA, QB, Nat.reduceLT, reduceIte, Nat.reduceEqDiff, Nat.reduceAdd, Nat.reduceLeDiff, Nat.reduceMul, Nat.reduceBEq, QXFFaP1] | refine rd0 rfl ?_))
   refine baseR [] (by first | rfl | simp) ?_
   try simp only [QS, QC, Nat.reduceLT, reduceIte, Nat.reduceEqDiff, Nat.reduceAdd, Nat.reduceLeDiff, Nat.reduceMul, Nat.reduceBEq, QXFFaP1, enc2, failF, ← hi, reduceCtorEq]
theorem failing_look (σ : St) (f : AV) (l : List Look) (of : Nat → Look → Int) (hl : l.length < 9223372036854775808) (hk : Keeps σ f)
  (h : ∀ i (hi : i < l.length), Same T f [.int .i64 i, encLook l[i]] (σ ++ [.cells (encLook l[i]).cells]) (.int .i64 (of i l[i]))) : Same T (.func 64 [] []) [.lit (l.map encLook) false none, f] σ (enc2 (failF of l)) := by
 refine same_fn (af := a64) rfl (by simp [a64]) ?_
 have hk0 := hk.nil
 have hk2 : ∀ τ, snapM (σ ++ τ) σ.length 20 f = some f := hk
 (repeat (first | simp only [↓QA, QB, Nat.reduceLT, reduceIte, Nat.reduceEqDiff, Nat.reduceAdd, Nat.reduceLeDiff, Nat.reduceMul, Nat.reduceBEq, QXFFaP1, a64] | refine rd0 rfl ?_))
 refine loopE (S := Nat) 0 (fun k => k ≤ l.length ∧ firstBad of (l.drop k) k = firstBad of l 0) (fun k => l.length - k) (fun k => [(1, f), (9, .lit (l.map encLook) false none), (10, .int .i64 l.length), (11, .int .i64 k)]) (fun _ => σ) ⟨Nat.zero_le _, by simp⟩ rfl ?_ fun k hk1 => ?_
 ·try simp only [TrimX, QE, Nat.reduceLT, reduceIte, Nat.reduceEqDiff, Nat.reduceAdd, Nat.reduceLeDiff, Nat.reduceMul, Nat.reduceBEq, QXFFaP1]
  try simp
 ·obtain ⟨hkl, hi⟩ := hk1
  (repeat (first | simp only [↓QA, QB, Nat.reduceLT, reduceIte, Nat.reduceEqDiff, Nat.reduceAdd, Nat.reduceLeDiff, Nat.reduceMul, Nat.reduceBEq, QXFFaP1, L64_0] | refine rd0 rfl ?_))
  refine iteP_intro (fun hd => ?_) fun hd => ?_
  ·have hlt : k < l.length := by simpa using hd
   have hs := h k hlt
   rw [firstBad_step hlt] at hi
   have hw := wrapN hlt hl
   try simp only [↓QA, QB, Nat.reduceLT, reduceIte, Nat.reduceEqDiff, Nat.reduceAdd, Nat.reduceLeDiff, Nat.reduceMul, Nat.reduceBEq, QXFFaP1, hlt] at hs
   (repeat (first | simp only [↓QA, QB, Nat.reduceLT, reduceIte, Nat.reduceEqDiff, Nat.reduceAdd, Nat.reduceLeDiff, Nat.reduceMul, Nat.reduceBEq, QXFFaP1, hlt] | refine rd0 rfl ?_))
   refine callK_same hs ?_
   (repeat (first | simp only [↓QA, QB, Nat.reduceLT, reduceIte, Nat.reduceEqDiff, Nat.reduceAdd, Nat.reduceLeDiff, Nat.reduceMul, Nat.reduceBEq, QXFFaP1] | refine rd0 rfl ?_))
   cases hp : (of k l[k] == 0)
   ·have hp' : of k l[k] ≠ 0 := by simpa using hp
    rw [if_neg hp'] at hi
    (repeat (first | simp only [↓QA, QB, Nat.reduceLT, reduceIte, Nat.reduceEqDiff, Nat.reduceAdd, Nat.reduceLeDiff, Nat.reduceMul, Nat.reduceBEq, QXFFaP1, hp] | refine rd0 rfl ?_))
    refine baseR _ rfl ?_
    try simp only [QS, QC, Nat.reduceLT, reduceIte, Nat.reduceEqDiff, Nat.reduceAdd, Nat.reduceLeDiff, Nat.reduceMul, Nat.reduceBEq, QXFFaP1, enc2, failF, ← hi, reduceCtorEq]
   ·have hp' : of k l[k] = 0 := by simpa using hp
    rw [if_pos hp'] at hi
    (repeat (first | simp only [↓QA, QB, Nat.reduceLT, reduceIte, Nat.reduceEqDiff, Nat.reduceAdd, Nat.reduceLeDiff, Nat.reduceMul, Nat.reduceBEq, QXFFaP1, hp, hw] | refine rd0 rfl ?_))
    refine ⟨k + 1, ⟨by omega, hi⟩, by omega, ?_⟩
    try simp only [TrimX, QE, Nat.reduceLT, reduceIte, Nat.reduceEqDiff, Nat.reduceAdd, Nat.reduceLeDiff, Nat.reduceMul, Nat.reduceBEq, QXFFaP1, hw, hk0, hk2, Nat.le_refl, S_mapLook]
  ·have hlt : k = l.length := by simp at hd; omega
   rw [firstBad_end hlt] at hi
   (repeat (first | simp only [↓QA, QB, Nat.reduceLT, reduceIte, Nat.reduceEqDiff, Nat.reduceAdd, Nat.reduceLeDiff, Nat.reduceMul, Nat.reduceBEq, QXFFaP1] | refine rd0 rfl ?_))
   refine baseR [] (by first | rfl | simp) ?_
   try simp only [QS, QC, Nat.reduceLT, reduceIte, Nat.reduceEqDiff, Nat.reduceAdd, Nat.reduceLeDiff, Nat.reduceMul, Nat.reduceBEq, QXFFaP1, enc2, failF, ← hi, reduceCtorEq]
theorem chk1_ok (i : Int) (s : Span) (σ : St) : Same T (.func 57 [] []) [.int .i64 i, encSpan s] σ (.int .i64 (raErr 0 s)) := by
 refine same_fn (af := a57) rfl (by simp [a57]) ?_
 (repeat (first | simp only [↓QA, QB, Nat.reduceLT, reduceIte, Nat.reduceEqDiff, Nat.reduceAdd, Nat.reduceLeDiff, Nat.reduceMul, Nat.reduceBEq, QXFFaP1, a57] | refine rd0 rfl ?_))
 ((first | refine callK_d (pends_ok s 0 2) rfl dd ?_ | refine callD_d (pends_ok s 0 2) rfl dd ?_); (repeat (first | simp only [↓QA, QB, Nat.reduceLT, reduceIte, Nat.reduceEqDiff, Nat.reduceAdd, Nat.reduceLeDiff, Nat.reduceMul, Nat.reduceBEq, QXFFaP1] | refine rd0 rfl ?_)))
 refine baseR [.cells [.int .i64 s.lo, .int .i64 s.hi]] (by first | rfl | simp) ?_
 try simp only [QS, QC, Nat.reduceLT, reduceIte, Nat.reduceEqDiff, Nat.reduceAdd, Nat.reduceLeDiff, Nat.reduceMul, Nat.reduceBEq, QXFFaP1, raErr]
theorem chk21_ok (s x : Plot) (b : ABlk) (τ : St) : Same T (.func 63 [] [.ptr (τ.length + 1) 0]) [encPlot x] (b :: (τ ++ [.cells (encPlot s).cells])) (.bool (decide (x.name = s.name))) := by
 refine same_fn (af := a63) rfl (by simp [a63]) ?_
 (repeat (first | simp only [↓QA, QB, Nat.reduceLT, reduceIte, Nat.reduceEqDiff, Nat.reduceAdd, Nat.reduceLeDiff, Nat.reduceMul, Nat.reduceBEq, QXFFaP1, a63, str_beq, List.length_append] | refine rd0 rfl ?_))
 refine baseR [.cells [.str x.name, .int .i64 x.flower.lo, .int .i64 x.flower.hi, .int .i64 x.hands]] (by first | rfl | simp) ?_
 try simp only [QS, QC, Nat.reduceLT, reduceIte, Nat.reduceEqDiff, Nat.reduceAdd, Nat.reduceLeDiff, Nat.reduceMul, Nat.reduceBEq, QXFFaP1]
theorem chk2_ok (v : Farm) (h : Fits v) (i : Nat) (hi : i < v.plots.length) (τ : St) : Same T (.func 60 [] [.ptr 0 0]) [.int .i64 i, encPlot v.plots[i]] (.cells (farmCells v) :: τ) (.int .i64 (plErr v i v.plots[i])) := by
 refine same_fn (af := a60) rfl (by simp [a60]) ?_
 have hfr := h.rain
 have hsz := h.names _ (List.getElem_mem hi)
 have hts : (v.plots.take i).length < 9223372036854775808 := by have := h.plots; simp; omega
 obtain ⟨s, hs⟩ : ∃ s, v.plots[i] = s := ⟨_, rfl⟩
 have hk : plErr v i s = if fresh s.name ((v.plots.take i).map Plot.name) = 0 then (if ends s.flower 0 (endOf v - 1) = 7 ∨ inR s.hands 1 99 = false then 7 else ends s.flower 0 (endOf v - 1)) else fresh s.name ((v.plots.take i).map Plot.name) := rfl
 rw [hs] at hsz ⊢
 obtain ⟨E, hE⟩ : ∃ E, plErr v i s = E := ⟨_, rfl⟩
 rw [hE] at hk ⊢
 have hwe : IntKind.i64.wrap ((v.rain.length : Int) - 1) = endOf v - 1 := wrap64 ⟨by omega, by omega⟩
 have hen := pends_ok s.flower 0 (endOf v - 1)
 obtain ⟨F, hF⟩ : ∃ F, ends s.flower 0 (endOf v - 1) = F := ⟨_, rfl⟩
 rw [hF] at hk hen
 have fin : ∀ (n : Int) (e : Env) (b : List AV), n = E → BaseR (some (.int .i64 n)) (.cells (farmCells v) :: τ) (.cells (farmCells v) :: (τ ++ [.cells b])) (.int .i64 E) := fun n e b hv => by
  refine baseR [.cells b] (by first | rfl | simp) ?_
  rw [hv]
  try simp only [QS, QC, Nat.reduceLT, reduceIte, Nat.reduceEqDiff, Nat.reduceAdd, Nat.reduceLeDiff, Nat.reduceMul, Nat.reduceBEq, QXFFaP1]
 simp only [farmCells_eq] at fin
 (repeat (first | simp only [↓QA, QB, Nat.reduceLT, reduceIte, Nat.reduceEqDiff, Nat.reduceAdd, Nat.reduceLeDiff, Nat.reduceMul, Nat.reduceBEq, QXFFaP1, a60, hwe] | refine rd0 rfl ?_))
 ((first | refine callK_d (hen) rfl dd ?_ | refine callD_d (hen) rfl dd ?_); (repeat (first | simp only [↓QA, QB, Nat.reduceLT, reduceIte, Nat.reduceEqDiff, Nat.reduceAdd, Nat.reduceLeDiff, Nat.reduceMul, Nat.reduceBEq, QXFFaP1] | refine rd0 rfl ?_)))
 ((first | refine callK_d (handname_ok s.name hsz) rfl dd ?_ | refine callD_d (handname_ok s.name hsz) rfl dd ?_); (repeat (first | simp only [↓QA, QB, Nat.reduceLT, reduceIte, Nat.reduceEqDiff, Nat.reduceAdd, Nat.reduceLeDiff, Nat.reduceMul, Nat.reduceBEq, QXFFaP1] | refine rd0 rfl ?_)))
 cases h1 : nameOk s.name
 ·(repeat (first | simp only [↓QA, QB, Nat.reduceLT, reduceIte, Nat.reduceEqDiff, Nat.reduceAdd, Nat.reduceLeDiff, Nat.reduceMul, Nat.reduceBEq, QXFFaP1] | refine rd0 rfl ?_))
  exact fin _ [] _ (by rw [hk]; simp [fresh, h1])
 ·have hc := contains_pl (.cells (farmCells v) :: (τ ++ [.cells (encPlot s).cells])) (.func 63 [] [.ptr (τ.length + 1) 0]) (v.plots.take i) (fun x => decide (x.name = s.name)) hts (fun υ => by try simp only [QS, QC, Nat.reduceLT, reduceIte, Nat.reduceEqDiff, Nat.reduceAdd, Nat.reduceLeDiff, Nat.reduceMul, Nat.reduceBEq, QXFFaP1, List.length_append]; simp) fun x _ => chk21_ok s x _ τ
  try simp only [↓QA, QB, Nat.reduceLT, reduceIte, Nat.reduceEqDiff, Nat.reduceAdd, Nat.reduceLeDiff, Nat.reduceMul, Nat.reduceBEq, QXFFaP1] at hc
  (repeat (first | simp only [↓QA, QB, Nat.reduceLT, reduceIte, Nat.reduceEqDiff, Nat.reduceAdd, Nat.reduceLeDiff, Nat.reduceMul, Nat.reduceBEq, QXFFaP1, V_take (enc := encPlot) (l := v.plots) (Nat.le_of_lt hi)] | refine rd0 rfl ?_))
  refine callK_same hc ?_
  rw [any_nameOf]
  cases h2 : decide (ahead s.name ((v.plots.take i).map Plot.name) ≠ ((v.plots.take i).map Plot.name).length)
  ·have h2' : ahead s.name ((v.plots.take i).map Plot.name) = ((v.plots.take i).map Plot.name).length := by simpa using h2
   have hf : fresh s.name ((v.plots.take i).map Plot.name) = 0 := by simp only [fresh, h1, h2']; simp
   rw [hf] at hk
   simp only [if_true] at hk
   (repeat (first | simp only [↓QA, QB, Nat.reduceLT, reduceIte, Nat.reduceEqDiff, Nat.reduceAdd, Nat.reduceLeDiff, Nat.reduceMul, Nat.reduceBEq, QXFFaP1] | refine rd0 rfl ?_))
   ((first | refine callK_v (beyond_ok 1 99 [s.hands] (by simp)) (by simp [clr, clrs, ints]) (by simp [okV, okVs]) ?_ | refine callD_v (beyond_ok 1 99 [s.hands] (by simp)) (by simp [clr, clrs, ints]) (by simp [okV, okVs]) ?_); (repeat (first | simp only [↓QA, QB, Nat.reduceLT, reduceIte, Nat.reduceEqDiff, Nat.reduceAdd, Nat.reduceLeDiff, Nat.reduceMul, Nat.reduceBEq, QXFFaP1, beyond1] | refine rd0 rfl ?_)))
   cases h3 : inR s.hands 1 99
   ·(repeat (first | simp only [↓QA, QB, Nat.reduceLT, reduceIte, Nat.reduceEqDiff, Nat.reduceAdd, Nat.reduceLeDiff, Nat.reduceMul, Nat.reduceBEq, QXFFaP1] | refine rd0 rfl ?_))
    exact fin _ [] _ (by rw [hk, if_pos (.inr h3)])
   ·(repeat (first | simp only [↓QA, QB, Nat.reduceLT, reduceIte, Nat.reduceEqDiff, Nat.reduceAdd, Nat.reduceLeDiff, Nat.reduceMul, Nat.reduceBEq, QXFFaP1] | refine rd0 rfl ?_))
    refine fin _ [] _ ?_
    rw [hk]
    by_cases h4 : F = 7
    ·simp [h4]
    ·simp [h4, h3]
  ·have h2' : ahead s.name ((v.plots.take i).map Plot.name) ≠ ((v.plots.take i).map Plot.name).length := by simpa using h2
   have hf : fresh s.name ((v.plots.take i).map Plot.name) = 5 := by simp only [fresh, h1, h2', if_false]; simp
   rw [hf] at hk
   (repeat (first | simp only [↓QA, QB, Nat.reduceLT, reduceIte, Nat.reduceEqDiff, Nat.reduceAdd, Nat.reduceLeDiff, Nat.reduceMul, Nat.reduceBEq, QXFFaP1] | refine rd0 rfl ?_))
   exact fin _ [] _ (by rw [hk]; simp)
theorem chk3_ok (v : Farm) (h : Fits v) (i : Int) (x : Look) : Same T (.func 65 [] [.ptr 0 0]) [.int .i64 i, encLook x] [.cells (farmCells v), .cells (encLook x).cells] (.int .i64 (lkErr v 0 x)) := by
 refine same_fn (af := a65) rfl (by simp [a65]) ?_
 have hfp := h.plots
 have hw : IntKind.i64.wrap ((v.plots.length : Int) - 1) = (v.plots.length : Int) - 1 := wrap64 ⟨by omega, by omega⟩
 have he : endOf v = (v.rain.length : Int) := rfl
 (repeat (first | simp only [↓QA, QB, Nat.reduceLT, reduceIte, Nat.reduceEqDiff, Nat.reduceAdd, Nat.reduceLeDiff, Nat.reduceMul, Nat.reduceBEq, QXFFaP1, a65, hw] | refine rd0 rfl ?_))
 ((first | refine callK_v (beyond_ok 0 ((v.plots.length : Int) - 1) [x.plot] (by simp)) (by simp [clr, clrs, ints]) (by simp [okV, okVs]) ?_ | refine callD_v (beyond_ok 0 ((v.plots.length : Int) - 1) [x.plot] (by simp)) (by simp [clr, clrs, ints]) (by simp [okV, okVs]) ?_); (repeat (first | simp only [↓QA, QB, Nat.reduceLT, reduceIte, Nat.reduceEqDiff, Nat.reduceAdd, Nat.reduceLeDiff, Nat.reduceMul, Nat.reduceBEq, QXFFaP1, beyond1] | refine rd0 rfl ?_)))
 cases h1 : inR x.plot 0 ((v.plots.length : Int) - 1)
 ·(repeat (first | simp only [↓QA, QB, Nat.reduceLT, reduceIte, Nat.reduceEqDiff, Nat.reduceAdd, Nat.reduceLeDiff, Nat.reduceMul, Nat.reduceBEq, QXFFaP1] | refine rd0 rfl ?_))
  refine baseR _ rfl ?_
  try simp only [QS, QC, Nat.reduceLT, reduceIte, Nat.reduceEqDiff, Nat.reduceAdd, Nat.reduceLeDiff, Nat.reduceMul, Nat.reduceBEq, QXFFaP1, lkErr, h1]
 ·(repeat (first | simp only [↓QA, QB, Nat.reduceLT, reduceIte, Nat.reduceEqDiff, Nat.reduceAdd, Nat.reduceLeDiff, Nat.reduceMul, Nat.reduceBEq, QXFFaP1] | refine rd0 rfl ?_))
  ((first | refine callK_v (beyond_ok 0 (v.rain.length : Int) [x.day] (by simp)) (by simp [clr, clrs, ints]) (by simp [okV, okVs]) ?_ | refine callD_v (beyond_ok 0 (v.rain.length : Int) [x.day] (by simp)) (by simp [clr, clrs, ints]) (by simp [okV, okVs]) ?_); (repeat (first | simp only [↓QA, QB, Nat.reduceLT, reduceIte, Nat.reduceEqDiff, Nat.reduceAdd, Nat.reduceLeDiff, Nat.reduceMul, Nat.reduceBEq, QXFFaP1, beyond1] | refine rd0 rfl ?_)))
  cases h2 : inR x.day 0 (v.rain.length : Int)
  ·(repeat (first | simp only [↓QA, QB, Nat.reduceLT, reduceIte, Nat.reduceEqDiff, Nat.reduceAdd, Nat.reduceLeDiff, Nat.reduceMul, Nat.reduceBEq, QXFFaP1] | refine rd0 rfl ?_))
   refine baseR _ rfl ?_
   try simp only [QS, QC, Nat.reduceLT, reduceIte, Nat.reduceEqDiff, Nat.reduceAdd, Nat.reduceLeDiff, Nat.reduceMul, Nat.reduceBEq, QXFFaP1, lkErr, h1, he, h2]
   try simp
  ·(repeat (first | simp only [↓QA, QB, Nat.reduceLT, reduceIte, Nat.reduceEqDiff, Nat.reduceAdd, Nat.reduceLeDiff, Nat.reduceMul, Nat.reduceBEq, QXFFaP1] | refine rd0 rfl ?_))
   ((first | refine callK_v (beyond_ok 0 30 [x.points] (by simp)) (by simp [clr, clrs, ints]) (by simp [okV, okVs]) ?_ | refine callD_v (beyond_ok 0 30 [x.points] (by simp)) (by simp [clr, clrs, ints]) (by simp [okV, okVs]) ?_); (repeat (first | simp only [↓QA, QB, Nat.reduceLT, reduceIte, Nat.reduceEqDiff, Nat.reduceAdd, Nat.reduceLeDiff, Nat.reduceMul, Nat.reduceBEq, QXFFaP1, beyond1] | refine rd0 rfl ?_)))
   cases h3 : inR x.points 0 30
   all_goals
    (repeat (first | simp only [↓QA, QB, Nat.reduceLT, reduceIte, Nat.reduceEqDiff, Nat.reduceAdd, Nat.reduceLeDiff, Nat.reduceMul, Nat.reduceBEq, QXFFaP1] | refine rd0 rfl ?_))
    refine baseR _ rfl ?_
    try simp only [QS, QC, Nat.reduceLT, reduceIte, Nat.reduceEqDiff, Nat.reduceAdd, Nat.reduceLeDiff, Nat.reduceMul, Nat.reduceBEq, QXFFaP1, lkErr, h1, he, h2, h3]
    try simp
theorem ofInt_nat {a : Nat} (h : a < 9223372036854775808) : (BitVec.ofInt 64 (a : Int)).toNat = a := by
 rw [BitVec.toNat_ofInt]
 omega
theorem V_and (a b : Nat) (ha : a < 9223372036854775808) (hb : b < 9223372036854775808) : binAV .and (.int .i64 (a : Int)) (.int .i64 (b : Int)) = some (.int .i64 ((a &&& b : Nat) : Int)) := by
 have h1 : (BitVec.ofInt 64 (a : Int) &&& BitVec.ofInt 64 (b : Int)).toNat = a &&& b := by rw [BitVec.toNat_and, ofInt_nat ha, ofInt_nat hb]
 have h2 : a &&& b ≤ a := Nat.and_le_left
 have h3 : Go.Am.bits .and .i64 (a : Int) (b : Int) = ((a &&& b : Nat) : Int) := by
  show IntKind.i64.wrap (((BitVec.ofInt 64 (a : Int) &&& BitVec.ofInt 64 (b : Int)).toNat : Nat) : Int) = _
  rw [h1]
  exact wrap64 ⟨by omega, by omega⟩
 simp [binAV, binInt, h3]
theorem V_or (a b : Nat) (ha : a < 4611686018427387904) (hb : b < 4611686018427387904) : binAV .or (.int .i64 (a : Int)) (.int .i64 (b : Int)) = some (.int .i64 ((a ||| b : Nat) : Int)) := by
 have h1 : (BitVec.ofInt 64 (a : Int) ||| BitVec.ofInt 64 (b : Int)).toNat = a ||| b := by rw [BitVec.toNat_or, ofInt_nat (by omega), ofInt_nat (by omega)]
 have h2 : a ||| b < 2 ^ 62 := Nat.or_lt_two_pow (by omega) (by omega)
 have h3 : Go.Am.bits .or .i64 (a : Int) (b : Int) = ((a ||| b : Nat) : Int) := by
  show IntKind.i64.wrap (((BitVec.ofInt 64 (a : Int) ||| BitVec.ofInt 64 (b : Int)).toNat : Nat) : Int) = _
  rw [h1]
  exact wrap64 ⟨by omega, by omega⟩
 simp [binAV, binInt, h3]
def andN (a b : Nat) : Nat := a &&& (2 ^ 64 - (b + 1))
theorem andN_bit {b : Nat} (hb : b < 9223372036854775808) (a i : Nat) (ha : a < 9223372036854775808) : (andN a b).testBit i = (a.testBit i && !b.testBit i) := by
 rw [andN, Nat.testBit_and, Nat.testBit_two_pow_sub_succ (by omega)]
 by_cases hi : i < 64
 ·simp [hi]
 ·have : a.testBit i = false := Nat.testBit_lt_two_pow (Nat.lt_of_lt_of_le (show a < 2 ^ 63 by omega) (Nat.pow_le_pow_right (by omega) (by omega)))
  simp [this]
theorem andN_le (a b : Nat) : andN a b ≤ a := Nat.and_le_left
theorem V_andNot (a b : Nat) (ha : a < 9223372036854775808) (hb : b < 9223372036854775808) : binAV .andNot (.int .i64 (a : Int)) (.int .i64 (b : Int)) = some (.int .i64 ((andN a b : Nat) : Int)) := by
 have h1 : (BitVec.ofInt 64 (a : Int) &&& ~~~BitVec.ofInt 64 (b : Int)).toNat = andN a b := by
  rw [BitVec.toNat_and, BitVec.toNat_not, ofInt_nat ha, ofInt_nat hb, andN]
  congr 1
  omega
 have h2 := andN_le a b
 have h3 : Go.Am.bits .andNot .i64 (a : Int) (b : Int) = ((andN a b : Nat) : Int) := by
  show IntKind.i64.wrap (((BitVec.ofInt 64 (a : Int) &&& ~~~BitVec.ofInt 64 (b : Int)).toNat : Nat) : Int) = _
  rw [h1]
  exact wrap64 ⟨by omega, by omega⟩
 simp [binAV, binInt, h3]
theorem pow_small {i : Nat} (h : i ≤ 60) : 2 ^ i ≤ 1152921504606846976 := by
 calc 2 ^ i ≤ 2 ^ 60 := Nat.pow_le_pow_right (by omega) h
  _ = 1152921504606846976 := by decide
theorem V_shl1 (i : Nat) (h : i ≤ 60) : binAV .shl (.int .i64 1) (.int .i64 (i : Int)) = some (.int .i64 ((2 ^ i : Nat) : Int)) := by
 have hm : Nat.min i 64 = i := Nat.min_eq_left (by omega)
 have h0 : ¬ (i : Int) < 0 := by omega
 have hp := pow_small h
 have hc : (1 : Int) * 2 ^ i = ((2 ^ i : Nat) : Int) := by rw [Int.one_mul]; exact (Int.natCast_pow 2 i).symm
 simp only [binAV, h0, if_false, IntKind.bits, Int.toNat_natCast, hm, hc]
 generalize 2 ^ i = q at hp
 rw [wrap64 ⟨by omega, by omega⟩]
theorem bit_div (a i : Nat) : a.testBit i = decide (a / 2 ^ i % 2 = 1) := Nat.testBit_eq_decide_div_mod_eq
theorem mem_lst {n s : Nat} {x : Int} : x ∈ lst n s ↔ (0 ≤ x ∧ x < n) ∧ s.testBit x.toNat = true := by
 simp only [lst, List.mem_filter, numbers_mem, bit_div]
 constructor
 ·rintro ⟨h1, h2⟩; exact ⟨by omega, h2⟩
 ·rintro ⟨h1, h2⟩; exact ⟨by omega, h2⟩
theorem has_lst {n s i : Nat} (h : i < n) : (lst n s).contains (i : Int) = s.testBit i := by
 rw [Bool.eq_iff_iff, List.contains_iff_mem, mem_lst]
 simp only [Int.toNat_natCast]
 constructor
 ·rintro ⟨_, h2⟩; exact h2
 ·intro h2; exact ⟨⟨by omega, by omega⟩, h2⟩
theorem nat_eq0 (a : Nat) : ((a : Int) == 0) = decide (a = 0) := by rw [Bool.eq_iff_iff]; simp
structure ButIs (b : Nat) (bl : List Int) : Prop where
 lt : b < 9223372036854775808
 bit : ∀ i : Nat, i < 5 → (((b / 2 ^ i % 2 : Nat) : Int) == 0) = !bl.contains (i : Int)
theorem but0 : ButIs 0 [] := ⟨by omega, fun i hi => by simp⟩
theorem but_lst {n set : Nat} (hn : n ≤ 5) (hs : set < 2 ^ n) : ButIs set (lst n set) := by
 have hp : 2 ^ n ≤ 2 ^ 5 := Nat.pow_le_pow_right (by omega) hn
 refine ⟨by omega, fun i hi => ?_⟩
 have e : (((set / 2 ^ i % 2 : Nat) : Int) == 0) = !set.testBit i := by
  rw [bit_div, nat_eq0, Bool.eq_iff_iff]
  simp
 rw [e]
 by_cases h : i < n
 ·rw [has_lst h]
 ·have h1 : set.testBit i = false := Nat.testBit_lt_two_pow (Nat.lt_of_lt_of_le hs (Nat.pow_le_pow_right (by omega) (by omega)))
  have h2 : (lst n set).contains (i : Int) = false := by
   rw [Bool.eq_false_iff]
   intro hc
   rw [List.contains_iff_mem, mem_lst] at hc
   omega
  rw [h1, h2]
end Go.Am.Room
set_option maxRecDepth 4000
namespace Go.Am.Room
def QXFCmp := And.intro @Int.toNat_natCast (@List.length_append.{0})
theorem isnan_ok (n : Int) : Pure T 108 [.int .i64 n] (.bool false) := by
 refine pure_fn (af := a108) rfl (by simp [a108]) dd ?_
 (repeat (first | simp only [↓QA, QB, Nat.reduceLT, reduceIte, Nat.reduceEqDiff, Nat.reduceAdd, Nat.reduceLeDiff, Nat.reduceMul, Nat.reduceBEq, QXFCmp, a108] | refine rd0 rfl ?_))
 try simp
def cmpI (a b : Int) : Int := if a < b then -1 else if b < a then 1 else 0
theorem cmp_ok (a b : Int) : Pure T 100 [.int .i64 a, .int .i64 b] (.int .i64 (cmpI a b)) := by
 refine pure_fn (af := a100) rfl (by simp [a100]) dd ?_
 (repeat (first | simp only [↓QA, QB, Nat.reduceLT, reduceIte, Nat.reduceEqDiff, Nat.reduceAdd, Nat.reduceLeDiff, Nat.reduceMul, Nat.reduceBEq, QXFCmp, a100] | refine rd0 rfl ?_))
 ((first | refine callK_d (isnan_ok a) rfl dd ?_ | refine callD_d (isnan_ok a) rfl dd ?_); (repeat (first | simp only [↓QA, QB, Nat.reduceLT, reduceIte, Nat.reduceEqDiff, Nat.reduceAdd, Nat.reduceLeDiff, Nat.reduceMul, Nat.reduceBEq, QXFCmp] | refine rd0 rfl ?_)))
 ((first | refine callK_d (isnan_ok b) rfl dd ?_ | refine callD_d (isnan_ok b) rfl dd ?_); (repeat (first | simp only [↓QA, QB, Nat.reduceLT, reduceIte, Nat.reduceEqDiff, Nat.reduceAdd, Nat.reduceLeDiff, Nat.reduceMul, Nat.reduceBEq, QXFCmp] | refine rd0 rfl ?_)))
 cases h1 : decide (a < b)
 ·have h1' : ¬ a < b := by simpa using h1
  (repeat (first | simp only [↓QA, QB, Nat.reduceLT, reduceIte, Nat.reduceEqDiff, Nat.reduceAdd, Nat.reduceLeDiff, Nat.reduceMul, Nat.reduceBEq, QXFCmp] | refine rd0 rfl ?_))
  cases h2 : decide (b < a)
  ·have h2' : ¬ b < a := by simpa using h2
   (repeat (first | simp only [↓QA, QB, Nat.reduceLT, reduceIte, Nat.reduceEqDiff, Nat.reduceAdd, Nat.reduceLeDiff, Nat.reduceMul, Nat.reduceBEq, QXFCmp] | refine rd0 rfl ?_))
   simp [cmpI, h1', h2']
  ·have h2' : b < a := by simpa using h2
   (repeat (first | simp only [↓QA, QB, Nat.reduceLT, reduceIte, Nat.reduceEqDiff, Nat.reduceAdd, Nat.reduceLeDiff, Nat.reduceMul, Nat.reduceBEq, QXFCmp] | refine rd0 rfl ?_))
   simp [cmpI, h1', h2']
 ·have h1' : a < b := by simpa using h1
  (repeat (first | simp only [↓QA, QB, Nat.reduceLT, reduceIte, Nat.reduceEqDiff, Nat.reduceAdd, Nat.reduceLeDiff, Nat.reduceMul, Nat.reduceBEq, QXFCmp] | refine rd0 rfl ?_))
  simp [cmpI, h1']
def cmpL : List Int → List Int → Int
 | [], [] => 0
 | [], _ :: _ => -1
 | _ :: _, [] => 1
 | a :: az, b :: bs => if cmpI a b = 0 then cmpL az bs else cmpI a b
theorem cmpL_less : ∀ a b : List Int, decide (0 < cmpL a b) = less b a
 | [], [] => rfl
 | [], b :: bs => rfl
 | a :: az, [] => rfl
 | a :: az, b :: bs => by
  have ih := cmpL_less az bs
  simp only [cmpL, less, cmpI]
  by_cases h1 : a < b
  ·simp [h1, show ¬ b = a by omega]; omega
  ·by_cases h2 : b < a
   ·simp [h1, h2, show ¬ b = a by omega]
   ·have : b = a := by omega
    subst this
    simp [ih]
theorem scmp_ok (a b : List Int) (ha : a.length < 9223372036854775808) (hb : b.length < 9223372036854775808) : Pure T 84 [ints a, ints b] (.int .i64 (cmpL a b)) := by
 refine pure_fn (af := a84) rfl (by simp [a84]) dd ?_
 (repeat (first | simp only [↓QA, QB, Nat.reduceLT, reduceIte, Nat.reduceEqDiff, Nat.reduceAdd, Nat.reduceLeDiff, Nat.reduceMul, Nat.reduceBEq, QXFCmp, a84] | refine rd0 rfl ?_))
 refine loopE (S := Nat) 0 (fun k => k ≤ a.length ∧ k ≤ b.length ∧ cmpL (a.drop k) (b.drop k) = cmpL a b) (fun k => a.length - k) (fun k => [(0, ints a), (1, ints b), (9, ints a), (10, .int .i64 a.length), (11, .int .i64 k)]) (fun _ => []) ⟨by simp, by simp, by simp⟩ rfl ?_ fun k hk => ?_
 ·try simp only [TrimX, QE, Nat.reduceLT, reduceIte, Nat.reduceEqDiff, Nat.reduceAdd, Nat.reduceLeDiff, Nat.reduceMul, Nat.reduceBEq, QXFCmp]
  try simp
 ·obtain ⟨hk, hkb, hq⟩ := hk
  (repeat (first | simp only [↓QA, QB, Nat.reduceLT, reduceIte, Nat.reduceEqDiff, Nat.reduceAdd, Nat.reduceLeDiff, Nat.reduceMul, Nat.reduceBEq, QXFCmp, L84_0] | refine rd0 rfl ?_))
  refine iteP_intro (fun h => ?_) fun h => ?_
  ·have hk1 : k < a.length := by simpa using h
   have hw := wrapN hk1 ha
   rw [List.drop_eq_getElem_cons hk1] at hq
   (repeat (first | simp only [↓QA, QB, Nat.reduceLT, reduceIte, Nat.reduceEqDiff, Nat.reduceAdd, Nat.reduceLeDiff, Nat.reduceMul, Nat.reduceBEq, QXFCmp, hk1] | refine rd0 rfl ?_))
   refine iteP_intro (fun h2 => ?_) fun h2 => ?_
   ·have hk2 : k = b.length := by simp at h2; omega
    have hd : b.drop k = [] := by rw [hk2, List.drop_length]
    rw [hd] at hq
    simp only [cmpL] at hq
    (repeat (first | simp only [↓QA, QB, Nat.reduceLT, reduceIte, Nat.reduceEqDiff, Nat.reduceAdd, Nat.reduceLeDiff, Nat.reduceMul, Nat.reduceBEq, QXFCmp, hk1, ← hq] | refine rd0 rfl ?_))
   ·have hk2 : k < b.length := by simp at h2; omega
    rw [List.drop_eq_getElem_cons hk2] at hq
    simp only [cmpL] at hq
    (repeat (first | simp only [↓QA, QB, Nat.reduceLT, reduceIte, Nat.reduceEqDiff, Nat.reduceAdd, Nat.reduceLeDiff, Nat.reduceMul, Nat.reduceBEq, QXFCmp, hk1, hk2] | refine rd0 rfl ?_))
    ((first | refine callK_d (cmp_ok a[k] b[k]) rfl dd ?_ | refine callD_d (cmp_ok a[k] b[k]) rfl dd ?_); (repeat (first | simp only [↓QA, QB, Nat.reduceLT, reduceIte, Nat.reduceEqDiff, Nat.reduceAdd, Nat.reduceLeDiff, Nat.reduceMul, Nat.reduceBEq, QXFCmp, hk1, hk2] | refine rd0 rfl ?_)))
    cases h3 : (cmpI a[k] b[k] == 0)
    ·have h3' : cmpI a[k] b[k] ≠ 0 := by simpa using h3
     rw [if_neg h3'] at hq
     (repeat (first | simp only [↓QA, QB, Nat.reduceLT, reduceIte, Nat.reduceEqDiff, Nat.reduceAdd, Nat.reduceLeDiff, Nat.reduceMul, Nat.reduceBEq, QXFCmp, h3, hk1, hk2, hq] | refine rd0 rfl ?_))
    ·have h3' : cmpI a[k] b[k] = 0 := by simpa using h3
     rw [if_pos h3'] at hq
     (repeat (first | simp only [↓QA, QB, Nat.reduceLT, reduceIte, Nat.reduceEqDiff, Nat.reduceAdd, Nat.reduceLeDiff, Nat.reduceMul, Nat.reduceBEq, QXFCmp, h3, hk1, hk2] | refine rd0 rfl ?_))
     refine ⟨k + 1, ⟨by omega, by omega, hq⟩, by omega, ?_⟩
     try simp only [TrimX, QE, Nat.reduceLT, reduceIte, Nat.reduceEqDiff, Nat.reduceAdd, Nat.reduceLeDiff, Nat.reduceMul, Nat.reduceBEq, QXFCmp, hw]
  ·have hk1 : k = a.length := by simp at h; omega
   rw [hk1, List.drop_length] at hq
   (repeat (first | simp only [↓QA, QB, Nat.reduceLT, reduceIte, Nat.reduceEqDiff, Nat.reduceAdd, Nat.reduceLeDiff, Nat.reduceMul, Nat.reduceBEq, QXFCmp] | refine rd0 rfl ?_))
   refine iteP_intro (fun h2 => ?_) fun h2 => ?_
   ·have hk2 : a.length < b.length := by simpa using h2
    rw [List.drop_eq_getElem_cons hk2] at hq
    (repeat (first | simp only [↓QA, QB, Nat.reduceLT, reduceIte, Nat.reduceEqDiff, Nat.reduceAdd, Nat.reduceLeDiff, Nat.reduceMul, Nat.reduceBEq, QXFCmp, ← hq, cmpL] | refine rd0 rfl ?_))
   ·have hk2 : a.length = b.length := by simp at h2; omega
    rw [hk2, List.drop_length] at hq
    (repeat (first | simp only [↓QA, QB, Nat.reduceLT, reduceIte, Nat.reduceEqDiff, Nat.reduceAdd, Nat.reduceLeDiff, Nat.reduceMul, Nat.reduceBEq, QXFCmp, ← hq, cmpL] | refine rd0 rfl ?_))
theorem cells_lt {σ : St} {i : Nat} {cs : List AV} (h : cellsAt σ i = some cs) : i < σ.length := by
 unfold cellsAt at h
 by_cases hi : i < σ.length
 ·exact hi
 ·rw [List.getElem?_eq_none (by omega)] at h
  cases h
theorem cells_app {σ : St} {i : Nat} {cs : List AV} (h : cellsAt σ i = some cs) (τ : St) : cellsAt (σ ++ τ) i = some cs := by
 have hl := cells_lt h
 simp only [cellsAt] at h ⊢
 rw [List.getElem?_append_left hl]
 exact h
end Go.Am.Room
