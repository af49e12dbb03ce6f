/- A part of the proofs: an abstract machine, or what functions come to on it. -/
import Derived.Test.YtnjlkiflililkaaCmpQ3
import Derived.Lib.Strings
import Derived.Laws.RangeAny
set_option linter.unusedVariables false
set_option linter.unusedSimpArgs false
set_option linter.defProp false
namespace Go.Am
variable {T : FuncId → Option AFunc}
def bindO (r : Option (AV × St)) (K : AV → St → Prop) : Prop :=
 match r with
 | some (v, σ) => K v σ
 | none => False
@[congr] theorem bindO_congr {r r' : Option (AV × St)} {K : AV → St → Prop} (h : r = r') : bindO r K = bindO r' K := by rw [h]
@[simp] theorem bindO_some (v : AV) (σ : St) (K : AV → St → Prop) : bindO (some (v, σ)) K = K v σ := rfl
@[simp] theorem bindO_none (K : AV → St → Prop) : bindO none K = False := rfl
@[simp] theorem bindO_ite (c : Prop) [Decidable c] (r q : Option (AV × St)) (K : AV → St → Prop) : bindO (if c then r else q) K = if c then bindO r K else bindO q K := by split <;> rfl
def bindB (v : AV) (A B : Unit → Prop) : Prop :=
 match v with
 | .bool true => A ()
 | .bool false => B ()
 | _ => False
@[congr] theorem bindB_congr {v v' : AV} {A B : Unit → Prop} (h : v = v') : bindB v A B = bindB v' A B := by rw [h]
@[simp] theorem bindB_bool (b : Bool) (A B : Unit → Prop) : bindB (.bool b) A B = if b = true then A () else B () := by cases b <;> rfl
def bindG (v : AV) (want : Bool) (A B : Unit → Prop) : Prop :=
 match v with
 | .bool b => if b = want then A () else B ()
 | .tuple [] => B ()
 | _ => False
@[congr] theorem bindG_congr {v v' : AV} {want : Bool} {A B : Unit → Prop} (h : v = v') : bindG v want A B = bindG v' want A B := by rw [h]
@[simp] theorem bindG_bool (b want : Bool) (A B : Unit → Prop) : bindG (.bool b) want A B = if b = want then A () else B () := rfl
@[simp] theorem bindG_off (want : Bool) (A B : Unit → Prop) : bindG (.tuple []) want A B = B () := rfl
def CallK (T : FuncId → Option AFunc) (f : AV) (args : List AV) (σ : St) (K : AV → St → Prop) : Prop := Run T (.callv f args σ) fun r => K r.v r.σ
@[congr] theorem CallK_congr {f f' : AV} {args args' : List AV} {σ σ' : St} {K : AV → St → Prop} (h1 : f = f') (h2 : args = args') (h3 : σ = σ') : CallK T f args σ K = CallK T f' args' σ' K := by rw [h1, h2, h3]
def wpOp (T : FuncId → Option AFunc) (q : AOp) (e : Env) (σ : St) (K : AV → St → Prop) : Prop :=
 match q with
 | .call f args => CallK T (f.ev e) (args.map (·.ev e)) σ K
 | q => bindO (aop q e σ) K
@[congr] theorem wpOp_congr {q : AOp} {e e' : Env} {σ σ' : St} {K : AV → St → Prop} (h2 : e = e') (h3 : σ = σ') : wpOp T q e σ K = wpOp T q e' σ' K := by rw [h2, h3]
def wpOps (T : FuncId → Option AFunc) : List AOper → Env → St → (Env → St → Prop) → Prop
 | [], e, σ, K => K e σ
 | ⟨dst, q, none⟩ :: os, e, σ, K => wpOp T q e σ fun v σ' => wpOps T os (Env.put e dst v) σ' K
 | ⟨dst, q, some (t, want)⟩ :: os, e, σ, K =>
  bindG (Env.get e t) want (fun _ => wpOp T q e σ fun v σ' => wpOps T os (Env.put e dst v) σ' K) (fun _ => wpOps T os (Env.put e dst (.tuple [])) σ K)
@[congr] theorem wpOps_congr {os : List AOper} {e e' : Env} {σ σ' : St} {K : Env → St → Prop} (h2 : e = e') (h3 : σ = σ') : wpOps T os e σ K = wpOps T os e' σ' K := by rw [h2, h3]
theorem run_wpOps {Q : Out → Prop} : ∀ {os : List AOper} {e : Env} {σ : St} {K : Env → St → Prop}, wpOps T os e σ K → (∀ e σ, K e σ → Q ⟨none, e, σ, .undef⟩) → Run T (.ops os e σ) Q
 | [], e, σ, K, h, hq => .nil (hq _ _ h)
 | o :: os, e, σ, K, h, hq => by
  have key : o.wanted e = some true → wpOp T o.op e σ (fun v σ' => wpOps T os (Env.put e o.dst v) σ' K) → Run T (.ops (o :: os) e σ) Q := by
   intro hw h
   by_cases hc : ∃ f args, o.op = .call f args
   ·obtain ⟨f, args, ho⟩ := hc
    rw [ho] at h
    exact .stepc hw ho h fun r hr => run_wpOps hr hq
   ·have : ∃ v σ', aop o.op e σ = some (v, σ') ∧ wpOps T os (Env.put e o.dst v) σ' K := by
     unfold wpOp at h
     split at h
     ·rename_i f args ho; exact absurd ⟨f, args, ho⟩ hc
     ·unfold bindO at h
      split at h
      ·rename_i v σ' hv; exact ⟨v, σ', hv, h⟩
      ·exact h.elim
    obtain ⟨v, σ', h1, h2⟩ := this
    exact .step hw h1 (run_wpOps h2 hq)
  obtain ⟨dst, q, g⟩ := o
  cases g with
  | none => exact key rfl h
  | some g =>
   obtain ⟨t, want⟩ := g
   simp only [wpOps, bindG] at h
   split at h
   ·rename_i b h1
    split at h
    ·rename_i hb
     exact key (by simp [AOper.wanted, h1, hb]) h
    ·rename_i hb
     exact .off (by simp [AOper.wanted, h1]; simpa using hb) (run_wpOps h hq)
   ·rename_i h1
    exact .off (by simp [AOper.wanted, h1]) (run_wpOps h hq)
   ·exact h.elim
abbrev KJ := Option AJump → Env → St → Prop
def thenK (A K : KJ) : KJ := fun j e σ => match j with | none => A none e σ | some j => K (some j) e σ
@[simp] theorem thenK_none (A K : KJ) (e : Env) (σ : St) : thenK A K none e σ = A none e σ := rfl
@[simp] theorem thenK_some (A K : KJ) (j : AJump) (e : Env) (σ : St) : thenK A K (some j) e σ = K (some j) e σ := rfl
def blockK (id : Nat) (K : KJ) : KJ := fun j e σ => match j with | some (.exit i) => if i = id then K none e σ else K (some (.exit i)) e σ | j => K j e σ
@[simp] theorem blockK_none (id : Nat) (K : KJ) (e : Env) (σ : St) : blockK id K none e σ = K none e σ := rfl
@[simp] theorem blockK_ret (id : Nat) (K : KJ) (e : Env) (σ : St) : blockK id K (some .ret) e σ = K (some .ret) e σ := rfl
@[simp] theorem blockK_exit (id i : Nat) (K : KJ) (e : Env) (σ : St) : blockK id K (some (.exit i)) e σ = if i = id then K none e σ else K (some (.exit i)) e σ := rfl
def RunK (T : FuncId → Option AFunc) (c : ACode) (e : Env) (σ : St) (K : KJ) : Prop := Run T (.code c e σ) fun o => K o.j o.env o.σ
@[congr] theorem RunK_congr {c : ACode} {e e' : Env} {σ σ' : St} {K : KJ} (h2 : e = e') (h3 : σ = σ') : RunK T c e σ K = RunK T c e' σ' K := by rw [h2, h3]
def wp (T : FuncId → Option AFunc) : ACode → Env → St → KJ → Prop
 | .skip, e, σ, K => K none e σ
 | .reg os, e, σ, K => wpOps T os e σ fun e σ => K none e σ
 | .seq a b, e, σ, K => wp T a e σ (thenK (fun _ e σ => wp T b e σ K) K)
 | .cond c a b, e, σ, K => bindB (c.ev e) (fun _ => wp T a e σ K) (fun _ => wp T b e σ K)
 | .block id b, e, σ, K => wp T b e σ (blockK id K)
 | .jump j, e, σ, K => K (some j) e σ
 | .scope b, e, σ, K => wp T b e σ K
 | c, e, σ, K => RunK T c e σ K
@[congr] theorem wp_congr {c : ACode} {e e' : Env} {σ σ' : St} {K : KJ} (h2 : e = e') (h3 : σ = σ') : wp T c e σ K = wp T c e' σ' K := by rw [h2, h3]
theorem run_wp {Q : Out → Prop} : ∀ {c : ACode} {e : Env} {σ : St} {K : KJ}, wp T c e σ K → (∀ o, K o.j o.env o.σ → Q o) → Run T (.code c e σ) Q := by
 intro c
 induction c generalizing Q with
 | skip => intro e σ K h hq; exact .skip (hq ⟨none, e, σ, .undef⟩ h)
 | reg os => intro e σ K h hq; exact .reg (run_wpOps h fun e σ hk => hq ⟨none, e, σ, .undef⟩ hk)
 | dreg ds => intro e σ K h hq; exact .mono h hq
 | seq a b iha ihb =>
  intro e σ K h hq
  refine .seq (iha h fun o ho => ho) (fun o ho hj => ?_) fun o ho hj => ?_
  ·simp only [hj, thenK] at ho
   exact ihb ho hq
  ·refine hq o ?_
   cases hj' : o.j with
   | none => exact absurd hj' hj
   | some j => simp only [hj', thenK] at ho; exact ho
 | cond c a b iha ihb =>
  intro e σ K h hq
  simp only [wp, bindB] at h
  split at h
  ·rename_i h1; exact .cond true h1 (iha h hq)
  ·rename_i h1; exact .cond false h1 (ihb h hq)
  ·exact h.elim
 | block id b ih =>
  intro e σ K h hq
  refine .block (ih h fun o ho => ho) fun o ho => hq _ ?_
  unfold blockK at ho
  split at ho
  ·rename_i i hj
   split at ho
   ·rename_i hi; subst hi; rw [if_pos hj]; exact ho
   ·rename_i hi; rw [if_neg (by rw [hj]; simpa using hi), hj]; exact ho
  ·rename_i hj
   rw [if_neg (fun e => hj _ e)]
   exact ho
 | loop b ih => intro e σ K h hq; exact .mono h hq
 | rangeFunc f ps a b _ _ => intro e σ K h hq; exact .mono h hq
 | jump j => intro e σ K h hq; exact .jump (hq ⟨some j, e, σ, .undef⟩ h)
 | scope b ih => intro e σ K h hq; exact .scope (ih h hq)
def Pure (T : FuncId → Option AFunc) (f : FuncId) (args : List AV) (v : AV) : Prop := ∀ σ, Run T (.call f args σ) fun o => o.v = v ∧ o.σ = σ
theorem st_get (σ τ : St) (k : Nat) : (σ ++ τ)[σ.length + k]? = τ[k]? := by rw [List.getElem?_append_right (by omega)]; congr 1; omega
theorem st_set (σ τ : St) (k : Nat) (x : ABlk) : (σ ++ τ).set (σ.length + k) x = σ ++ τ.set k x := by rw [List.set_append_right _ _ (by omega)]; congr 2; omega
theorem st_set0 (σ τ : St) (x : ABlk) : (σ ++ τ).set σ.length x = σ ++ τ.set 0 x := st_set σ τ 0 x
end Go.Am
namespace Go.Am
variable {T : FuncId → Option AFunc}
theorem q_put (e : Env) (d : Nat) (v : AV) : Env.put e (some d) v = (d, v) :: e := by simp only [Env.put]
theorem q_put0 (e : Env) (v : AV) : Env.put e none v = e := by simp only [Env.put]
theorem q_get (k : Nat) (v : AV) (e : Env) (t : Nat) : Env.get ((k, v) :: e) t = if k = t then v else Env.get e t := by simp only [Env.get]
theorem q_evt (e : Env) (t : Nat) : AOpd.ev e (.t t) = Env.get e t := by simp only [AOpd.ev]
theorem q_evc (e : Env) (v : AV) : AOpd.ev e (.c v) = v := by simp only [AOpd.ev]
theorem q_reg (os : List AOper) (e : Env) (σ : St) (K : KJ) : wp T (.reg os) e σ K = wpOps T os e σ fun e σ => K none e σ := by simp only [wp]
theorem q_seq (a b : ACode) (e : Env) (σ : St) (K : KJ) : wp T (.seq a b) e σ K = wp T a e σ (thenK (fun _ e σ => wp T b e σ K) K) := by simp only [wp]
theorem q_jump (j : AJump) (e : Env) (σ : St) (K : KJ) : wp T (.jump j) e σ K = K (some j) e σ := by simp only [wp]
theorem q_then (A K : KJ) (e : Env) (σ : St) : thenK A K none e σ = A none e σ := by simp only [thenK]
theorem q_nil (e : Env) (σ : St) (K : Env → St → Prop) : wpOps T [] e σ K = K e σ := by simp only [wpOps]
def optV (r : Option AV) (σ : St) (K : AV → St → Prop) : Prop := match r with | some v => K v σ | none => False
@[congr] theorem optV_congr {r r' : Option AV} {σ σ' : St} {K : AV → St → Prop} (h : r = r') (h2 : σ = σ') : optV r σ K = optV r' σ' K := by rw [h, h2]
def optC (r : Option (List AV)) (σ : St) (K : AV → St → Prop) : Prop := match r with | some cs => K (.agg cs) σ | none => False
@[congr] theorem optC_congr {r r' : Option (List AV)} {σ σ' : St} {K : AV → St → Prop} (h : r = r') (h2 : σ = σ') : optC r σ K = optC r' σ' K := by rw [h, h2]
def optS (r : Option St) (K : AV → St → Prop) : Prop := match r with | some σ => K (.tuple []) σ | none => False
@[congr] theorem optS_congr {r r' : Option St} {K : AV → St → Prop} (h : r = r') : optS r K = optS r' K := by rw [h]
def vCells (n : Nat) (v : AV) : Option (List AV) := if (v.cells.length == n && v.cells.all (·.cell)) = true then some v.cells else none
def vFaddr (off : Nat) : AV → Option AV
 | .ptr id o => some (.ptr id (o + off))
 | .lptr xs i o t => some (.lptr xs i (o + off) t)
 | _ => none
theorem q_faddrP (off id o : Nat) : vFaddr off (.ptr id o) = some (.ptr id (o + off)) := by simp [vFaddr]
theorem q_faddrL (off : Nat) (xs : List AV) (i o : Nat) (t : Option Nat) : vFaddr off (.lptr xs i o t) = some (.lptr xs i (o + off) t) := by simp [vFaddr]
def optN (r : Option (List AV)) (σ : St) (K : AV → St → Prop) : Prop := match r with | some cs => K (.ptr σ.length 0) (σ ++ [.cells cs]) | none => False
@[congr] theorem optN_congr {r r' : Option (List AV)} {σ σ' : St} {K : AV → St → Prop} (h : r = r') (h2 : σ = σ') : optN r σ K = optN r' σ' K := by rw [h, h2]
def vExt (i : Nat) : AV → Option AV
 | .tuple vs => vs[i]?
 | _ => none
theorem q_extT (i : Nat) (vs : List AV) : vExt i (.tuple vs) = vs[i]? := by simp [vExt]
def vNot : AV → Option AV
 | .bool b => some (.bool !b)
 | _ => none
theorem q_notB (b : Bool) : vNot (.bool b) = some (.bool !b) := by simp [vNot]
def vEql (sh : EqTy) (neg : Bool) (x y : AV) : Option AV := (eqSh sh x y).map fun b => .bool (if neg then !b else b)
theorem q_skip (e : Env) (σ : St) (K : KJ) : wp T .skip e σ K = K none e σ := by simp only [wp]
theorem q_block (id : Nat) (b : ACode) (e : Env) (σ : St) (K : KJ) : wp T (.block id b) e σ K = wp T b e σ (blockK id K) := by simp only [wp]
theorem q_scope (b : ACode) (e : Env) (σ : St) (K : KJ) : wp T (.scope b) e σ K = wp T b e σ K := by simp only [wp]
theorem q_thenJ (A K : KJ) (j : AJump) (e : Env) (σ : St) : thenK A K (some j) e σ = K (some j) e σ := by simp only [thenK]
theorem q_arg0 (k : Nat) : argsEnv k [] = [] := by simp only [argsEnv]
theorem q_arg (k : Nat) (v : AV) (vs : List AV) : argsEnv k (v :: vs) = (k, v) :: argsEnv (k + 1) vs := by simp only [argsEnv]
theorem q_bcI (e : Env) (cs : List AV) (off n : Nat) (x : AOpd) (rest : List (Nat × Nat × AOpd)) :
  buildCells e cs ((off, n, x) :: rest) = ((vCells n (x.ev e)).bind fun us => setCells cs off us).bind fun cs => buildCells e cs rest := by
 simp only [buildCells, vCells]; split
 ·simp only [Option.bind_some]; cases setCells cs off (x.ev e).cells <;> simp
 ·simp
end Go.Am
namespace Go.Am
variable {T : FuncId → Option AFunc}
def LoopK (I : Nat → Env → St → Prop) (k : Nat) (K : KJ) : KJ := fun j e σ => match j with | none => ∃ k', k' < k ∧ I k' e σ | some j => K (some j) e σ
theorem q_loopNone (I : Nat → Env → St → Prop) (k : Nat) (K : KJ) (e : Env) (σ : St) : LoopK I k K none e σ = ∃ k', k' < k ∧ I k' e σ := by simp only [LoopK]
theorem q_loopSome (I : Nat → Env → St → Prop) (k : Nat) (K : KJ) (j : AJump) (e : Env) (σ : St) : LoopK I k K (some j) e σ = K (some j) e σ := by simp only [LoopK]
theorem loopK {b : ACode} {K : KJ} (I : Nat → Env → St → Prop) (step : ∀ k e σ, I k e σ → wp T b e σ (LoopK I k K)) : ∀ n e σ, I n e σ → RunK T (.loop b) e σ K := by
 intro n
 induction n using Nat.strongRecOn with
 | _ n ih =>
  intro e σ h
  refine .loop (run_wp (step n e σ h) fun o ho => ho) (fun o ho hj => ?_) fun o ho hj => ?_
  ·simp only [hj, q_loopNone] at ho
   obtain ⟨k', hk, hI⟩ := ho
   exact ih k' hk o.env o.σ hI
  ·cases hj' : o.j with
   | none => exact absurd hj' hj
   | some j => simp only [hj', q_loopSome] at ho; exact ho
end Go.Am
namespace Go.Am
variable {T : FuncId → Option AFunc}
def readP (r : ARead) : List St → Nat → Prop
 | [], _ => True
 | s :: ss, j => (if r.lo ≤ j ∧ j ≤ r.hi then aop r.op r.env s = some (r.v, s) else True) ∧ readP r ss (j + 1)
theorem readP_ok {r : ARead} : ∀ {hist : List St} {k : Nat}, readP r hist k → ∀ j s, r.lo ≤ k + j → k + j ≤ r.hi → hist[j]? = some s → aop r.op r.env s = some (r.v, s)
 | [], k, _, j, s, _, _, h => by simp at h
 | t :: ss, k, h, j, s, h1, h2, h3 => by
  obtain ⟨q1, q2⟩ := h
  cases j with
  | zero => simp at h3; subst h3; rw [if_pos ⟨by omega, by omega⟩] at q1; exact q1
  | succ j => exact readP_ok q2 j s (by omega) (by omega) (by simpa using h3)
def readsP : List ARead → List St → Prop
 | [], _ => True
 | r :: rs, hist => readP r hist 0 ∧ readsP rs hist
theorem readsP_ok : ∀ {rs : List ARead} {hist : List St}, readsP rs hist → ∀ r ∈ rs, ARead.ok r hist
 | [], _, _, r, h => by cases h
 | r :: rs, hist, h, q, hq => by
  rcases List.mem_cons.1 hq with rfl | hq
  ·intro j s h1 h2 h3
   exact readP_ok h.1 j s (by omega) (by omega) h3
  ·exact readsP_ok h.2 q hq
def CallD (T : FuncId → Option AFunc) (f : AV) (args : List AV) (σ : St) (K : AV → St → Prop) : Prop := ∃ v σ', Run T (.callv f args σ) (fun r => r.v = v ∧ r.σ = σ') ∧ K v σ'
@[congr] theorem CallD_congr {f f' : AV} {args args' : List AV} {σ σ' : St} {K : AV → St → Prop} (h1 : f = f') (h2 : args = args') (h3 : σ = σ') : CallD T f args σ K = CallD T f' args' σ' K := by rw [h1, h2, h3]
def wpD (T : FuncId → Option AFunc) : List ADOper → Env → St → Nat → List St → List ARead → (Env → St → Prop) → Prop
 | [], e, σ, _, hist, reads, K => readsP reads hist ∧ K e σ
 | ⟨⟨dst, .call f args, none⟩, _, _⟩ :: ds, e, σ, next, hist, reads, K => CallD T (f.ev e) (args.map (·.ev e)) σ fun v σ' => wpD T ds (Env.put e dst v) σ' next (hist ++ [σ']) reads K
 | ⟨⟨dst, .alloc _, none⟩, _, _⟩ :: ds, e, σ, next, hist, reads, K => wpD T ds (Env.put e dst (.ptr next 0)) σ (next + 1) hist reads K
 | ⟨⟨dst, q, none⟩, lo, hi⟩ :: ds, e, σ, next, hist, reads, K =>
  bindO (aop q e σ) fun v σ' =>
   if q.acts = true then wpD T ds (Env.put e dst v) σ' next (hist ++ [σ']) reads K
   else σ' = σ ∧ if q.reads = true then wpD T ds (Env.put e dst v) σ next hist (⟨lo, hi, q, e, v⟩ :: reads) K else wpD T ds (Env.put e dst v) σ next hist reads K
 | ⟨⟨dst, .call f args, some (t, want)⟩, _, _⟩ :: ds, e, σ, next, hist, reads, K =>
  bindG (Env.get e t) want (fun _ => CallD T (f.ev e) (args.map (·.ev e)) σ fun v σ' => wpD T ds (Env.put e dst v) σ' next (hist ++ [σ']) reads K)
   (fun _ => wpD T ds (Env.put e dst (.tuple [])) σ next (hist ++ [σ]) reads K)
 | ⟨⟨dst, q, some (t, want)⟩, lo, hi⟩ :: ds, e, σ, next, hist, reads, K =>
  bindG (Env.get e t) want
   (fun _ => q.allocs = false ∧ bindO (aop q e σ) fun v σ' =>
    if q.acts = true then wpD T ds (Env.put e dst v) σ' next (hist ++ [σ']) reads K
    else σ' = σ ∧ if q.reads = true then wpD T ds (Env.put e dst v) σ next hist (⟨lo, hi, q, e, v⟩ :: reads) K else wpD T ds (Env.put e dst v) σ next hist reads K)
   (fun _ => wpD T ds (Env.put e dst (.tuple [])) σ (if q.allocs then next + 1 else next) (if q.acts then hist ++ [σ] else hist) reads K)
theorem run_wpD {Q : Out → Prop} : ∀ {ds : List ADOper} {e : Env} {σ : St} {next : Nat} {hist : List St} {reads : List ARead} {K : Env → St → Prop}, wpD T ds e σ next hist reads K →
  (∀ e σ, K e σ → Q ⟨none, e, σ, .undef⟩) → Run T (.dops ds e σ next hist reads) Q
 | [], e, σ, next, hist, reads, K, h, hq => .dnil (readsP_ok h.1) (hq _ _ h.2)
 | ⟨⟨dst, q, g⟩, lo, hi⟩ :: ds, e, σ, next, hist, reads, K, h, hq => by
  -- an operation that is neither a call nor a new variable
  have key : AOper.wanted ⟨dst, q, g⟩ e = some true → q.allocs = false → (bindO (aop q e σ) fun v σ' =>
    if q.acts = true then wpD T ds (Env.put e dst v) σ' next (hist ++ [σ']) reads K
    else σ' = σ ∧ if q.reads = true then wpD T ds (Env.put e dst v) σ next hist (⟨lo, hi, q, e, v⟩ :: reads) K else wpD T ds (Env.put e dst v) σ next hist reads K) →
    Run T (.dops (⟨⟨dst, q, g⟩, lo, hi⟩ :: ds) e σ next hist reads) Q := by
   intro hw hal h
   unfold bindO at h
   split at h
   ·rename_i v σ' hv
    split at h
    ·rename_i ha; exact .dact hw ha hv (run_wpD h hq)
    ·rename_i ha
     obtain ⟨rfl, h⟩ := h
     split at h
     ·rename_i hr; exact .dread hw hr hv (run_wpD h hq)
     ·rename_i hr; exact .dpure hw (by simp [hal]; exact ⟨by simpa using ha, by simpa using hr⟩) hv (run_wpD h hq)
   ·exact h.elim
  by_cases hc : ∃ f args, q = .call f args
  ·obtain ⟨f, args, rfl⟩ := hc
   cases g with
   | none =>
    simp only [wpD, CallD] at h
    obtain ⟨v, σ', h1, h2⟩ := h
    exact .dcall rfl rfl h1 (run_wpD h2 hq)
   | some g =>
    obtain ⟨t, want⟩ := g
    simp only [wpD, bindG] at h
    split at h
    ·rename_i b h1
     split at h
     ·rename_i hb
      obtain ⟨v, σ', h3, h4⟩ := h
      exact .dcall (by simp [AOper.wanted, h1, hb]) rfl h3 (run_wpD h4 hq)
     ·rename_i hb
      exact .doff (by simp [AOper.wanted, h1]; simpa using hb) (by simpa [AOp.allocs, AOp.acts] using run_wpD h hq)
    ·rename_i h1
     exact .doff (by simp [AOper.wanted, h1]) (by simpa [AOp.allocs, AOp.acts] using run_wpD h hq)
    ·exact h.elim
  ·cases g with
   | none =>
    by_cases hal : ∃ z, q = .alloc z
    ·obtain ⟨z, rfl⟩ := hal
     simp only [wpD] at h
     exact .dalloc rfl rfl (run_wpD h hq)
    ·refine key rfl ?_ ?_
     ·cases q <;> first | rfl | exact absurd ⟨_, rfl⟩ hal
     ·cases q <;> first | exact h | exact absurd ⟨_, _, rfl⟩ hc | exact absurd ⟨_, rfl⟩ hal
   | some g =>
    obtain ⟨t, want⟩ := g
    have h : bindG (Env.get e t) want (fun _ => q.allocs = false ∧ bindO (aop q e σ) fun v σ' =>
      if q.acts = true then wpD T ds (Env.put e dst v) σ' next (hist ++ [σ']) reads K
      else σ' = σ ∧ if q.reads = true then wpD T ds (Env.put e dst v) σ next hist (⟨lo, hi, q, e, v⟩ :: reads) K else wpD T ds (Env.put e dst v) σ next hist reads K)
      (fun _ => wpD T ds (Env.put e dst (.tuple [])) σ (if q.allocs then next + 1 else next) (if q.acts then hist ++ [σ] else hist) reads K) := by
     cases q <;> first | exact h | exact absurd ⟨_, _, rfl⟩ hc
    simp only [bindG] at h
    split at h
    ·rename_i b h1
     split at h
     ·rename_i hb
      exact key (by simp [AOper.wanted, h1, hb]) h.1 h.2
     ·rename_i hb
      exact .doff (by simp [AOper.wanted, h1]; simpa using hb) (run_wpD h hq)
    ·rename_i h1
     exact .doff (by simp [AOper.wanted, h1]) (run_wpD h hq)
    ·exact h.elim
end Go.Am
namespace Go.Am
variable {T : FuncId → Option AFunc}
class HP (α : Type) where
 out : α
def bO (r : Option (AV × St)) [K : HP (AV → St → Prop)] : Prop := bindO r K.out
theorem B_some (v : AV) (σ : St) (K : AV → St → Prop) : bO (K := ⟨K⟩) (some (v, σ)) = K v σ := by simp only [bO, bindO]
def cK (T : FuncId → Option AFunc) (f : AV) (args : List AV) (σ : St) [K : HP (AV → St → Prop)] : Prop := CallK T f args σ K.out
def cD (T : FuncId → Option AFunc) (f : AV) (args : List AV) (σ : St) [K : HP (AV → St → Prop)] : Prop := CallD T f args σ K.out
def rK (T : FuncId → Option AFunc) (c : ACode) (e : Env) (σ : St) [K : HP KJ] : Prop := RunK T c e σ K.out
def iteP (b : Bool) [A : HP Prop] [B : HP Prop] : Prop := if b = true then A.out else B.out
theorem iteP_true (A : Prop) (B : HP Prop) : iteP (A := ⟨A⟩) true = A := by simp [iteP]
theorem iteP_false (A : HP Prop) (B : Prop) : iteP (B := ⟨B⟩) false = B := by simp [iteP]
theorem iteP_intro {b : Bool} {A B : Prop} (h1 : b = true → A) (h2 : b = false → B) : iteP (A := ⟨A⟩) (B := ⟨B⟩) b := by cases b <;> simp [iteP] <;> first | exact h1 rfl | exact h2 rfl
def bB (v : AV) [A : HP Prop] [B : HP Prop] : Prop := bindB v (fun _ => A.out) (fun _ => B.out)
def bG (v : AV) (want : Bool) [A : HP Prop] [B : HP Prop] : Prop := bindG v want (fun _ => A.out) (fun _ => B.out)
theorem W_loop (b : ACode) (e : Env) (σ : St) (K : KJ) : wp T (.loop b) e σ K = rK (K := ⟨K⟩) T (.loop b) e σ := by simp only [wp, rK]
theorem W_range (f : AOpd) (ps : List Nat) (a b : ACode) (e : Env) (σ : St) (K : KJ) : wp T (.rangeFunc f ps a b) e σ K = rK (K := ⟨K⟩) T (.rangeFunc f ps a b) e σ := by simp only [wp, rK]
theorem W_cond (c : AOpd) (a b : ACode) (e : Env) (σ : St) (K : KJ) : wp T (.cond c a b) e σ K = bB (A := ⟨wp T a e σ K⟩) (B := ⟨wp T b e σ K⟩) (c.ev e) := by simp only [wp, bB]
def evs (e : Env) : List AOpd → List AV
 | [] => []
 | x :: xs => x.ev e :: evs e xs
theorem evs_map (e : Env) : ∀ xs : List AOpd, xs.map (·.ev e) = evs e xs
 | [] => rfl
 | x :: xs => by simp [evs, evs_map e xs]
def ovs (e : Env) : Option AOpd → Option AV
 | none => none
 | some x => some (x.ev e)
def vPick : AV → AV → AV → Option AV
 | .bool true, x, _ => some x
 | .bool false, _, y => some y
 | _, _, _ => none
def vLit (n : Nat) (xs : List AV) : Option AV := if allCells n xs = true then some (.lit xs true none) else none
def vNil : AV → Option AV
 | .ptr i o => some (.ptr i o)
 | .lptr xs i o t => some (.lptr xs i o t)
 | .func f a b => some (.func f a b)
 | .yield i => some (.yield i)
 | _ => none
def vNeg : AV → Option AV
 | .int k n => some (.int k (k.wrap (0 - n)))
 | _ => none
def vConv (k : IntKind) : AV → Option AV
 | .int _ n => some (.int k (k.wrap n))
 | _ => none
def vStr : AV → Option ByteArray
 | .str s => some s
 | _ => none
def vSnext (σ : St) : AV → Option (AV × St)
 | .ptr id 0 =>
  match σ[id]? with
  | some (.siter s pos) =>
   if pos < s.size then some (.tuple [.bool true, .int .i64 pos, .int .i32 (Utf8.decode s pos).1], σ.set id (.siter s (pos + (Utf8.decode s pos).2)))
   else some (.tuple [.bool false], σ)
  | _ => none
 | _ => none
def vMkslice (bytes : Nat) (l c : AV) : Option Nat :=
 match l, c with
 | .int _ n, .int _ m => if 0 ≤ n ∧ n = m ∧ n * bytes ≤ room ∧ n ≤ room then some n.toNat else none
 | _, _ => none
def vBound (d : Nat) : Option AV → Option Int
 | none => some d
 | some x => intOf x
def vSlicev (sz : Nat) (σ : St) (x : AV) (lo hi mx : Option AV) : Option AV :=
 match lenAV 1 σ x with
 | none => none
 | some n =>
  match vBound 0 lo, vBound n hi, mx.map intOf with
  | some l, some h, none => sliceAV sz x l h false
  | some l, some h, some (some m) => if m = h ∧ hi.isSome = true then sliceAV sz x l h true else none
  | _, _, _ => none
def vSlicea (n sz : Nat) (x : AV) (lo hi : Option AV) : Option AV :=
 match x, vBound 0 lo, vBound n hi with
 | .ptr id off, some l, some h => if 0 ≤ l ∧ l ≤ h ∧ h ≤ n then some (.ref id (off + l.toNat * sz) (h.toNat - l.toNat) sz) else none
 | _, _, _ => none
def vField (off : Nat) (sh : Option Nat) : AV → Option AV
 | .agg cs => shaped sh cs off
 | _ => none
def vIaddr (arr : Option Nat) (sz : Nat) (x i : AV) : Option AV :=
 match intOf i, arr, x with
 | some j, some n, .ptr id off => if 0 ≤ j ∧ j < n then some (.ptr id (off + j.toNat * sz)) else none
 | some j, some n, .lptr xs q off t => if 0 ≤ j ∧ j < n then some (.lptr xs q (off + j.toNat * sz) t) else none
 | some j, none, .lit xs _ t =>
  match xs[j.toNat]? with
  | some y => if 0 ≤ j ∧ y.cells.length = sz then some (.lptr xs j.toNat 0 t) else none
  | none => none
 | some j, none, .ref id off len sz' => if 0 ≤ j ∧ j < len ∧ sz' = sz then some (.ptr id (off + j.toNat * sz)) else none
 | _, _, _ => none
def vIndex (n sz : Nat) (sh : Option Nat) (x i : AV) : Option AV :=
 match intOf i, x with
 | some j, .agg cs => if 0 ≤ j ∧ j < n then shaped sh cs (j.toNat * sz) else none
 | _, _ => none
def vSindex (x i : AV) : Option AV :=
 match intOf i, x with
 | some j, .str s => if 0 ≤ j then (s[j.toNat]?).map fun b => .int .u8 b.toNat else none
 | _, _ => none
def vLook (ok : Bool) (zero : AV) : Option (Option AV) → Option AV
 | some (some v) => some (if ok then .tuple [v, .bool true] else v)
 | some none => some (if ok then .tuple [zero, .bool false] else zero)
 | none => none
def vMapset (sh : EqTy) (σ : St) (m k v : AV) : Option St :=
 match m with
 | .map id =>
  if (eqSh sh k k).isSome = false then none else
  match σ[id]? with
  | some (.map es) => (setKey sh k v es).map fun es' => σ.set id (.map es')
  | _ => none
 | _ => none
theorem A_mov (x : AOpd) (e : Env) (σ : St) : aop (.mov x) e σ = some (x.ev e, σ) := by
 simp only [aop]
theorem A_alloc (z : List AV) (e : Env) (σ : St) : aop (.alloc z) e σ = some (.ptr σ.length 0, σ ++ [.cells z]) := by
 simp only [aop]
theorem A_pick (c x y : AOpd) (e : Env) (σ : St) : aop (.pick c x y) e σ = (vPick (c.ev e) (x.ev e) (y.ev e)).map (·, σ) := by
 simp only [aop, vPick]; repeat' split
 all_goals simp_all
theorem A_box (n : Nat) (x : AOpd) (e : Env) (σ : St) : aop (.box n x) e σ = (vCells n (x.ev e)).map fun cs => (.ptr σ.length 0, σ ++ [.cells cs]) := by
 simp only [aop, vCells]; split <;> simp_all
theorem A_build (z : List AV) (ps : List (Nat × Nat × AOpd)) (e : Env) (σ : St) : aop (.build z ps) e σ = (buildCells e z ps).map fun cs => (.agg cs, σ) := by
 simp only [aop]; cases buildCells e z ps <;> simp
theorem A_mklit (n : Nat) (xs : List AOpd) (e : Env) (σ : St) : aop (.mklit n xs) e σ = (vLit n (evs e xs)).map (·, σ) := by
 simp only [aop, vLit, evs_map]; split <;> simp_all
theorem A_mkref (n : Nat) (xs : List AOpd) (e : Env) (σ : St) : aop (.mkref n xs) e σ = (vLit n (evs e xs)).map fun _ => (.ref σ.length 0 (evs e xs).length n, σ ++ [.cells ((evs e xs).flatMap AV.cells)]) := by
 simp only [aop, vLit, evs_map]; have := congrArg List.length (evs_map e xs); split <;> simp_all
theorem A_load (sh : Option Nat) (x : AOpd) (e : Env) (σ : St) : aop (.load sh x) e σ = (loadAV sh σ (x.ev e)).map (·, σ) := by
 simp only [aop]; cases loadAV sh σ (x.ev e) <;> simp
theorem A_store (n : Nat) (x y : AOpd) (e : Env) (σ : St) : aop (.store n x y) e σ = (storeAV n σ (x.ev e) (y.ev e)).map (.tuple [], ·) := by
 simp only [aop]; cases storeAV n σ (x.ev e) (y.ev e) <;> simp
theorem A_nilCheck (x : AOpd) (e : Env) (σ : St) : aop (.nilCheck x) e σ = (vNil (x.ev e)).map (·, σ) := by
 simp only [aop, vNil]; cases x.ev e <;> simp
theorem A_bin (op : BinOp) (x y : AOpd) (e : Env) (σ : St) : aop (.bin op x y) e σ = (binAV op (x.ev e) (y.ev e)).map (·, σ) := by
 simp only [aop]; cases binAV op (x.ev e) (y.ev e) <;> simp
theorem A_eql (sh : EqTy) (n : Bool) (x y : AOpd) (e : Env) (σ : St) : aop (.eql sh n x y) e σ = (vEql sh n (x.ev e) (y.ev e)).map (·, σ) := by
 simp only [aop, vEql]; cases eqSh sh (x.ev e) (y.ev e) <;> simp
theorem A_not (x : AOpd) (e : Env) (σ : St) : aop (.not x) e σ = (vNot (x.ev e)).map (·, σ) := by
 simp only [aop, vNot]; cases x.ev e <;> simp
theorem A_neg (x : AOpd) (e : Env) (σ : St) : aop (.neg x) e σ = (vNeg (x.ev e)).map (·, σ) := by
 simp only [aop, vNeg]; cases x.ev e <;> simp
theorem A_conv (k : IntKind) (x : AOpd) (e : Env) (σ : St) : aop (.conv k x) e σ = (vConv k (x.ev e)).map (·, σ) := by
 simp only [aop, vConv]; cases x.ev e <;> simp
theorem A_mkfun (f : FuncId) (xs ys : List AOpd) (e : Env) (σ : St) : aop (.mkfun f xs ys) e σ = some (.func f (evs e xs) (evs e ys), σ) := by
 simp only [aop, evs_map]
theorem A_mkmap  (e : Env) (σ : St) : aop (.mkmap) e σ = some (.map σ.length, σ ++ [.map []]) := by
 simp only [aop]
theorem A_mkslice (z : List AV) (b : Nat) (x y : AOpd) (e : Env) (σ : St) : aop (.mkslice z b x y) e σ = (vMkslice b (x.ev e) (y.ev e)).map fun n => (.ref σ.length 0 n z.length, σ ++ [.cells (List.replicate n z).flatten]) := by
 simp only [aop, vMkslice]; generalize x.ev e = u; generalize y.ev e = v; cases u <;> cases v <;> first | rfl | (dsimp only; split <;> first | rfl | simp_all | (split <;> simp_all))
theorem A_slicev (n : Nat) (x : AOpd) (lo hi mx : Option AOpd) (e : Env) (σ : St) : aop (.slicev n x lo hi mx) e σ = (vSlicev n σ (x.ev e) (ovs e lo) (ovs e hi) (ovs e mx)).map (·, σ) := by
 simp only [aop, vSlicev]; cases lenAV 1 σ (x.ev e) <;> cases lo <;> cases hi <;> cases mx <;> simp only [boundOr, vBound, ovs, Option.map_none, Option.map_some] <;> repeat' split
 all_goals simp_all
theorem A_slicea (n s : Nat) (x : AOpd) (lo hi : Option AOpd) (e : Env) (σ : St) : aop (.slicea n s x lo hi) e σ = (vSlicea n s (x.ev e) (ovs e lo) (ovs e hi)).map (·, σ) := by
 simp only [aop, vSlicea]; generalize x.ev e = u; cases lo with
 | none => cases hi with
  | none => simp only [boundOr, vBound, ovs]; cases u <;> first | rfl | (dsimp only; split <;> first | rfl | simp_all | (split <;> simp_all))
  | some h => simp only [boundOr, vBound, ovs]; generalize intOf (h.ev e) = p; cases u <;> cases p <;> first | rfl | (dsimp only; split <;> first | rfl | simp_all | (split <;> simp_all))
 | some l => cases hi with
  | none => simp only [boundOr, vBound, ovs]; generalize intOf (l.ev e) = p; cases u <;> cases p <;> first | rfl | (dsimp only; split <;> first | rfl | simp_all | (split <;> simp_all))
  | some h => simp only [boundOr, vBound, ovs]; generalize intOf (l.ev e) = p; generalize intOf (h.ev e) = q; cases u <;> cases p <;> cases q <;> first | rfl | (dsimp only; split <;> first | rfl | simp_all | (split <;> simp_all))
theorem A_faddr (x : AOpd) (o : Nat) (e : Env) (σ : St) : aop (.faddr x o) e σ = (vFaddr o (x.ev e)).map (·, σ) := by
 simp only [aop, vFaddr]; cases x.ev e <;> simp
theorem A_field (x : AOpd) (o : Nat) (sh : Option Nat) (e : Env) (σ : St) : aop (.field x o sh) e σ = (vField o sh (x.ev e)).map (·, σ) := by
 simp only [aop, vField]; cases x.ev e <;> simp <;> (rename_i cs; cases shaped sh cs o <;> simp)
theorem A_iaddr (a : Option Nat) (s : Nat) (x i : AOpd) (e : Env) (σ : St) : aop (.iaddr a s x i) e σ = (vIaddr a s (x.ev e) (i.ev e)).map (·, σ) := by
 simp only [aop, vIaddr]; generalize intOf (i.ev e) = q; generalize x.ev e = u; cases q <;> cases a <;> cases u <;> first | rfl | (dsimp only; split <;> first | rfl | simp_all | (split <;> simp_all))
theorem A_index (n s : Nat) (sh : Option Nat) (x i : AOpd) (e : Env) (σ : St) : aop (.index n s sh x i) e σ = (vIndex n s sh (x.ev e) (i.ev e)).map (·, σ) := by
 simp only [aop, vIndex]; generalize intOf (i.ev e) = q; generalize x.ev e = u; cases q <;> cases u <;> first | rfl | (dsimp only; split <;> first | rfl | simp_all | (split <;> simp_all))
theorem A_sindex (x i : AOpd) (e : Env) (σ : St) : aop (.sindex x i) e σ = (vSindex (x.ev e) (i.ev e)).map (·, σ) := by
 simp only [aop, vSindex]; generalize intOf (i.ev e) = q; generalize x.ev e = u; cases q <;> cases u <;> first | rfl | (dsimp only; split <;> first | rfl | (rename_i k b h; cases b[k.toNat]? <;> rfl))
theorem A_lookup (sh : EqTy) (ok : Bool) (z : AV) (m k : AOpd) (e : Env) (σ : St) : aop (.lookup sh ok z m k) e σ = (vLook ok z (lookAV sh σ (m.ev e) (k.ev e))).map (·, σ) := by
 simp only [aop, vLook]; cases lookAV sh σ (m.ev e) (k.ev e) with
 | none => rfl
 | some o => cases o <;> rfl
theorem A_mapset (sh : EqTy) (m k v : AOpd) (e : Env) (σ : St) : aop (.mapset sh m k v) e σ = (vMapset sh σ (m.ev e) (k.ev e) (v.ev e)).map (.tuple [], ·) := by
 simp only [aop, vMapset]; repeat' split
 all_goals simp_all
theorem A_ext (x : AOpd) (i : Nat) (e : Env) (σ : St) : aop (.ext x i) e σ = (vExt i (x.ev e)).map (·, σ) := by
 simp only [aop, vExt]; cases x.ev e <;> simp <;> (rename_i vs; cases vs[i]? <;> simp)
theorem A_len (k : Nat) (x : AOpd) (e : Env) (σ : St) : aop (.len k x) e σ = (lenAV k σ (x.ev e)).map fun n => (.int .i64 n, σ) := by
 simp only [aop]; cases lenAV k σ (x.ev e) <;> simp
theorem A_append (n b : Nat) (x y : AOpd) (e : Env) (σ : St) : aop (.append n b x y) e σ = appendAV n b σ (x.ev e) (y.ev e) := by
 simp only [aop]
theorem A_apref (n b : Nat) (x y : AOpd) (e : Env) (σ : St) : aop (.apref n b x y) e σ = aprefAV n b σ (x.ev e) (y.ev e) := by
 simp only [aop]
theorem A_copy (n : Nat) (x y : AOpd) (e : Env) (σ : St) : aop (.copy n x y) e σ = copyAV n σ (x.ev e) (y.ev e) := by
 simp only [aop]
theorem A_min (xs : List AOpd) (e : Env) (σ : St) : aop (.min xs) e σ = (minAV (evs e xs)).map (·, σ) := by
 simp only [aop, evs_map]; cases minAV (evs e xs) <;> simp
theorem A_max (xs : List AOpd) (e : Env) (σ : St) : aop (.max xs) e σ = (maxAV (evs e xs)).map (·, σ) := by
 simp only [aop, evs_map]; cases maxAV (evs e xs) <;> simp
theorem A_srange (x : AOpd) (e : Env) (σ : St) : aop (.srange x) e σ = (vStr (x.ev e)).map fun s => (.ptr σ.length 0, σ ++ [.siter s 0]) := by
 simp only [aop, vStr]; cases x.ev e <;> simp
theorem A_snext (x : AOpd) (e : Env) (σ : St) : aop (.snext x) e σ = vSnext σ (x.ev e) := by
 simp only [aop, vSnext]; cases x.ev e <;> rfl
theorem W_mov (x : AOpd) (d : Option Nat) (os : List AOper) (e : Env) (σ : St) (K : Env → St → Prop) : wpOps T (⟨d, .mov x, none⟩ :: os) e σ K = bO (K := ⟨fun v σ' => wpOps T os (Env.put e d v) σ' K⟩) (aop (.mov x) e σ) := by simp only [wpOps, wpOp, bO]
theorem W_alloc (z : List AV) (d : Option Nat) (os : List AOper) (e : Env) (σ : St) (K : Env → St → Prop) : wpOps T (⟨d, .alloc z, none⟩ :: os) e σ K = bO (K := ⟨fun v σ' => wpOps T os (Env.put e d v) σ' K⟩) (aop (.alloc z) e σ) := by simp only [wpOps, wpOp, bO]
theorem W_pick (c x y : AOpd) (d : Option Nat) (os : List AOper) (e : Env) (σ : St) (K : Env → St → Prop) : wpOps T (⟨d, .pick c x y, none⟩ :: os) e σ K = bO (K := ⟨fun v σ' => wpOps T os (Env.put e d v) σ' K⟩) (aop (.pick c x y) e σ) := by simp only [wpOps, wpOp, bO]
theorem W_box (n : Nat) (x : AOpd) (d : Option Nat) (os : List AOper) (e : Env) (σ : St) (K : Env → St → Prop) : wpOps T (⟨d, .box n x, none⟩ :: os) e σ K = bO (K := ⟨fun v σ' => wpOps T os (Env.put e d v) σ' K⟩) (aop (.box n x) e σ) := by simp only [wpOps, wpOp, bO]
theorem W_build (z : List AV) (ps : List (Nat × Nat × AOpd)) (d : Option Nat) (os : List AOper) (e : Env) (σ : St) (K : Env → St → Prop) : wpOps T (⟨d, .build z ps, none⟩ :: os) e σ K = bO (K := ⟨fun v σ' => wpOps T os (Env.put e d v) σ' K⟩) (aop (.build z ps) e σ) := by simp only [wpOps, wpOp, bO]
theorem W_mklit (n : Nat) (xs : List AOpd) (d : Option Nat) (os : List AOper) (e : Env) (σ : St) (K : Env → St → Prop) : wpOps T (⟨d, .mklit n xs, none⟩ :: os) e σ K = bO (K := ⟨fun v σ' => wpOps T os (Env.put e d v) σ' K⟩) (aop (.mklit n xs) e σ) := by simp only [wpOps, wpOp, bO]
theorem W_mkref (n : Nat) (xs : List AOpd) (d : Option Nat) (os : List AOper) (e : Env) (σ : St) (K : Env → St → Prop) : wpOps T (⟨d, .mkref n xs, none⟩ :: os) e σ K = bO (K := ⟨fun v σ' => wpOps T os (Env.put e d v) σ' K⟩) (aop (.mkref n xs) e σ) := by simp only [wpOps, wpOp, bO]
theorem W_load (sh : Option Nat) (x : AOpd) (d : Option Nat) (os : List AOper) (e : Env) (σ : St) (K : Env → St → Prop) : wpOps T (⟨d, .load sh x, none⟩ :: os) e σ K = bO (K := ⟨fun v σ' => wpOps T os (Env.put e d v) σ' K⟩) (aop (.load sh x) e σ) := by simp only [wpOps, wpOp, bO]
theorem W_store (n : Nat) (x y : AOpd) (d : Option Nat) (os : List AOper) (e : Env) (σ : St) (K : Env → St → Prop) : wpOps T (⟨d, .store n x y, none⟩ :: os) e σ K = bO (K := ⟨fun v σ' => wpOps T os (Env.put e d v) σ' K⟩) (aop (.store n x y) e σ) := by simp only [wpOps, wpOp, bO]
theorem W_nilCheck (x : AOpd) (d : Option Nat) (os : List AOper) (e : Env) (σ : St) (K : Env → St → Prop) : wpOps T (⟨d, .nilCheck x, none⟩ :: os) e σ K = bO (K := ⟨fun v σ' => wpOps T os (Env.put e d v) σ' K⟩) (aop (.nilCheck x) e σ) := by simp only [wpOps, wpOp, bO]
theorem W_bin (op : BinOp) (x y : AOpd) (d : Option Nat) (os : List AOper) (e : Env) (σ : St) (K : Env → St → Prop) : wpOps T (⟨d, .bin op x y, none⟩ :: os) e σ K = bO (K := ⟨fun v σ' => wpOps T os (Env.put e d v) σ' K⟩) (aop (.bin op x y) e σ) := by simp only [wpOps, wpOp, bO]
theorem W_eql (sh : EqTy) (n : Bool) (x y : AOpd) (d : Option Nat) (os : List AOper) (e : Env) (σ : St) (K : Env → St → Prop) : wpOps T (⟨d, .eql sh n x y, none⟩ :: os) e σ K = bO (K := ⟨fun v σ' => wpOps T os (Env.put e d v) σ' K⟩) (aop (.eql sh n x y) e σ) := by simp only [wpOps, wpOp, bO]
theorem W_not (x : AOpd) (d : Option Nat) (os : List AOper) (e : Env) (σ : St) (K : Env → St → Prop) : wpOps T (⟨d, .not x, none⟩ :: os) e σ K = bO (K := ⟨fun v σ' => wpOps T os (Env.put e d v) σ' K⟩) (aop (.not x) e σ) := by simp only [wpOps, wpOp, bO]
theorem W_neg (x : AOpd) (d : Option Nat) (os : List AOper) (e : Env) (σ : St) (K : Env → St → Prop) : wpOps T (⟨d, .neg x, none⟩ :: os) e σ K = bO (K := ⟨fun v σ' => wpOps T os (Env.put e d v) σ' K⟩) (aop (.neg x) e σ) := by simp only [wpOps, wpOp, bO]
theorem W_conv (k : IntKind) (x : AOpd) (d : Option Nat) (os : List AOper) (e : Env) (σ : St) (K : Env → St → Prop) : wpOps T (⟨d, .conv k x, none⟩ :: os) e σ K = bO (K := ⟨fun v σ' => wpOps T os (Env.put e d v) σ' K⟩) (aop (.conv k x) e σ) := by simp only [wpOps, wpOp, bO]
theorem W_mkfun (f : FuncId) (xs ys : List AOpd) (d : Option Nat) (os : List AOper) (e : Env) (σ : St) (K : Env → St → Prop) : wpOps T (⟨d, .mkfun f xs ys, none⟩ :: os) e σ K = bO (K := ⟨fun v σ' => wpOps T os (Env.put e d v) σ' K⟩) (aop (.mkfun f xs ys) e σ) := by simp only [wpOps, wpOp, bO]
theorem W_mkmap  (d : Option Nat) (os : List AOper) (e : Env) (σ : St) (K : Env → St → Prop) : wpOps T (⟨d, .mkmap, none⟩ :: os) e σ K = bO (K := ⟨fun v σ' => wpOps T os (Env.put e d v) σ' K⟩) (aop (.mkmap) e σ) := by simp only [wpOps, wpOp, bO]
theorem W_mkslice (z : List AV) (b : Nat) (x y : AOpd) (d : Option Nat) (os : List AOper) (e : Env) (σ : St) (K : Env → St → Prop) : wpOps T (⟨d, .mkslice z b x y, none⟩ :: os) e σ K = bO (K := ⟨fun v σ' => wpOps T os (Env.put e d v) σ' K⟩) (aop (.mkslice z b x y) e σ) := by simp only [wpOps, wpOp, bO]
theorem W_slicev (n : Nat) (x : AOpd) (lo hi mx : Option AOpd) (d : Option Nat) (os : List AOper) (e : Env) (σ : St) (K : Env → St → Prop) : wpOps T (⟨d, .slicev n x lo hi mx, none⟩ :: os) e σ K = bO (K := ⟨fun v σ' => wpOps T os (Env.put e d v) σ' K⟩) (aop (.slicev n x lo hi mx) e σ) := by simp only [wpOps, wpOp, bO]
theorem W_slicea (n s : Nat) (x : AOpd) (lo hi : Option AOpd) (d : Option Nat) (os : List AOper) (e : Env) (σ : St) (K : Env → St → Prop) : wpOps T (⟨d, .slicea n s x lo hi, none⟩ :: os) e σ K = bO (K := ⟨fun v σ' => wpOps T os (Env.put e d v) σ' K⟩) (aop (.slicea n s x lo hi) e σ) := by simp only [wpOps, wpOp, bO]
theorem W_faddr (x : AOpd) (o : Nat) (d : Option Nat) (os : List AOper) (e : Env) (σ : St) (K : Env → St → Prop) : wpOps T (⟨d, .faddr x o, none⟩ :: os) e σ K = bO (K := ⟨fun v σ' => wpOps T os (Env.put e d v) σ' K⟩) (aop (.faddr x o) e σ) := by simp only [wpOps, wpOp, bO]
theorem W_field (x : AOpd) (o : Nat) (sh : Option Nat) (d : Option Nat) (os : List AOper) (e : Env) (σ : St) (K : Env → St → Prop) : wpOps T (⟨d, .field x o sh, none⟩ :: os) e σ K = bO (K := ⟨fun v σ' => wpOps T os (Env.put e d v) σ' K⟩) (aop (.field x o sh) e σ) := by simp only [wpOps, wpOp, bO]
theorem W_iaddr (a : Option Nat) (s : Nat) (x i : AOpd) (d : Option Nat) (os : List AOper) (e : Env) (σ : St) (K : Env → St → Prop) : wpOps T (⟨d, .iaddr a s x i, none⟩ :: os) e σ K = bO (K := ⟨fun v σ' => wpOps T os (Env.put e d v) σ' K⟩) (aop (.iaddr a s x i) e σ) := by simp only [wpOps, wpOp, bO]
theorem W_index (n s : Nat) (sh : Option Nat) (x i : AOpd) (d : Option Nat) (os : List AOper) (e : Env) (σ : St) (K : Env → St → Prop) : wpOps T (⟨d, .index n s sh x i, none⟩ :: os) e σ K = bO (K := ⟨fun v σ' => wpOps T os (Env.put e d v) σ' K⟩) (aop (.index n s sh x i) e σ) := by simp only [wpOps, wpOp, bO]
theorem W_sindex (x i : AOpd) (d : Option Nat) (os : List AOper) (e : Env) (σ : St) (K : Env → St → Prop) : wpOps T (⟨d, .sindex x i, none⟩ :: os) e σ K = bO (K := ⟨fun v σ' => wpOps T os (Env.put e d v) σ' K⟩) (aop (.sindex x i) e σ) := by simp only [wpOps, wpOp, bO]
theorem W_lookup (sh : EqTy) (ok : Bool) (z : AV) (m k : AOpd) (d : Option Nat) (os : List AOper) (e : Env) (σ : St) (K : Env → St → Prop) : wpOps T (⟨d, .lookup sh ok z m k, none⟩ :: os) e σ K = bO (K := ⟨fun v σ' => wpOps T os (Env.put e d v) σ' K⟩) (aop (.lookup sh ok z m k) e σ) := by simp only [wpOps, wpOp, bO]
theorem W_mapset (sh : EqTy) (m k v : AOpd) (d : Option Nat) (os : List AOper) (e : Env) (σ : St) (K : Env → St → Prop) : wpOps T (⟨d, .mapset sh m k v, none⟩ :: os) e σ K = bO (K := ⟨fun v σ' => wpOps T os (Env.put e d v) σ' K⟩) (aop (.mapset sh m k v) e σ) := by simp only [wpOps, wpOp, bO]
theorem W_ext (x : AOpd) (i : Nat) (d : Option Nat) (os : List AOper) (e : Env) (σ : St) (K : Env → St → Prop) : wpOps T (⟨d, .ext x i, none⟩ :: os) e σ K = bO (K := ⟨fun v σ' => wpOps T os (Env.put e d v) σ' K⟩) (aop (.ext x i) e σ) := by simp only [wpOps, wpOp, bO]
theorem W_len (k : Nat) (x : AOpd) (d : Option Nat) (os : List AOper) (e : Env) (σ : St) (K : Env → St → Prop) : wpOps T (⟨d, .len k x, none⟩ :: os) e σ K = bO (K := ⟨fun v σ' => wpOps T os (Env.put e d v) σ' K⟩) (aop (.len k x) e σ) := by simp only [wpOps, wpOp, bO]
theorem W_append (n b : Nat) (x y : AOpd) (d : Option Nat) (os : List AOper) (e : Env) (σ : St) (K : Env → St → Prop) : wpOps T (⟨d, .append n b x y, none⟩ :: os) e σ K = bO (K := ⟨fun v σ' => wpOps T os (Env.put e d v) σ' K⟩) (aop (.append n b x y) e σ) := by simp only [wpOps, wpOp, bO]
theorem W_apref (n b : Nat) (x y : AOpd) (d : Option Nat) (os : List AOper) (e : Env) (σ : St) (K : Env → St → Prop) : wpOps T (⟨d, .apref n b x y, none⟩ :: os) e σ K = bO (K := ⟨fun v σ' => wpOps T os (Env.put e d v) σ' K⟩) (aop (.apref n b x y) e σ) := by simp only [wpOps, wpOp, bO]
theorem W_copy (n : Nat) (x y : AOpd) (d : Option Nat) (os : List AOper) (e : Env) (σ : St) (K : Env → St → Prop) : wpOps T (⟨d, .copy n x y, none⟩ :: os) e σ K = bO (K := ⟨fun v σ' => wpOps T os (Env.put e d v) σ' K⟩) (aop (.copy n x y) e σ) := by simp only [wpOps, wpOp, bO]
theorem W_min (xs : List AOpd) (d : Option Nat) (os : List AOper) (e : Env) (σ : St) (K : Env → St → Prop) : wpOps T (⟨d, .min xs, none⟩ :: os) e σ K = bO (K := ⟨fun v σ' => wpOps T os (Env.put e d v) σ' K⟩) (aop (.min xs) e σ) := by simp only [wpOps, wpOp, bO]
theorem W_max (xs : List AOpd) (d : Option Nat) (os : List AOper) (e : Env) (σ : St) (K : Env → St → Prop) : wpOps T (⟨d, .max xs, none⟩ :: os) e σ K = bO (K := ⟨fun v σ' => wpOps T os (Env.put e d v) σ' K⟩) (aop (.max xs) e σ) := by simp only [wpOps, wpOp, bO]
theorem W_srange (x : AOpd) (d : Option Nat) (os : List AOper) (e : Env) (σ : St) (K : Env → St → Prop) : wpOps T (⟨d, .srange x, none⟩ :: os) e σ K = bO (K := ⟨fun v σ' => wpOps T os (Env.put e d v) σ' K⟩) (aop (.srange x) e σ) := by simp only [wpOps, wpOp, bO]
theorem W_snext (x : AOpd) (d : Option Nat) (os : List AOper) (e : Env) (σ : St) (K : Env → St → Prop) : wpOps T (⟨d, .snext x, none⟩ :: os) e σ K = bO (K := ⟨fun v σ' => wpOps T os (Env.put e d v) σ' K⟩) (aop (.snext x) e σ) := by simp only [wpOps, wpOp, bO]
theorem W_call (f : AOpd) (xs : List AOpd) (d : Option Nat) (os : List AOper) (e : Env) (σ : St) (K : Env → St → Prop) : wpOps T (⟨d, .call f xs, none⟩ :: os) e σ K = cK (K := ⟨fun v σ' => wpOps T os (Env.put e d v) σ' K⟩) T (f.ev e) (evs e xs) σ := by simp only [wpOps, wpOp, evs_map, cK]
theorem W_bindB (b : Bool) (A B : HP Prop) : bB (.bool b) (A := A) (B := B) = iteP (A := A) (B := B) b := by cases b <;> simp [bB, bindB, iteP]
theorem W_bindG1 (b : Bool) (A B : HP Prop) : bG (.bool b) true (A := A) (B := B) = iteP (A := A) (B := B) b := by cases b <;> simp [bG, bindG, iteP]
theorem W_bindG0 (b : Bool) (A B : HP Prop) : bG (.bool b) false (A := A) (B := B) = iteP (A := B) (B := A) b := by cases b <;> simp [bG, bindG, iteP]
theorem W_bindGT (w : Bool) (A : HP Prop) (B : Prop) : bG (.tuple []) w (A := A) (B := ⟨B⟩) = B := by simp [bG, bindG]
theorem W_guard (d : Option Nat) (q : AOp) (t : Nat) (want : Bool) (os : List AOper) (e : Env) (σ : St) (K : Env → St → Prop) : wpOps T (⟨d, q, some (t, want)⟩ :: os) e σ K =
  bG (A := ⟨wpOps T (⟨d, q, none⟩ :: os) e σ K⟩) (B := ⟨wpOps T os (Env.put e d (.tuple [])) σ K⟩) (Env.get e t) want := by simp only [wpOps, bG]
theorem D_reg (ds : List ADOper) (e : Env) (σ : St) (K : KJ) : wp T (.dreg ds) e σ K = rK (K := ⟨K⟩) T (.dreg ds) e σ := by simp only [wp, rK]
theorem rK_dreg {ds : List ADOper} {e : Env} {σ : St} {K : KJ} (h : wpD T ds e (σ ++ allocsOf ds) σ.length [σ ++ allocsOf ds] [] fun e σ => K none e σ) : rK (K := ⟨K⟩) T (.dreg ds) e σ := .dreg (run_wpD h fun e σ hk => hk)
theorem D_nil (e : Env) (σ : St) (next : Nat) (hist : List St) (reads : List ARead) (K : Env → St → Prop) : wpD T [] e σ next hist reads K = (readsP reads hist ∧ K e σ) := by simp only [wpD]
theorem D_call (f : AOpd) (xs : List AOpd) (d : Option Nat) (lo hi : Nat) (ds : List ADOper) (e : Env) (σ : St) (next : Nat) (hist : List St) (reads : List ARead) (K : Env → St → Prop) :
  wpD T (⟨⟨d, .call f xs, none⟩, lo, hi⟩ :: ds) e σ next hist reads K = cD (K := ⟨fun v σ' => wpD T ds (Env.put e d v) σ' next (hist ++ [σ']) reads K⟩) T (f.ev e) (evs e xs) σ := by simp only [wpD, evs_map, cD]
theorem D_alloc (z : List AV) (d : Option Nat) (lo hi : Nat) (ds : List ADOper) (e : Env) (σ : St) (next : Nat) (hist : List St) (reads : List ARead) (K : Env → St → Prop) :
  wpD T (⟨⟨d, .alloc z, none⟩, lo, hi⟩ :: ds) e σ next hist reads K = wpD T ds (Env.put e d (.ptr next 0)) σ (next + 1) hist reads K := by simp only [wpD]
def readQ (lo hi : Nat) (q : AOp) (e : Env) (v : AV) : List St → Nat → Prop
 | [], _ => True
 | s :: ss, j => (if lo ≤ j ∧ j ≤ hi then aop q e s = some (v, s) else True) ∧ readQ lo hi q e v ss (j + 1)
theorem readQ_eq (r : ARead) : ∀ (ss : List St) (j : Nat), readQ r.lo r.hi r.op r.env r.v ss j = readP r ss j
 | [], j => by simp only [readQ, readP]
 | s :: ss, j => by simp only [readQ, readP, readQ_eq r ss (j + 1)]
theorem D_readsN (hist : List St) : readsP [] hist = True := by simp only [readsP]
theorem D_readsC (lo hi : Nat) (q : AOp) (e : Env) (v : AV) (rs : List ARead) (hist : List St) : readsP (⟨lo, hi, q, e, v⟩ :: rs) hist = (readQ lo hi q e v hist 0 ∧ readsP rs hist) := by
 simp only [readsP]; rw [← readQ_eq]
theorem D_readN (lo hi : Nat) (q : AOp) (e : Env) (v : AV) (j : Nat) : readQ lo hi q e v [] j = True := by simp only [readQ]
theorem D_readC (lo hi : Nat) (q : AOp) (e : Env) (v : AV) (s : St) (ss : List St) (j : Nat) : readQ lo hi q e v (s :: ss) j = ((if lo ≤ j ∧ j ≤ hi then aop q e s = some (v, s) else True) ∧ readQ lo hi q e v ss (j + 1)) := by simp only [readQ]
theorem D_mov (x : AOpd) (d : Option Nat) (wl wh : Nat) (ds : List ADOper) (e : Env) (σ : St) (next : Nat) (hist : List St) (reads : List ARead) (K : Env → St → Prop) : wpD T (⟨⟨d, .mov x, none⟩, wl, wh⟩ :: ds) e σ next hist reads K = bO (K := ⟨fun v σ' => σ' = σ ∧ wpD T ds (Env.put e d v) σ next hist reads K⟩) (aop (.mov x) e σ) := by
 simp only [wpD, bO, AOp.acts, AOp.reads, if_true, Bool.false_eq_true, if_false]
theorem D_pick (c x y : AOpd) (d : Option Nat) (wl wh : Nat) (ds : List ADOper) (e : Env) (σ : St) (next : Nat) (hist : List St) (reads : List ARead) (K : Env → St → Prop) : wpD T (⟨⟨d, .pick c x y, none⟩, wl, wh⟩ :: ds) e σ next hist reads K = bO (K := ⟨fun v σ' => σ' = σ ∧ wpD T ds (Env.put e d v) σ next hist reads K⟩) (aop (.pick c x y) e σ) := by
 simp only [wpD, bO, AOp.acts, AOp.reads, if_true, Bool.false_eq_true, if_false]
theorem D_box (n : Nat) (x : AOpd) (d : Option Nat) (wl wh : Nat) (ds : List ADOper) (e : Env) (σ : St) (next : Nat) (hist : List St) (reads : List ARead) (K : Env → St → Prop) : wpD T (⟨⟨d, .box n x, none⟩, wl, wh⟩ :: ds) e σ next hist reads K = bO (K := ⟨fun v σ' => wpD T ds (Env.put e d v) σ' next (hist ++ [σ']) reads K⟩) (aop (.box n x) e σ) := by
 simp only [wpD, bO, AOp.acts, AOp.reads, if_true, Bool.false_eq_true, if_false]
theorem D_build (z : List AV) (ps : List (Nat × Nat × AOpd)) (d : Option Nat) (wl wh : Nat) (ds : List ADOper) (e : Env) (σ : St) (next : Nat) (hist : List St) (reads : List ARead) (K : Env → St → Prop) : wpD T (⟨⟨d, .build z ps, none⟩, wl, wh⟩ :: ds) e σ next hist reads K = bO (K := ⟨fun v σ' => σ' = σ ∧ wpD T ds (Env.put e d v) σ next hist reads K⟩) (aop (.build z ps) e σ) := by
 simp only [wpD, bO, AOp.acts, AOp.reads, if_true, Bool.false_eq_true, if_false]
theorem D_mklit (n : Nat) (xs : List AOpd) (d : Option Nat) (wl wh : Nat) (ds : List ADOper) (e : Env) (σ : St) (next : Nat) (hist : List St) (reads : List ARead) (K : Env → St → Prop) : wpD T (⟨⟨d, .mklit n xs, none⟩, wl, wh⟩ :: ds) e σ next hist reads K = bO (K := ⟨fun v σ' => σ' = σ ∧ wpD T ds (Env.put e d v) σ next hist reads K⟩) (aop (.mklit n xs) e σ) := by
 simp only [wpD, bO, AOp.acts, AOp.reads, if_true, Bool.false_eq_true, if_false]
theorem D_mkref (n : Nat) (xs : List AOpd) (d : Option Nat) (wl wh : Nat) (ds : List ADOper) (e : Env) (σ : St) (next : Nat) (hist : List St) (reads : List ARead) (K : Env → St → Prop) : wpD T (⟨⟨d, .mkref n xs, none⟩, wl, wh⟩ :: ds) e σ next hist reads K = bO (K := ⟨fun v σ' => wpD T ds (Env.put e d v) σ' next (hist ++ [σ']) reads K⟩) (aop (.mkref n xs) e σ) := by
 simp only [wpD, bO, AOp.acts, AOp.reads, if_true, Bool.false_eq_true, if_false]
theorem D_load (sh : Option Nat) (x : AOpd) (d : Option Nat) (wl wh : Nat) (ds : List ADOper) (e : Env) (σ : St) (next : Nat) (hist : List St) (reads : List ARead) (K : Env → St → Prop) : wpD T (⟨⟨d, .load sh x, none⟩, wl, wh⟩ :: ds) e σ next hist reads K = bO (K := ⟨fun v σ' => σ' = σ ∧ wpD T ds (Env.put e d v) σ next hist (⟨wl, wh, .load sh x, e, v⟩ :: reads) K⟩) (aop (.load sh x) e σ) := by
 simp only [wpD, bO, AOp.acts, AOp.reads, if_true, Bool.false_eq_true, if_false]
theorem D_store (n : Nat) (x y : AOpd) (d : Option Nat) (wl wh : Nat) (ds : List ADOper) (e : Env) (σ : St) (next : Nat) (hist : List St) (reads : List ARead) (K : Env → St → Prop) : wpD T (⟨⟨d, .store n x y, none⟩, wl, wh⟩ :: ds) e σ next hist reads K = bO (K := ⟨fun v σ' => wpD T ds (Env.put e d v) σ' next (hist ++ [σ']) reads K⟩) (aop (.store n x y) e σ) := by
 simp only [wpD, bO, AOp.acts, AOp.reads, if_true, Bool.false_eq_true, if_false]
theorem D_nilCheck (x : AOpd) (d : Option Nat) (wl wh : Nat) (ds : List ADOper) (e : Env) (σ : St) (next : Nat) (hist : List St) (reads : List ARead) (K : Env → St → Prop) : wpD T (⟨⟨d, .nilCheck x, none⟩, wl, wh⟩ :: ds) e σ next hist reads K = bO (K := ⟨fun v σ' => σ' = σ ∧ wpD T ds (Env.put e d v) σ next hist reads K⟩) (aop (.nilCheck x) e σ) := by
 simp only [wpD, bO, AOp.acts, AOp.reads, if_true, Bool.false_eq_true, if_false]
theorem D_bin (op : BinOp) (x y : AOpd) (d : Option Nat) (wl wh : Nat) (ds : List ADOper) (e : Env) (σ : St) (next : Nat) (hist : List St) (reads : List ARead) (K : Env → St → Prop) : wpD T (⟨⟨d, .bin op x y, none⟩, wl, wh⟩ :: ds) e σ next hist reads K = bO (K := ⟨fun v σ' => σ' = σ ∧ wpD T ds (Env.put e d v) σ next hist reads K⟩) (aop (.bin op x y) e σ) := by
 simp only [wpD, bO, AOp.acts, AOp.reads, if_true, Bool.false_eq_true, if_false]
theorem D_eql (sh : EqTy) (n : Bool) (x y : AOpd) (d : Option Nat) (wl wh : Nat) (ds : List ADOper) (e : Env) (σ : St) (next : Nat) (hist : List St) (reads : List ARead) (K : Env → St → Prop) : wpD T (⟨⟨d, .eql sh n x y, none⟩, wl, wh⟩ :: ds) e σ next hist reads K = bO (K := ⟨fun v σ' => σ' = σ ∧ wpD T ds (Env.put e d v) σ next hist reads K⟩) (aop (.eql sh n x y) e σ) := by
 simp only [wpD, bO, AOp.acts, AOp.reads, if_true, Bool.false_eq_true, if_false]
theorem D_not (x : AOpd) (d : Option Nat) (wl wh : Nat) (ds : List ADOper) (e : Env) (σ : St) (next : Nat) (hist : List St) (reads : List ARead) (K : Env → St → Prop) : wpD T (⟨⟨d, .not x, none⟩, wl, wh⟩ :: ds) e σ next hist reads K = bO (K := ⟨fun v σ' => σ' = σ ∧ wpD T ds (Env.put e d v) σ next hist reads K⟩) (aop (.not x) e σ) := by
 simp only [wpD, bO, AOp.acts, AOp.reads, if_true, Bool.false_eq_true, if_false]
theorem D_neg (x : AOpd) (d : Option Nat) (wl wh : Nat) (ds : List ADOper) (e : Env) (σ : St) (next : Nat) (hist : List St) (reads : List ARead) (K : Env → St → Prop) : wpD T (⟨⟨d, .neg x, none⟩, wl, wh⟩ :: ds) e σ next hist reads K = bO (K := ⟨fun v σ' => σ' = σ ∧ wpD T ds (Env.put e d v) σ next hist reads K⟩) (aop (.neg x) e σ) := by
 simp only [wpD, bO, AOp.acts, AOp.reads, if_true, Bool.false_eq_true, if_false]
theorem D_conv (k : IntKind) (x : AOpd) (d : Option Nat) (wl wh : Nat) (ds : List ADOper) (e : Env) (σ : St) (next : Nat) (hist : List St) (reads : List ARead) (K : Env → St → Prop) : wpD T (⟨⟨d, .conv k x, none⟩, wl, wh⟩ :: ds) e σ next hist reads K = bO (K := ⟨fun v σ' => σ' = σ ∧ wpD T ds (Env.put e d v) σ next hist reads K⟩) (aop (.conv k x) e σ) := by
 simp only [wpD, bO, AOp.acts, AOp.reads, if_true, Bool.false_eq_true, if_false]
theorem D_mkfun (f : FuncId) (xs ys : List AOpd) (d : Option Nat) (wl wh : Nat) (ds : List ADOper) (e : Env) (σ : St) (next : Nat) (hist : List St) (reads : List ARead) (K : Env → St → Prop) : wpD T (⟨⟨d, .mkfun f xs ys, none⟩, wl, wh⟩ :: ds) e σ next hist reads K = bO (K := ⟨fun v σ' => σ' = σ ∧ wpD T ds (Env.put e d v) σ next hist reads K⟩) (aop (.mkfun f xs ys) e σ) := by
 simp only [wpD, bO, AOp.acts, AOp.reads, if_true, Bool.false_eq_true, if_false]
theorem D_mkmap  (d : Option Nat) (wl wh : Nat) (ds : List ADOper) (e : Env) (σ : St) (next : Nat) (hist : List St) (reads : List ARead) (K : Env → St → Prop) : wpD T (⟨⟨d, .mkmap, none⟩, wl, wh⟩ :: ds) e σ next hist reads K = bO (K := ⟨fun v σ' => wpD T ds (Env.put e d v) σ' next (hist ++ [σ']) reads K⟩) (aop (.mkmap) e σ) := by
 simp only [wpD, bO, AOp.acts, AOp.reads, if_true, Bool.false_eq_true, if_false]
theorem D_mkslice (z : List AV) (b : Nat) (x y : AOpd) (d : Option Nat) (wl wh : Nat) (ds : List ADOper) (e : Env) (σ : St) (next : Nat) (hist : List St) (reads : List ARead) (K : Env → St → Prop) : wpD T (⟨⟨d, .mkslice z b x y, none⟩, wl, wh⟩ :: ds) e σ next hist reads K = bO (K := ⟨fun v σ' => wpD T ds (Env.put e d v) σ' next (hist ++ [σ']) reads K⟩) (aop (.mkslice z b x y) e σ) := by
 simp only [wpD, bO, AOp.acts, AOp.reads, if_true, Bool.false_eq_true, if_false]
theorem D_slicev (n : Nat) (x : AOpd) (lo hi mx : Option AOpd) (d : Option Nat) (wl wh : Nat) (ds : List ADOper) (e : Env) (σ : St) (next : Nat) (hist : List St) (reads : List ARead) (K : Env → St → Prop) : wpD T (⟨⟨d, .slicev n x lo hi mx, none⟩, wl, wh⟩ :: ds) e σ next hist reads K = bO (K := ⟨fun v σ' => σ' = σ ∧ wpD T ds (Env.put e d v) σ next hist (⟨wl, wh, .slicev n x lo hi mx, e, v⟩ :: reads) K⟩) (aop (.slicev n x lo hi mx) e σ) := by
 simp only [wpD, bO, AOp.acts, AOp.reads, if_true, Bool.false_eq_true, if_false]
theorem D_slicea (n s : Nat) (x : AOpd) (lo hi : Option AOpd) (d : Option Nat) (wl wh : Nat) (ds : List ADOper) (e : Env) (σ : St) (next : Nat) (hist : List St) (reads : List ARead) (K : Env → St → Prop) : wpD T (⟨⟨d, .slicea n s x lo hi, none⟩, wl, wh⟩ :: ds) e σ next hist reads K = bO (K := ⟨fun v σ' => σ' = σ ∧ wpD T ds (Env.put e d v) σ next hist reads K⟩) (aop (.slicea n s x lo hi) e σ) := by
 simp only [wpD, bO, AOp.acts, AOp.reads, if_true, Bool.false_eq_true, if_false]
theorem D_faddr (x : AOpd) (o : Nat) (d : Option Nat) (wl wh : Nat) (ds : List ADOper) (e : Env) (σ : St) (next : Nat) (hist : List St) (reads : List ARead) (K : Env → St → Prop) : wpD T (⟨⟨d, .faddr x o, none⟩, wl, wh⟩ :: ds) e σ next hist reads K = bO (K := ⟨fun v σ' => σ' = σ ∧ wpD T ds (Env.put e d v) σ next hist reads K⟩) (aop (.faddr x o) e σ) := by
 simp only [wpD, bO, AOp.acts, AOp.reads, if_true, Bool.false_eq_true, if_false]
theorem D_field (x : AOpd) (o : Nat) (sh : Option Nat) (d : Option Nat) (wl wh : Nat) (ds : List ADOper) (e : Env) (σ : St) (next : Nat) (hist : List St) (reads : List ARead) (K : Env → St → Prop) : wpD T (⟨⟨d, .field x o sh, none⟩, wl, wh⟩ :: ds) e σ next hist reads K = bO (K := ⟨fun v σ' => σ' = σ ∧ wpD T ds (Env.put e d v) σ next hist reads K⟩) (aop (.field x o sh) e σ) := by
 simp only [wpD, bO, AOp.acts, AOp.reads, if_true, Bool.false_eq_true, if_false]
theorem D_iaddr (a : Option Nat) (s : Nat) (x i : AOpd) (d : Option Nat) (wl wh : Nat) (ds : List ADOper) (e : Env) (σ : St) (next : Nat) (hist : List St) (reads : List ARead) (K : Env → St → Prop) : wpD T (⟨⟨d, .iaddr a s x i, none⟩, wl, wh⟩ :: ds) e σ next hist reads K = bO (K := ⟨fun v σ' => σ' = σ ∧ wpD T ds (Env.put e d v) σ next hist reads K⟩) (aop (.iaddr a s x i) e σ) := by
 simp only [wpD, bO, AOp.acts, AOp.reads, if_true, Bool.false_eq_true, if_false]
theorem D_index (n s : Nat) (sh : Option Nat) (x i : AOpd) (d : Option Nat) (wl wh : Nat) (ds : List ADOper) (e : Env) (σ : St) (next : Nat) (hist : List St) (reads : List ARead) (K : Env → St → Prop) : wpD T (⟨⟨d, .index n s sh x i, none⟩, wl, wh⟩ :: ds) e σ next hist reads K = bO (K := ⟨fun v σ' => σ' = σ ∧ wpD T ds (Env.put e d v) σ next hist reads K⟩) (aop (.index n s sh x i) e σ) := by
 simp only [wpD, bO, AOp.acts, AOp.reads, if_true, Bool.false_eq_true, if_false]
theorem D_sindex (x i : AOpd) (d : Option Nat) (wl wh : Nat) (ds : List ADOper) (e : Env) (σ : St) (next : Nat) (hist : List St) (reads : List ARead) (K : Env → St → Prop) : wpD T (⟨⟨d, .sindex x i, none⟩, wl, wh⟩ :: ds) e σ next hist reads K = bO (K := ⟨fun v σ' => σ' = σ ∧ wpD T ds (Env.put e d v) σ next hist reads K⟩) (aop (.sindex x i) e σ) := by
 simp only [wpD, bO, AOp.acts, AOp.reads, if_true, Bool.false_eq_true, if_false]
theorem D_lookup (sh : EqTy) (ok : Bool) (z : AV) (m k : AOpd) (d : Option Nat) (wl wh : Nat) (ds : List ADOper) (e : Env) (σ : St) (next : Nat) (hist : List St) (reads : List ARead) (K : Env → St → Prop) : wpD T (⟨⟨d, .lookup sh ok z m k, none⟩, wl, wh⟩ :: ds) e σ next hist reads K = bO (K := ⟨fun v σ' => σ' = σ ∧ wpD T ds (Env.put e d v) σ next hist (⟨wl, wh, .lookup sh ok z m k, e, v⟩ :: reads) K⟩) (aop (.lookup sh ok z m k) e σ) := by
 simp only [wpD, bO, AOp.acts, AOp.reads, if_true, Bool.false_eq_true, if_false]
theorem D_mapset (sh : EqTy) (m k v : AOpd) (d : Option Nat) (wl wh : Nat) (ds : List ADOper) (e : Env) (σ : St) (next : Nat) (hist : List St) (reads : List ARead) (K : Env → St → Prop) : wpD T (⟨⟨d, .mapset sh m k v, none⟩, wl, wh⟩ :: ds) e σ next hist reads K = bO (K := ⟨fun v σ' => wpD T ds (Env.put e d v) σ' next (hist ++ [σ']) reads K⟩) (aop (.mapset sh m k v) e σ) := by
 simp only [wpD, bO, AOp.acts, AOp.reads, if_true, Bool.false_eq_true, if_false]
theorem D_ext (x : AOpd) (i : Nat) (d : Option Nat) (wl wh : Nat) (ds : List ADOper) (e : Env) (σ : St) (next : Nat) (hist : List St) (reads : List ARead) (K : Env → St → Prop) : wpD T (⟨⟨d, .ext x i, none⟩, wl, wh⟩ :: ds) e σ next hist reads K = bO (K := ⟨fun v σ' => σ' = σ ∧ wpD T ds (Env.put e d v) σ next hist reads K⟩) (aop (.ext x i) e σ) := by
 simp only [wpD, bO, AOp.acts, AOp.reads, if_true, Bool.false_eq_true, if_false]
theorem D_len (k : Nat) (x : AOpd) (d : Option Nat) (wl wh : Nat) (ds : List ADOper) (e : Env) (σ : St) (next : Nat) (hist : List St) (reads : List ARead) (K : Env → St → Prop) : wpD T (⟨⟨d, .len k x, none⟩, wl, wh⟩ :: ds) e σ next hist reads K = bO (K := ⟨fun v σ' => σ' = σ ∧ wpD T ds (Env.put e d v) σ next hist (⟨wl, wh, .len k x, e, v⟩ :: reads) K⟩) (aop (.len k x) e σ) := by
 simp only [wpD, bO, AOp.acts, AOp.reads, if_true, Bool.false_eq_true, if_false]
theorem D_append (n b : Nat) (x y : AOpd) (d : Option Nat) (wl wh : Nat) (ds : List ADOper) (e : Env) (σ : St) (next : Nat) (hist : List St) (reads : List ARead) (K : Env → St → Prop) : wpD T (⟨⟨d, .append n b x y, none⟩, wl, wh⟩ :: ds) e σ next hist reads K = bO (K := ⟨fun v σ' => wpD T ds (Env.put e d v) σ' next (hist ++ [σ']) reads K⟩) (aop (.append n b x y) e σ) := by
 simp only [wpD, bO, AOp.acts, AOp.reads, if_true, Bool.false_eq_true, if_false]
theorem D_apref (n b : Nat) (x y : AOpd) (d : Option Nat) (wl wh : Nat) (ds : List ADOper) (e : Env) (σ : St) (next : Nat) (hist : List St) (reads : List ARead) (K : Env → St → Prop) : wpD T (⟨⟨d, .apref n b x y, none⟩, wl, wh⟩ :: ds) e σ next hist reads K = bO (K := ⟨fun v σ' => wpD T ds (Env.put e d v) σ' next (hist ++ [σ']) reads K⟩) (aop (.apref n b x y) e σ) := by
 simp only [wpD, bO, AOp.acts, AOp.reads, if_true, Bool.false_eq_true, if_false]
theorem D_copy (n : Nat) (x y : AOpd) (d : Option Nat) (wl wh : Nat) (ds : List ADOper) (e : Env) (σ : St) (next : Nat) (hist : List St) (reads : List ARead) (K : Env → St → Prop) : wpD T (⟨⟨d, .copy n x y, none⟩, wl, wh⟩ :: ds) e σ next hist reads K = bO (K := ⟨fun v σ' => wpD T ds (Env.put e d v) σ' next (hist ++ [σ']) reads K⟩) (aop (.copy n x y) e σ) := by
 simp only [wpD, bO, AOp.acts, AOp.reads, if_true, Bool.false_eq_true, if_false]
theorem D_min (xs : List AOpd) (d : Option Nat) (wl wh : Nat) (ds : List ADOper) (e : Env) (σ : St) (next : Nat) (hist : List St) (reads : List ARead) (K : Env → St → Prop) : wpD T (⟨⟨d, .min xs, none⟩, wl, wh⟩ :: ds) e σ next hist reads K = bO (K := ⟨fun v σ' => σ' = σ ∧ wpD T ds (Env.put e d v) σ next hist reads K⟩) (aop (.min xs) e σ) := by
 simp only [wpD, bO, AOp.acts, AOp.reads, if_true, Bool.false_eq_true, if_false]
theorem D_max (xs : List AOpd) (d : Option Nat) (wl wh : Nat) (ds : List ADOper) (e : Env) (σ : St) (next : Nat) (hist : List St) (reads : List ARead) (K : Env → St → Prop) : wpD T (⟨⟨d, .max xs, none⟩, wl, wh⟩ :: ds) e σ next hist reads K = bO (K := ⟨fun v σ' => σ' = σ ∧ wpD T ds (Env.put e d v) σ next hist reads K⟩) (aop (.max xs) e σ) := by
 simp only [wpD, bO, AOp.acts, AOp.reads, if_true, Bool.false_eq_true, if_false]
theorem D_srange (x : AOpd) (d : Option Nat) (wl wh : Nat) (ds : List ADOper) (e : Env) (σ : St) (next : Nat) (hist : List St) (reads : List ARead) (K : Env → St → Prop) : wpD T (⟨⟨d, .srange x, none⟩, wl, wh⟩ :: ds) e σ next hist reads K = bO (K := ⟨fun v σ' => wpD T ds (Env.put e d v) σ' next (hist ++ [σ']) reads K⟩) (aop (.srange x) e σ) := by
 simp only [wpD, bO, AOp.acts, AOp.reads, if_true, Bool.false_eq_true, if_false]
theorem D_snext (x : AOpd) (d : Option Nat) (wl wh : Nat) (ds : List ADOper) (e : Env) (σ : St) (next : Nat) (hist : List St) (reads : List ARead) (K : Env → St → Prop) : wpD T (⟨⟨d, .snext x, none⟩, wl, wh⟩ :: ds) e σ next hist reads K = bO (K := ⟨fun v σ' => wpD T ds (Env.put e d v) σ' next (hist ++ [σ']) reads K⟩) (aop (.snext x) e σ) := by
 simp only [wpD, bO, AOp.acts, AOp.reads, if_true, Bool.false_eq_true, if_false]
theorem D_guardC (f : AOpd) (xs : List AOpd) (t : Nat) (want : Bool) (d : Option Nat) (wl wh : Nat) (ds : List ADOper) (e : Env) (σ : St) (next : Nat) (hist : List St) (reads : List ARead) (K : Env → St → Prop) : wpD T (⟨⟨d, .call f xs, some (t, want)⟩, wl, wh⟩ :: ds) e σ next hist reads K =
  bG (A := ⟨wpD T (⟨⟨d, .call f xs, none⟩, wl, wh⟩ :: ds) e σ next hist reads K⟩) (B := ⟨wpD T ds (Env.put e d (.tuple [])) σ next (hist ++ [σ]) reads K⟩) (Env.get e t) want := by simp only [wpD, bG]
theorem G_mov (x : AOpd) (t : Nat) (want : Bool) (d : Option Nat) (wl wh : Nat) (ds : List ADOper) (e : Env) (σ : St) (next : Nat) (hist : List St) (reads : List ARead) (K : Env → St → Prop) : wpD T (⟨⟨d, .mov x, some (t, want)⟩, wl, wh⟩ :: ds) e σ next hist reads K =
  bG (A := ⟨wpD T (⟨⟨d, .mov x, none⟩, wl, wh⟩ :: ds) e σ next hist reads K⟩) (B := ⟨wpD T ds (Env.put e d (.tuple [])) σ next hist reads K⟩) (Env.get e t) want := by
 simp only [wpD, bG, AOp.allocs, AOp.acts, true_and, if_true, Bool.false_eq_true, if_false]
theorem G_pick (c x y : AOpd) (t : Nat) (want : Bool) (d : Option Nat) (wl wh : Nat) (ds : List ADOper) (e : Env) (σ : St) (next : Nat) (hist : List St) (reads : List ARead) (K : Env → St → Prop) : wpD T (⟨⟨d, .pick c x y, some (t, want)⟩, wl, wh⟩ :: ds) e σ next hist reads K =
  bG (A := ⟨wpD T (⟨⟨d, .pick c x y, none⟩, wl, wh⟩ :: ds) e σ next hist reads K⟩) (B := ⟨wpD T ds (Env.put e d (.tuple [])) σ next hist reads K⟩) (Env.get e t) want := by
 simp only [wpD, bG, AOp.allocs, AOp.acts, true_and, if_true, Bool.false_eq_true, if_false]
theorem G_box (n : Nat) (x : AOpd) (t : Nat) (want : Bool) (d : Option Nat) (wl wh : Nat) (ds : List ADOper) (e : Env) (σ : St) (next : Nat) (hist : List St) (reads : List ARead) (K : Env → St → Prop) : wpD T (⟨⟨d, .box n x, some (t, want)⟩, wl, wh⟩ :: ds) e σ next hist reads K =
  bG (A := ⟨wpD T (⟨⟨d, .box n x, none⟩, wl, wh⟩ :: ds) e σ next hist reads K⟩) (B := ⟨wpD T ds (Env.put e d (.tuple [])) σ next (hist ++ [σ]) reads K⟩) (Env.get e t) want := by
 simp only [wpD, bG, AOp.allocs, AOp.acts, true_and, if_true, Bool.false_eq_true, if_false]
theorem G_build (z : List AV) (ps : List (Nat × Nat × AOpd)) (t : Nat) (want : Bool) (d : Option Nat) (wl wh : Nat) (ds : List ADOper) (e : Env) (σ : St) (next : Nat) (hist : List St) (reads : List ARead) (K : Env → St → Prop) : wpD T (⟨⟨d, .build z ps, some (t, want)⟩, wl, wh⟩ :: ds) e σ next hist reads K =
  bG (A := ⟨wpD T (⟨⟨d, .build z ps, none⟩, wl, wh⟩ :: ds) e σ next hist reads K⟩) (B := ⟨wpD T ds (Env.put e d (.tuple [])) σ next hist reads K⟩) (Env.get e t) want := by
 simp only [wpD, bG, AOp.allocs, AOp.acts, true_and, if_true, Bool.false_eq_true, if_false]
theorem G_mklit (n : Nat) (xs : List AOpd) (t : Nat) (want : Bool) (d : Option Nat) (wl wh : Nat) (ds : List ADOper) (e : Env) (σ : St) (next : Nat) (hist : List St) (reads : List ARead) (K : Env → St → Prop) : wpD T (⟨⟨d, .mklit n xs, some (t, want)⟩, wl, wh⟩ :: ds) e σ next hist reads K =
  bG (A := ⟨wpD T (⟨⟨d, .mklit n xs, none⟩, wl, wh⟩ :: ds) e σ next hist reads K⟩) (B := ⟨wpD T ds (Env.put e d (.tuple [])) σ next hist reads K⟩) (Env.get e t) want := by
 simp only [wpD, bG, AOp.allocs, AOp.acts, true_and, if_true, Bool.false_eq_true, if_false]
theorem G_mkref (n : Nat) (xs : List AOpd) (t : Nat) (want : Bool) (d : Option Nat) (wl wh : Nat) (ds : List ADOper) (e : Env) (σ : St) (next : Nat) (hist : List St) (reads : List ARead) (K : Env → St → Prop) : wpD T (⟨⟨d, .mkref n xs, some (t, want)⟩, wl, wh⟩ :: ds) e σ next hist reads K =
  bG (A := ⟨wpD T (⟨⟨d, .mkref n xs, none⟩, wl, wh⟩ :: ds) e σ next hist reads K⟩) (B := ⟨wpD T ds (Env.put e d (.tuple [])) σ next (hist ++ [σ]) reads K⟩) (Env.get e t) want := by
 simp only [wpD, bG, AOp.allocs, AOp.acts, true_and, if_true, Bool.false_eq_true, if_false]
theorem G_load (sh : Option Nat) (x : AOpd) (t : Nat) (want : Bool) (d : Option Nat) (wl wh : Nat) (ds : List ADOper) (e : Env) (σ : St) (next : Nat) (hist : List St) (reads : List ARead) (K : Env → St → Prop) : wpD T (⟨⟨d, .load sh x, some (t, want)⟩, wl, wh⟩ :: ds) e σ next hist reads K =
  bG (A := ⟨wpD T (⟨⟨d, .load sh x, none⟩, wl, wh⟩ :: ds) e σ next hist reads K⟩) (B := ⟨wpD T ds (Env.put e d (.tuple [])) σ next hist reads K⟩) (Env.get e t) want := by
 simp only [wpD, bG, AOp.allocs, AOp.acts, true_and, if_true, Bool.false_eq_true, if_false]
theorem G_store (n : Nat) (x y : AOpd) (t : Nat) (want : Bool) (d : Option Nat) (wl wh : Nat) (ds : List ADOper) (e : Env) (σ : St) (next : Nat) (hist : List St) (reads : List ARead) (K : Env → St → Prop) : wpD T (⟨⟨d, .store n x y, some (t, want)⟩, wl, wh⟩ :: ds) e σ next hist reads K =
  bG (A := ⟨wpD T (⟨⟨d, .store n x y, none⟩, wl, wh⟩ :: ds) e σ next hist reads K⟩) (B := ⟨wpD T ds (Env.put e d (.tuple [])) σ next (hist ++ [σ]) reads K⟩) (Env.get e t) want := by
 simp only [wpD, bG, AOp.allocs, AOp.acts, true_and, if_true, Bool.false_eq_true, if_false]
theorem G_nilCheck (x : AOpd) (t : Nat) (want : Bool) (d : Option Nat) (wl wh : Nat) (ds : List ADOper) (e : Env) (σ : St) (next : Nat) (hist : List St) (reads : List ARead) (K : Env → St → Prop) : wpD T (⟨⟨d, .nilCheck x, some (t, want)⟩, wl, wh⟩ :: ds) e σ next hist reads K =
  bG (A := ⟨wpD T (⟨⟨d, .nilCheck x, none⟩, wl, wh⟩ :: ds) e σ next hist reads K⟩) (B := ⟨wpD T ds (Env.put e d (.tuple [])) σ next hist reads K⟩) (Env.get e t) want := by
 simp only [wpD, bG, AOp.allocs, AOp.acts, true_and, if_true, Bool.false_eq_true, if_false]
theorem G_bin (op : BinOp) (x y : AOpd) (t : Nat) (want : Bool) (d : Option Nat) (wl wh : Nat) (ds : List ADOper) (e : Env) (σ : St) (next : Nat) (hist : List St) (reads : List ARead) (K : Env → St → Prop) : wpD T (⟨⟨d, .bin op x y, some (t, want)⟩, wl, wh⟩ :: ds) e σ next hist reads K =
  bG (A := ⟨wpD T (⟨⟨d, .bin op x y, none⟩, wl, wh⟩ :: ds) e σ next hist reads K⟩) (B := ⟨wpD T ds (Env.put e d (.tuple [])) σ next hist reads K⟩) (Env.get e t) want := by
 simp only [wpD, bG, AOp.allocs, AOp.acts, true_and, if_true, Bool.false_eq_true, if_false]
theorem G_eql (sh : EqTy) (n : Bool) (x y : AOpd) (t : Nat) (want : Bool) (d : Option Nat) (wl wh : Nat) (ds : List ADOper) (e : Env) (σ : St) (next : Nat) (hist : List St) (reads : List ARead) (K : Env → St → Prop) : wpD T (⟨⟨d, .eql sh n x y, some (t, want)⟩, wl, wh⟩ :: ds) e σ next hist reads K =
  bG (A := ⟨wpD T (⟨⟨d, .eql sh n x y, none⟩, wl, wh⟩ :: ds) e σ next hist reads K⟩) (B := ⟨wpD T ds (Env.put e d (.tuple [])) σ next hist reads K⟩) (Env.get e t) want := by
 simp only [wpD, bG, AOp.allocs, AOp.acts, true_and, if_true, Bool.false_eq_true, if_false]
theorem G_not (x : AOpd) (t : Nat) (want : Bool) (d : Option Nat) (wl wh : Nat) (ds : List ADOper) (e : Env) (σ : St) (next : Nat) (hist : List St) (reads : List ARead) (K : Env → St → Prop) : wpD T (⟨⟨d, .not x, some (t, want)⟩, wl, wh⟩ :: ds) e σ next hist reads K =
  bG (A := ⟨wpD T (⟨⟨d, .not x, none⟩, wl, wh⟩ :: ds) e σ next hist reads K⟩) (B := ⟨wpD T ds (Env.put e d (.tuple [])) σ next hist reads K⟩) (Env.get e t) want := by
 simp only [wpD, bG, AOp.allocs, AOp.acts, true_and, if_true, Bool.false_eq_true, if_false]
theorem G_neg (x : AOpd) (t : Nat) (want : Bool) (d : Option Nat) (wl wh : Nat) (ds : List ADOper) (e : Env) (σ : St) (next : Nat) (hist : List St) (reads : List ARead) (K : Env → St → Prop) : wpD T (⟨⟨d, .neg x, some (t, want)⟩, wl, wh⟩ :: ds) e σ next hist reads K =
  bG (A := ⟨wpD T (⟨⟨d, .neg x, none⟩, wl, wh⟩ :: ds) e σ next hist reads K⟩) (B := ⟨wpD T ds (Env.put e d (.tuple [])) σ next hist reads K⟩) (Env.get e t) want := by
 simp only [wpD, bG, AOp.allocs, AOp.acts, true_and, if_true, Bool.false_eq_true, if_false]
theorem G_conv (k : IntKind) (x : AOpd) (t : Nat) (want : Bool) (d : Option Nat) (wl wh : Nat) (ds : List ADOper) (e : Env) (σ : St) (next : Nat) (hist : List St) (reads : List ARead) (K : Env → St → Prop) : wpD T (⟨⟨d, .conv k x, some (t, want)⟩, wl, wh⟩ :: ds) e σ next hist reads K =
  bG (A := ⟨wpD T (⟨⟨d, .conv k x, none⟩, wl, wh⟩ :: ds) e σ next hist reads K⟩) (B := ⟨wpD T ds (Env.put e d (.tuple [])) σ next hist reads K⟩) (Env.get e t) want := by
 simp only [wpD, bG, AOp.allocs, AOp.acts, true_and, if_true, Bool.false_eq_true, if_false]
theorem G_mkfun (f : FuncId) (xs ys : List AOpd) (t : Nat) (want : Bool) (d : Option Nat) (wl wh : Nat) (ds : List ADOper) (e : Env) (σ : St) (next : Nat) (hist : List St) (reads : List ARead) (K : Env → St → Prop) : wpD T (⟨⟨d, .mkfun f xs ys, some (t, want)⟩, wl, wh⟩ :: ds) e σ next hist reads K =
  bG (A := ⟨wpD T (⟨⟨d, .mkfun f xs ys, none⟩, wl, wh⟩ :: ds) e σ next hist reads K⟩) (B := ⟨wpD T ds (Env.put e d (.tuple [])) σ next hist reads K⟩) (Env.get e t) want := by
 simp only [wpD, bG, AOp.allocs, AOp.acts, true_and, if_true, Bool.false_eq_true, if_false]
theorem G_mkmap  (t : Nat) (want : Bool) (d : Option Nat) (wl wh : Nat) (ds : List ADOper) (e : Env) (σ : St) (next : Nat) (hist : List St) (reads : List ARead) (K : Env → St → Prop) : wpD T (⟨⟨d, .mkmap, some (t, want)⟩, wl, wh⟩ :: ds) e σ next hist reads K =
  bG (A := ⟨wpD T (⟨⟨d, .mkmap, none⟩, wl, wh⟩ :: ds) e σ next hist reads K⟩) (B := ⟨wpD T ds (Env.put e d (.tuple [])) σ next (hist ++ [σ]) reads K⟩) (Env.get e t) want := by
 simp only [wpD, bG, AOp.allocs, AOp.acts, true_and, if_true, Bool.false_eq_true, if_false]
theorem G_mkslice (z : List AV) (b : Nat) (x y : AOpd) (t : Nat) (want : Bool) (d : Option Nat) (wl wh : Nat) (ds : List ADOper) (e : Env) (σ : St) (next : Nat) (hist : List St) (reads : List ARead) (K : Env → St → Prop) : wpD T (⟨⟨d, .mkslice z b x y, some (t, want)⟩, wl, wh⟩ :: ds) e σ next hist reads K =
  bG (A := ⟨wpD T (⟨⟨d, .mkslice z b x y, none⟩, wl, wh⟩ :: ds) e σ next hist reads K⟩) (B := ⟨wpD T ds (Env.put e d (.tuple [])) σ next (hist ++ [σ]) reads K⟩) (Env.get e t) want := by
 simp only [wpD, bG, AOp.allocs, AOp.acts, true_and, if_true, Bool.false_eq_true, if_false]
theorem G_slicev (n : Nat) (x : AOpd) (lo hi mx : Option AOpd) (t : Nat) (want : Bool) (d : Option Nat) (wl wh : Nat) (ds : List ADOper) (e : Env) (σ : St) (next : Nat) (hist : List St) (reads : List ARead) (K : Env → St → Prop) : wpD T (⟨⟨d, .slicev n x lo hi mx, some (t, want)⟩, wl, wh⟩ :: ds) e σ next hist reads K =
  bG (A := ⟨wpD T (⟨⟨d, .slicev n x lo hi mx, none⟩, wl, wh⟩ :: ds) e σ next hist reads K⟩) (B := ⟨wpD T ds (Env.put e d (.tuple [])) σ next hist reads K⟩) (Env.get e t) want := by
 simp only [wpD, bG, AOp.allocs, AOp.acts, true_and, if_true, Bool.false_eq_true, if_false]
theorem G_slicea (n s : Nat) (x : AOpd) (lo hi : Option AOpd) (t : Nat) (want : Bool) (d : Option Nat) (wl wh : Nat) (ds : List ADOper) (e : Env) (σ : St) (next : Nat) (hist : List St) (reads : List ARead) (K : Env → St → Prop) : wpD T (⟨⟨d, .slicea n s x lo hi, some (t, want)⟩, wl, wh⟩ :: ds) e σ next hist reads K =
  bG (A := ⟨wpD T (⟨⟨d, .slicea n s x lo hi, none⟩, wl, wh⟩ :: ds) e σ next hist reads K⟩) (B := ⟨wpD T ds (Env.put e d (.tuple [])) σ next hist reads K⟩) (Env.get e t) want := by
 simp only [wpD, bG, AOp.allocs, AOp.acts, true_and, if_true, Bool.false_eq_true, if_false]
theorem G_faddr (x : AOpd) (o : Nat) (t : Nat) (want : Bool) (d : Option Nat) (wl wh : Nat) (ds : List ADOper) (e : Env) (σ : St) (next : Nat) (hist : List St) (reads : List ARead) (K : Env → St → Prop) : wpD T (⟨⟨d, .faddr x o, some (t, want)⟩, wl, wh⟩ :: ds) e σ next hist reads K =
  bG (A := ⟨wpD T (⟨⟨d, .faddr x o, none⟩, wl, wh⟩ :: ds) e σ next hist reads K⟩) (B := ⟨wpD T ds (Env.put e d (.tuple [])) σ next hist reads K⟩) (Env.get e t) want := by
 simp only [wpD, bG, AOp.allocs, AOp.acts, true_and, if_true, Bool.false_eq_true, if_false]
theorem G_field (x : AOpd) (o : Nat) (sh : Option Nat) (t : Nat) (want : Bool) (d : Option Nat) (wl wh : Nat) (ds : List ADOper) (e : Env) (σ : St) (next : Nat) (hist : List St) (reads : List ARead) (K : Env → St → Prop) : wpD T (⟨⟨d, .field x o sh, some (t, want)⟩, wl, wh⟩ :: ds) e σ next hist reads K =
  bG (A := ⟨wpD T (⟨⟨d, .field x o sh, none⟩, wl, wh⟩ :: ds) e σ next hist reads K⟩) (B := ⟨wpD T ds (Env.put e d (.tuple [])) σ next hist reads K⟩) (Env.get e t) want := by
 simp only [wpD, bG, AOp.allocs, AOp.acts, true_and, if_true, Bool.false_eq_true, if_false]
theorem G_iaddr (a : Option Nat) (s : Nat) (x i : AOpd) (t : Nat) (want : Bool) (d : Option Nat) (wl wh : Nat) (ds : List ADOper) (e : Env) (σ : St) (next : Nat) (hist : List St) (reads : List ARead) (K : Env → St → Prop) : wpD T (⟨⟨d, .iaddr a s x i, some (t, want)⟩, wl, wh⟩ :: ds) e σ next hist reads K =
  bG (A := ⟨wpD T (⟨⟨d, .iaddr a s x i, none⟩, wl, wh⟩ :: ds) e σ next hist reads K⟩) (B := ⟨wpD T ds (Env.put e d (.tuple [])) σ next hist reads K⟩) (Env.get e t) want := by
 simp only [wpD, bG, AOp.allocs, AOp.acts, true_and, if_true, Bool.false_eq_true, if_false]
theorem G_index (n s : Nat) (sh : Option Nat) (x i : AOpd) (t : Nat) (want : Bool) (d : Option Nat) (wl wh : Nat) (ds : List ADOper) (e : Env) (σ : St) (next : Nat) (hist : List St) (reads : List ARead) (K : Env → St → Prop) : wpD T (⟨⟨d, .index n s sh x i, some (t, want)⟩, wl, wh⟩ :: ds) e σ next hist reads K =
  bG (A := ⟨wpD T (⟨⟨d, .index n s sh x i, none⟩, wl, wh⟩ :: ds) e σ next hist reads K⟩) (B := ⟨wpD T ds (Env.put e d (.tuple [])) σ next hist reads K⟩) (Env.get e t) want := by
 simp only [wpD, bG, AOp.allocs, AOp.acts, true_and, if_true, Bool.false_eq_true, if_false]
theorem G_sindex (x i : AOpd) (t : Nat) (want : Bool) (d : Option Nat) (wl wh : Nat) (ds : List ADOper) (e : Env) (σ : St) (next : Nat) (hist : List St) (reads : List ARead) (K : Env → St → Prop) : wpD T (⟨⟨d, .sindex x i, some (t, want)⟩, wl, wh⟩ :: ds) e σ next hist reads K =
  bG (A := ⟨wpD T (⟨⟨d, .sindex x i, none⟩, wl, wh⟩ :: ds) e σ next hist reads K⟩) (B := ⟨wpD T ds (Env.put e d (.tuple [])) σ next hist reads K⟩) (Env.get e t) want := by
 simp only [wpD, bG, AOp.allocs, AOp.acts, true_and, if_true, Bool.false_eq_true, if_false]
theorem G_lookup (sh : EqTy) (ok : Bool) (z : AV) (m k : AOpd) (t : Nat) (want : Bool) (d : Option Nat) (wl wh : Nat) (ds : List ADOper) (e : Env) (σ : St) (next : Nat) (hist : List St) (reads : List ARead) (K : Env → St → Prop) : wpD T (⟨⟨d, .lookup sh ok z m k, some (t, want)⟩, wl, wh⟩ :: ds) e σ next hist reads K =
  bG (A := ⟨wpD T (⟨⟨d, .lookup sh ok z m k, none⟩, wl, wh⟩ :: ds) e σ next hist reads K⟩) (B := ⟨wpD T ds (Env.put e d (.tuple [])) σ next hist reads K⟩) (Env.get e t) want := by
 simp only [wpD, bG, AOp.allocs, AOp.acts, true_and, if_true, Bool.false_eq_true, if_false]
theorem G_mapset (sh : EqTy) (m k v : AOpd) (t : Nat) (want : Bool) (d : Option Nat) (wl wh : Nat) (ds : List ADOper) (e : Env) (σ : St) (next : Nat) (hist : List St) (reads : List ARead) (K : Env → St → Prop) : wpD T (⟨⟨d, .mapset sh m k v, some (t, want)⟩, wl, wh⟩ :: ds) e σ next hist reads K =
  bG (A := ⟨wpD T (⟨⟨d, .mapset sh m k v, none⟩, wl, wh⟩ :: ds) e σ next hist reads K⟩) (B := ⟨wpD T ds (Env.put e d (.tuple [])) σ next (hist ++ [σ]) reads K⟩) (Env.get e t) want := by
 simp only [wpD, bG, AOp.allocs, AOp.acts, true_and, if_true, Bool.false_eq_true, if_false]
theorem G_ext (x : AOpd) (i : Nat) (t : Nat) (want : Bool) (d : Option Nat) (wl wh : Nat) (ds : List ADOper) (e : Env) (σ : St) (next : Nat) (hist : List St) (reads : List ARead) (K : Env → St → Prop) : wpD T (⟨⟨d, .ext x i, some (t, want)⟩, wl, wh⟩ :: ds) e σ next hist reads K =
  bG (A := ⟨wpD T (⟨⟨d, .ext x i, none⟩, wl, wh⟩ :: ds) e σ next hist reads K⟩) (B := ⟨wpD T ds (Env.put e d (.tuple [])) σ next hist reads K⟩) (Env.get e t) want := by
 simp only [wpD, bG, AOp.allocs, AOp.acts, true_and, if_true, Bool.false_eq_true, if_false]
theorem G_len (k : Nat) (x : AOpd) (t : Nat) (want : Bool) (d : Option Nat) (wl wh : Nat) (ds : List ADOper) (e : Env) (σ : St) (next : Nat) (hist : List St) (reads : List ARead) (K : Env → St → Prop) : wpD T (⟨⟨d, .len k x, some (t, want)⟩, wl, wh⟩ :: ds) e σ next hist reads K =
  bG (A := ⟨wpD T (⟨⟨d, .len k x, none⟩, wl, wh⟩ :: ds) e σ next hist reads K⟩) (B := ⟨wpD T ds (Env.put e d (.tuple [])) σ next hist reads K⟩) (Env.get e t) want := by
 simp only [wpD, bG, AOp.allocs, AOp.acts, true_and, if_true, Bool.false_eq_true, if_false]
theorem G_append (n b : Nat) (x y : AOpd) (t : Nat) (want : Bool) (d : Option Nat) (wl wh : Nat) (ds : List ADOper) (e : Env) (σ : St) (next : Nat) (hist : List St) (reads : List ARead) (K : Env → St → Prop) : wpD T (⟨⟨d, .append n b x y, some (t, want)⟩, wl, wh⟩ :: ds) e σ next hist reads K =
  bG (A := ⟨wpD T (⟨⟨d, .append n b x y, none⟩, wl, wh⟩ :: ds) e σ next hist reads K⟩) (B := ⟨wpD T ds (Env.put e d (.tuple [])) σ next (hist ++ [σ]) reads K⟩) (Env.get e t) want := by
 simp only [wpD, bG, AOp.allocs, AOp.acts, true_and, if_true, Bool.false_eq_true, if_false]
theorem G_apref (n b : Nat) (x y : AOpd) (t : Nat) (want : Bool) (d : Option Nat) (wl wh : Nat) (ds : List ADOper) (e : Env) (σ : St) (next : Nat) (hist : List St) (reads : List ARead) (K : Env → St → Prop) : wpD T (⟨⟨d, .apref n b x y, some (t, want)⟩, wl, wh⟩ :: ds) e σ next hist reads K =
  bG (A := ⟨wpD T (⟨⟨d, .apref n b x y, none⟩, wl, wh⟩ :: ds) e σ next hist reads K⟩) (B := ⟨wpD T ds (Env.put e d (.tuple [])) σ next (hist ++ [σ]) reads K⟩) (Env.get e t) want := by
 simp only [wpD, bG, AOp.allocs, AOp.acts, true_and, if_true, Bool.false_eq_true, if_false]
theorem G_copy (n : Nat) (x y : AOpd) (t : Nat) (want : Bool) (d : Option Nat) (wl wh : Nat) (ds : List ADOper) (e : Env) (σ : St) (next : Nat) (hist : List St) (reads : List ARead) (K : Env → St → Prop) : wpD T (⟨⟨d, .copy n x y, some (t, want)⟩, wl, wh⟩ :: ds) e σ next hist reads K =
  bG (A := ⟨wpD T (⟨⟨d, .copy n x y, none⟩, wl, wh⟩ :: ds) e σ next hist reads K⟩) (B := ⟨wpD T ds (Env.put e d (.tuple [])) σ next (hist ++ [σ]) reads K⟩) (Env.get e t) want := by
 simp only [wpD, bG, AOp.allocs, AOp.acts, true_and, if_true, Bool.false_eq_true, if_false]
theorem G_min (xs : List AOpd) (t : Nat) (want : Bool) (d : Option Nat) (wl wh : Nat) (ds : List ADOper) (e : Env) (σ : St) (next : Nat) (hist : List St) (reads : List ARead) (K : Env → St → Prop) : wpD T (⟨⟨d, .min xs, some (t, want)⟩, wl, wh⟩ :: ds) e σ next hist reads K =
  bG (A := ⟨wpD T (⟨⟨d, .min xs, none⟩, wl, wh⟩ :: ds) e σ next hist reads K⟩) (B := ⟨wpD T ds (Env.put e d (.tuple [])) σ next hist reads K⟩) (Env.get e t) want := by
 simp only [wpD, bG, AOp.allocs, AOp.acts, true_and, if_true, Bool.false_eq_true, if_false]
theorem G_max (xs : List AOpd) (t : Nat) (want : Bool) (d : Option Nat) (wl wh : Nat) (ds : List ADOper) (e : Env) (σ : St) (next : Nat) (hist : List St) (reads : List ARead) (K : Env → St → Prop) : wpD T (⟨⟨d, .max xs, some (t, want)⟩, wl, wh⟩ :: ds) e σ next hist reads K =
  bG (A := ⟨wpD T (⟨⟨d, .max xs, none⟩, wl, wh⟩ :: ds) e σ next hist reads K⟩) (B := ⟨wpD T ds (Env.put e d (.tuple [])) σ next hist reads K⟩) (Env.get e t) want := by
 simp only [wpD, bG, AOp.allocs, AOp.acts, true_and, if_true, Bool.false_eq_true, if_false]
theorem G_srange (x : AOpd) (t : Nat) (want : Bool) (d : Option Nat) (wl wh : Nat) (ds : List ADOper) (e : Env) (σ : St) (next : Nat) (hist : List St) (reads : List ARead) (K : Env → St → Prop) : wpD T (⟨⟨d, .srange x, some (t, want)⟩, wl, wh⟩ :: ds) e σ next hist reads K =
  bG (A := ⟨wpD T (⟨⟨d, .srange x, none⟩, wl, wh⟩ :: ds) e σ next hist reads K⟩) (B := ⟨wpD T ds (Env.put e d (.tuple [])) σ next (hist ++ [σ]) reads K⟩) (Env.get e t) want := by
 simp only [wpD, bG, AOp.allocs, AOp.acts, true_and, if_true, Bool.false_eq_true, if_false]
theorem G_snext (x : AOpd) (t : Nat) (want : Bool) (d : Option Nat) (wl wh : Nat) (ds : List ADOper) (e : Env) (σ : St) (next : Nat) (hist : List St) (reads : List ARead) (K : Env → St → Prop) : wpD T (⟨⟨d, .snext x, some (t, want)⟩, wl, wh⟩ :: ds) e σ next hist reads K =
  bG (A := ⟨wpD T (⟨⟨d, .snext x, none⟩, wl, wh⟩ :: ds) e σ next hist reads K⟩) (B := ⟨wpD T ds (Env.put e d (.tuple [])) σ next (hist ++ [σ]) reads K⟩) (Env.get e t) want := by
 simp only [wpD, bG, AOp.allocs, AOp.acts, true_and, if_true, Bool.false_eq_true, if_false]
end Go.Am
namespace Go.Am
variable {T : FuncId → Option AFunc}
structure KeepS (σ σ' : St) (lo : Nat) : Prop where
 len : σ.length ≤ σ'.length
 low : ∀ i, i < lo → i < σ.length → σ'[i]? = σ[i]?
 loops : ∀ (i : Nat) (st : LS) (pe : Option AJump) (env : Env) (ps : List Nat) (a b : ACode), i < σ.length → σ'[i]? = some (.loop st pe env ps a b) → ∃ st' pe', σ[i]? = some (.loop st' pe' env ps a b)
theorem KeepS.refl (σ : St) (lo : Nat) : KeepS σ σ lo := ⟨Nat.le_refl _, fun _ _ _ => rfl, fun i st pe env ps a b _ h => ⟨st, pe, h⟩⟩
theorem KeepS.weak {σ σ' : St} {lo l : Nat} (h : KeepS σ σ' lo) (hl : l ≤ lo) : KeepS σ σ' l := ⟨h.len, fun i hi => h.low i (by omega), h.loops⟩
theorem KeepS.trans {σ σ1 σ2 : St} {l1 l2 : Nat} (h : KeepS σ σ1 l1) (k : KeepS σ1 σ2 l2) : KeepS σ σ2 (Nat.min l1 l2) where
 len := Nat.le_trans h.len k.len
 low i hi hlt := by
  have h1 : i < l1 := Nat.lt_of_lt_of_le hi (Nat.min_le_left _ _)
  have h2 : i < l2 := Nat.lt_of_lt_of_le hi (Nat.min_le_right _ _)
  rw [k.low i h2 (Nat.lt_of_lt_of_le hlt h.len), h.low i h1 hlt]
 loops i st pe env ps a b hlt e := by
  obtain ⟨st1, pe1, e1⟩ := k.loops i st pe env ps a b (Nat.lt_of_lt_of_le hlt h.len) e
  exact h.loops i st1 pe1 env ps a b hlt e1
theorem KeepS.app (σ : St) (τ : St) (lo : Nat) : KeepS σ (σ ++ τ) lo :=
 ⟨by simp, fun i _ hi => List.getElem?_append_left hi, fun i st pe env ps a b hi e => ⟨st, pe, by rw [← List.getElem?_append_left (l₂ := τ) hi]; exact e⟩⟩
theorem KeepS.set {σ : St} {i : Nat} {x : ABlk} (hx : ∀ st pe env ps a b, x ≠ .loop st pe env ps a b) : KeepS σ (σ.set i x) i where
 len := by simp
 low j hj _ := List.getElem?_set_ne (by omega)
 loops j st pe env ps a b hj e := by
  by_cases h : i = j
  ·subst h
   rw [List.getElem?_set_self hj] at e
   cases e
   exact absurd rfl (hx _ _ _ _ _ _)
  ·rw [List.getElem?_set_ne h] at e
   exact ⟨st, pe, e⟩
end Go.Am
namespace Go.Am
variable {T : FuncId → Option AFunc}
theorem KeepS.step {σ σ1 σ2 : St} {l lo lo' : Nat} (h : KeepS σ σ1 l) (k : lo' ≤ Nat.min lo l ∧ KeepS σ1 σ2 lo') : lo' ≤ lo ∧ KeepS σ σ2 lo' := by
 have h1 : lo' ≤ l := Nat.le_trans k.1 (Nat.min_le_right _ _)
 refine ⟨Nat.le_trans k.1 (Nat.min_le_left _ _), (h.trans k.2).weak ?_⟩
 exact Nat.le_min.2 ⟨h1, Nat.le_refl _⟩
end Go.Am
namespace Go.Am
variable {T : FuncId → Option AFunc}
theorem E_evs0 (e : Env) : evs e [] = [] := by simp only [evs]
theorem E_evs1 (e : Env) (x : AOpd) (xs : List AOpd) : evs e (x :: xs) = x.ev e :: evs e xs := by simp only [evs]
theorem E_ovs0 (e : Env) : ovs e none = none := by simp only [ovs]
theorem E_ovs1 (e : Env) (x : AOpd) : ovs e (some x) = some (x.ev e) := by simp only [ovs]
theorem O_map {α β : Type} (f : α → β) (a : α) : Option.map f (some a) = some (f a) := by simp
theorem O_bind {α β : Type} (f : α → Option β) (a : α) : (some a).bind f = f a := by simp
theorem V_nilP (i o : Nat) : vNil (.ptr i o) = some (.ptr i o) := by simp only [vNil]
theorem V_nilL (xs : List AV) (i o : Nat) (t : Option Nat) : vNil (.lptr xs i o t) = some (.lptr xs i o t) := by simp only [vNil]
theorem V_nilF (f : FuncId) (a b : List AV) : vNil (.func f a b) = some (.func f a b) := by simp only [vNil]
theorem V_field (o : Nat) (sh : Option Nat) (cs : List AV) : vField o sh (.agg cs) = shaped sh cs o := by simp only [vField]
theorem V_conv (k k' : IntKind) (n : Int) : vConv k (.int k' n) = some (.int k (k.wrap n)) := by simp only [vConv]
theorem V_neg (k : IntKind) (n : Int) : vNeg (.int k n) = some (.int k (k.wrap (0 - n))) := by simp only [vNeg]
theorem V_pickT (x y : AV) : vPick (.bool true) x y = some x := by simp only [vPick]
theorem V_pickF (x y : AV) : vPick (.bool false) x y = some y := by simp only [vPick]
theorem V_str (s : ByteArray) : vStr (.str s) = some s := by simp only [vStr]
theorem V_eqI (k : IntKind) (a b : Int) : eqCell .i (.int k a) (.int k b) = some (a == b) := by simp [eqCell]
theorem V_eqB (a b : Bool) : eqCell .b (.bool a) (.bool b) = some (a == b) := by simp [eqCell]
theorem V_eqS (a b : ByteArray) : eqCell .s (.str a) (.str b) = some (a.toList == b.toList) := by simp [eqCell]
def oand : Option Bool → Option Bool → Option Bool
 | some p, some q => some (p && q)
 | _, _ => none
theorem V_oand (p q : Bool) : oand (some p) (some q) = some (p && q) := by simp only [oand]
theorem V_eqC0 : eqCells [] [] [] = some true := by simp [eqCells]
theorem V_eqC1 (k : SK) (ks : List SK) (a b : AV) (x y : List AV) : eqCells (k :: ks) (a :: x) (b :: y) = oand (eqCell k a b) (eqCells ks x y) := by
 simp only [eqCells, oand]; cases eqCell k a b <;> cases eqCells ks x y <;> rfl
theorem V_eq1 (k : SK) (x y : AV) : vEql (.one k) false x y = (eqCell k x y).map .bool := by
 simp only [vEql, eqSh]; cases eqCell k x y <;> simp
theorem V_ne1 (k : SK) (x y : AV) : vEql (.one k) true x y = (eqCell k x y).map fun b => .bool !b := by
 simp only [vEql, eqSh]; cases eqCell k x y <;> simp
theorem V_eqA (ks : List SK) (x y : List AV) : vEql (.agg ks) false (.agg x) (.agg y) = (eqCells ks x y).map .bool := by
 simp only [vEql, eqSh]; cases eqCells ks x y <;> simp
theorem V_neA (ks : List SK) (x y : List AV) : vEql (.agg ks) true (.agg x) (.agg y) = (eqCells ks x y).map fun b => .bool !b := by
 simp only [vEql, eqSh]; cases eqCells ks x y <;> simp
theorem V_add (k : IntKind) (a b : Int) : binAV .add (.int k a) (.int k b) = some (.int k (k.wrap (a + b))) := by simp [binAV, binInt]
theorem V_sub (k : IntKind) (a b : Int) : binAV .sub (.int k a) (.int k b) = some (.int k (k.wrap (a - b))) := by simp [binAV, binInt]
theorem V_mul (k : IntKind) (a b : Int) : binAV .mul (.int k a) (.int k b) = some (.int k (k.wrap (a * b))) := by simp [binAV, binInt]
theorem V_lss (k : IntKind) (a b : Int) : binAV .lss (.int k a) (.int k b) = some (.bool (decide (a < b))) := by simp [binAV, binInt]
theorem V_leq (k : IntKind) (a b : Int) : binAV .leq (.int k a) (.int k b) = some (.bool (decide (a ≤ b))) := by simp [binAV, binInt]
theorem V_gtr (k : IntKind) (a b : Int) : binAV .gtr (.int k a) (.int k b) = some (.bool (decide (b < a))) := by simp [binAV, binInt]
theorem V_geq (k : IntKind) (a b : Int) : binAV .geq (.int k a) (.int k b) = some (.bool (decide (b ≤ a))) := by simp [binAV, binInt]
theorem wrap64 {x : Int} (h : -9223372036854775808 ≤ x ∧ x ≤ 9223372036854775807) : IntKind.i64.wrap x = x := by
 simp only [IntKind.wrap, IntKind.signed, IntKind.bits]
 first
  | (rw [Int.bmod_eq_of_le] <;> omega)
  | (simp; omega)
theorem V_len (σ : St) (xs : List AV) (f : Bool) (t : Option Nat) : lenAV 1 σ (.lit xs f t) = some xs.length := by simp only [lenAV]
theorem V_lenS (σ : St) (s : ByteArray) : lenAV 0 σ (.str s) = some s.size := by simp only [lenAV]
theorem V_lenR (σ : St) (id off len sz : Nat) : lenAV 1 σ (.ref id off len sz) = some len := by simp only [lenAV]
theorem M_ptr (sh : Option Nat) (σ : St) (id off : Nat) : loadAV sh σ (.ptr id off) = (cellsAt σ id).bind fun cs => shaped sh cs off := by
 simp only [loadAV]; cases cellsAt σ id <;> simp
theorem M_lptr (sh : Option Nat) (σ : St) (xs : List AV) (i off : Nat) (t : Option Nat) : loadAV sh σ (.lptr xs i off t) = (xs[i]?).bind fun x => shaped sh x.cells off := by
 simp only [loadAV]; cases xs[i]? <;> simp
theorem M_at0 (b : List AV) (τ : St) : cellsAt (.cells b :: τ) 0 = some b := by simp [cellsAt]
theorem M_atS (b : ABlk) (τ : St) (k : Nat) : cellsAt (b :: τ) (k + 1) = cellsAt τ k := by simp [cellsAt]
theorem M_base (σ τ : St) (k : Nat) : cellsAt (σ ++ τ) (σ.length + k) = cellsAt τ k := by simp only [cellsAt, st_get]
theorem M_base0 (σ τ : St) : cellsAt (σ ++ τ) σ.length = cellsAt τ 0 := M_base σ τ 0
theorem M_sh1 (cs : List AV) (off : Nat) : shaped none cs off = cs[off]? := by simp [shaped]
theorem M_shN (n : Nat) (cs : List AV) (off : Nat) : shaped (some n) cs off = if off + n ≤ cs.length then some (.agg ((cs.drop off).take n)) else none := by simp [shaped]
theorem M_store (n : Nat) (σ : St) (id off : Nat) (v : AV) : storeAV n σ (.ptr id off) v = (vCells n v).bind fun us => (cellsAt σ id).bind fun cs => (setCells cs off us).map fun cs' => σ.set id (.cells cs') := by
 simp only [storeAV, vCells]
 split
 ·simp only [Option.bind_some]
  cases cellsAt σ id with
  | none => simp
  | some cs => simp only [Option.bind_some]; cases setCells cs off v.cells <;> simp
 ·simp
theorem M_set (cs us : List AV) (off : Nat) : setCells cs off us = if off + us.length ≤ cs.length then some (cs.take off ++ us ++ cs.drop (off + us.length)) else none := by simp only [setCells]
def cellsOk (n : Nat) (v : AV) : Bool := v.cells.length == n && v.cells.all (·.cell)
theorem C_cells (n : Nat) (v : AV) : vCells n v = if cellsOk n v = true then some v.cells else none := by unfold vCells cellsOk; rfl
theorem C_int (k : IntKind) (n : Int) : cellsOk 1 (.int k n) = true := by simp [cellsOk, AV.cells, AV.cell]
theorem C_bool (b : Bool) : cellsOk 1 (.bool b) = true := by simp [cellsOk, AV.cells, AV.cell]
theorem C_str (b : ByteArray) : cellsOk 1 (.str b) = true := by simp [cellsOk, AV.cells, AV.cell]
theorem C_lit (xs : List AV) (f : Bool) (t : Option Nat) : cellsOk 1 (.lit xs f t) = true := by simp [cellsOk, AV.cells, AV.cell]
theorem C_ref (a b c d : Nat) : cellsOk 1 (.ref a b c d) = true := by simp [cellsOk, AV.cells, AV.cell]
theorem C_ptr (a b : Nat) : cellsOk 1 (.ptr a b) = true := by simp [cellsOk, AV.cells, AV.cell]
theorem C_func (f : FuncId) (a b : List AV) : cellsOk 1 (.func f a b) = true := by simp [cellsOk, AV.cells, AV.cell]
theorem C_map (i : Nat) : cellsOk 1 (.map i) = true := by simp [cellsOk, AV.cells, AV.cell]
theorem C_nilPtr : cellsOk 1 .nilPtr = true := by simp [cellsOk, AV.cells, AV.cell]
theorem C_nilFunc : cellsOk 1 .nilFunc = true := by simp [cellsOk, AV.cells, AV.cell]
def allCell : List AV → Bool
 | [] => true
 | v :: vs => v.cell && allCell vs
theorem C_agg (n : Nat) (cs : List AV) : cellsOk n (.agg cs) = (cs.length == n && allCell cs) := by
 simp only [cellsOk, AV.cells]
 congr 1
 induction cs with
 | nil => rfl
 | cons c cs ih => simp only [List.all_cons, allCell, ih]
theorem C_0 : allCell [] = true := by simp only [allCell]
theorem C1_int (k : IntKind) (n : Int) (cs : List AV) : allCell (.int k n :: cs) = allCell cs := by simp [allCell, AV.cell]
theorem C1_bool (b : Bool) (cs : List AV) : allCell (.bool b :: cs) = allCell cs := by simp [allCell, AV.cell]
theorem C1_str (b : ByteArray) (cs : List AV) : allCell (.str b :: cs) = allCell cs := by simp [allCell, AV.cell]
theorem C1_lit (xs : List AV) (f : Bool) (t : Option Nat) (cs : List AV) : allCell (.lit xs f t :: cs) = allCell cs := by simp [allCell, AV.cell]
theorem C1_ref (a b c d : Nat) (cs : List AV) : allCell (.ref a b c d :: cs) = allCell cs := by simp [allCell, AV.cell]
theorem C1_ptr (a b : Nat) (cs : List AV) : allCell (.ptr a b :: cs) = allCell cs := by simp [allCell, AV.cell]
theorem C1_func (f : FuncId) (a b : List AV) (cs : List AV) : allCell (.func f a b :: cs) = allCell cs := by simp [allCell, AV.cell]
theorem C1_map (i : Nat) (cs : List AV) : allCell (.map i :: cs) = allCell cs := by simp [allCell, AV.cell]
theorem C1_nilPtr  (cs : List AV) : allCell (.nilPtr :: cs) = allCell cs := by simp [allCell, AV.cell]
theorem C1_nilFunc  (cs : List AV) : allCell (.nilFunc :: cs) = allCell cs := by simp [allCell, AV.cell]
theorem C_mapc {α : Type} (enc : α → AV) (l : List α) (h : ∀ x, (enc x).cell = true) : allCell (l.map enc) = true := by
 induction l with
 | nil => rfl
 | cons x l ih => simp [allCell, h, ih]
theorem K_int (k : IntKind) (n : Int) : (AV.int k n).cells = [.int k n] := by simp [AV.cells]
theorem K_bool (b : Bool) : (AV.bool b).cells = [.bool b] := by simp [AV.cells]
theorem K_str (b : ByteArray) : (AV.str b).cells = [.str b] := by simp [AV.cells]
theorem K_lit (xs : List AV) (f : Bool) (t : Option Nat) : (AV.lit xs f t).cells = [.lit xs f t] := by simp [AV.cells]
theorem K_ref (a b c d : Nat) : (AV.ref a b c d).cells = [.ref a b c d] := by simp [AV.cells]
theorem K_ptr (a b : Nat) : (AV.ptr a b).cells = [.ptr a b] := by simp [AV.cells]
theorem K_func (f : FuncId) (a b : List AV) : (AV.func f a b).cells = [.func f a b] := by simp [AV.cells]
theorem K_map (i : Nat) : (AV.map i).cells = [.map i] := by simp [AV.cells]
theorem K_agg (cs : List AV) : (AV.agg cs).cells = cs := by simp [AV.cells]
theorem K_nilPtr : AV.nilPtr.cells = [.nilPtr] := by simp [AV.cells]
theorem K_nilFunc : AV.nilFunc.cells = [.nilFunc] := by simp [AV.cells]
theorem M_bc0 (e : Env) (cs : List AV) : buildCells e cs [] = some cs := by simp only [buildCells]
theorem M_bc1 (e : Env) (cs : List AV) (off n : Nat) (x : AOpd) (rest : List (Nat × Nat × AOpd)) :
  buildCells e cs ((off, n, x) :: rest) = ((vCells n (x.ev e)).bind fun us => setCells cs off us).bind fun cs => buildCells e cs rest := q_bcI e cs off n x rest
theorem L_all0 (n : Nat) : allCells n [] = true := by simp [allCells]
theorem L_all1 (n : Nat) (x : AV) (xs : List AV) : allCells n (x :: xs) = (cellsOk n x && allCells n xs) := by simp [allCells, cellsOk]
theorem L_allM {α : Type} (n : Nat) (enc : α → AV) (l : List α) (h : ∀ x, cellsOk n (enc x) = true) : allCells n (l.map enc) = true := by
 induction l with
 | nil => exact L_all0 n
 | cons x l ih => rw [List.map_cons, L_all1, h, ih]; rfl
theorem L_lit (n : Nat) (xs : List AV) : vLit n xs = if allCells n xs = true then some (.lit xs true none) else none := by simp only [vLit]
def vIdx (sz : Nat) (xs : List AV) (j : Int) (t : Option Nat) : Option AV := (xs[j.toNat]?).bind fun y => if 0 ≤ j ∧ y.cells.length = sz then some (.lptr xs j.toNat 0 t) else none
theorem V_iaL (sz : Nat) (xs : List AV) (f : Bool) (t : Option Nat) (k : IntKind) (j : Int) : vIaddr none sz (.lit xs f t) (.int k j) = vIdx sz xs j t := by
 simp only [vIaddr, intOf, vIdx]; cases xs[j.toNat]? <;> simp
theorem V_iaA (n sz id off : Nat) (k : IntKind) (j : Int) : vIaddr (some n) sz (.ptr id off) (.int k j) = if 0 ≤ j ∧ j < n then some (.ptr id (off + j.toNat * sz)) else none := by simp only [vIaddr, intOf]
theorem V_iaAL (n sz q off : Nat) (xs : List AV) (t : Option Nat) (k : IntKind) (j : Int) : vIaddr (some n) sz (.lptr xs q off t) (.int k j) = if 0 ≤ j ∧ j < n then some (.lptr xs q (off + j.toNat * sz) t) else none := by simp only [vIaddr, intOf]
theorem V_iaR (sz id off len sz' : Nat) (k : IntKind) (j : Int) : vIaddr none sz (.ref id off len sz') (.int k j) = if 0 ≤ j ∧ j < len ∧ sz' = sz then some (.ptr id (off + j.toNat * sz)) else none := by simp only [vIaddr, intOf]
def AppOk (sz b : Nat) (xs ys : List AV) : Prop := allCells sz xs = true ∧ allCells sz ys = true ∧ (xs.length + ys.length) * b ≤ room ∧ xs.length + ys.length ≤ room
theorem app_tok {sz b : Nat} {σ : St} {xs ys : List AV} {t : Nat} {tk : Option Nat} {f ex : Bool} (h : AppOk sz b xs ys) (h0 : ys.length ≠ 0) (ht : σ[t]? = some (.tok sz xs.length ex)) :
  appendAV sz b σ (.lit xs false (some t)) (.lit ys f tk) = some (.lit (xs ++ ys) false (some t), σ.set t (.tok sz (xs.length + ys.length) true)) := by
 obtain ⟨h1, h2, h3, h4⟩ := h
 simp [appendAV, view, sized, h0, h1, h2, h3, h4, ht]
def snapM (σ : St) (m d : Nat) (v : AV) : Option AV := (snap σ m d v).map clr
def snapMs (σ : St) (m d : Nat) (vs : List AV) : Option (List AV) := (snaps σ m d vs).map clrs
theorem S_int (σ : St) (m d : Nat) (k : IntKind) (n : Int) : snapM σ m d (.int k n) = some (.int k n) := by simp [snapM, snap, clr]
theorem S_bool (σ : St) (m d : Nat) (b : Bool) : snapM σ m d (.bool b) = some (.bool b) := by simp [snapM, snap, clr]
theorem S_str (σ : St) (m d : Nat) (b : ByteArray) : snapM σ m d (.str b) = some (.str b) := by simp [snapM, snap, clr]
theorem S_nilPtr (σ : St) (m d : Nat) : snapM σ m d .nilPtr = some .nilPtr := by simp [snapM, snap, clr]
theorem S_nilFunc (σ : St) (m d : Nat) : snapM σ m d .nilFunc = some .nilFunc := by simp [snapM, snap, clr]
theorem S_ptr (σ : St) (m d id off : Nat) : snapM σ m d (.ptr id off) = if id < m then some (.ptr id off) else none := by
 simp only [snapM, snap]; split <;> simp [clr]
theorem S_map (σ : St) (m d id : Nat) : snapM σ m d (.map id) = if id < m then some (.map id) else none := by
 simp only [snapM, snap]; split <;> simp [clr]
theorem S_nil (σ : St) (m d : Nat) : snapMs σ m d [] = some [] := by simp [snapMs, snaps, clrs]
theorem S_cons (σ : St) (m d : Nat) (v : AV) (vs : List AV) : snapMs σ m d (v :: vs) = (snapM σ m d v).bind fun a => (snapMs σ m d vs).map (a :: ·) := by
 simp only [snapMs, snapM, snaps]; cases snap σ m d v <;> cases snaps σ m d vs <;> simp [clrs]
theorem S_tuple (σ : St) (m d : Nat) (vs : List AV) : snapM σ m d (.tuple vs) = (snapMs σ m d vs).map .tuple := by
 simp only [snapMs, snapM, snap]; cases snaps σ m d vs <;> simp [clr]
theorem S_agg (σ : St) (m d : Nat) (vs : List AV) : snapM σ m d (.agg vs) = (snapMs σ m d vs).map .agg := by
 simp only [snapMs, snapM, snap]; cases snaps σ m d vs <;> simp [clr]
theorem S_lit0 (σ : St) (m d : Nat) (vs : List AV) (f : Bool) : snapM σ m d (.lit vs f none) = (snapMs σ m d vs).map fun ys => .lit ys false none := by
 simp only [snapMs, snapM, snap]; cases snaps σ m d vs <;> simp [clr]
theorem S_lit1 (σ : St) (m d t : Nat) (vs : List AV) (f : Bool) : snapM σ m d (.lit vs f (some t)) = (snapMs σ m d vs).map fun ys => if t < m then .lit ys f (some t) else .lit ys false none := by
 simp only [snapMs, snapM, snap]; cases snaps σ m d vs <;> by_cases h : t < m <;> simp [clr, h, Option.filter]
theorem S_func (σ : St) (m d : Nat) (f : FuncId) (a b : List AV) : snapM σ m d (.func f a b) = (snapMs σ m d a).bind fun x => (snapMs σ m d b).map fun y => .func f x y := by
 simp only [snapMs, snapM, snap]; cases snaps σ m d a <;> cases snaps σ m d b <;> simp [clr]
theorem S_ref (σ : St) (m d id off len sz : Nat) : snapM σ m (d + 1) (.ref id off len sz) =
  if id < m then some (.ref id off len sz) else (view σ (.ref id off len sz)).bind fun xs => if (decide (0 < sz) && allCells sz xs) = true then (snapMs σ m d xs).map fun ys => .lit ys false none else none := by
 simp only [snapM, snap]
 split
 ·simp [clr]
 ·cases view σ (.ref id off len sz) with
  | none => simp
  | some xs =>
   simp only [Option.bind_some]
   split
   ·simp only [snapMs]; cases snaps σ m d xs <;> simp [clr]
   ·simp
def Data (v : AV) : Prop := okV 0 v ∧ clr v = v
def Datas (vs : List AV) : Prop := okVs 0 vs ∧ clrs vs = vs
mutual
theorem snap_ok0 (σ : St) (m d : Nat) : ∀ (v : AV), okV 0 v → snap σ m d v = some v
 | .func f first cap, h => by simp only [okV] at h; simp only [snap, snaps_ok0 σ m d first h.1, snaps_ok0 σ m d cap h.2]
 | .yield _, h | .ptr _ _, h | .ref _ _ _ _, h | .map _, h => by simp [okV] at h
 | .lptr xs i o tk, h => by
  simp only [okV] at h
  cases tk with
  | none => simp [snap, snaps_ok0 σ m d xs h.2]
  | some t => exact absurd (h.1 t rfl) (by omega)
 | .lit xs f tk, h => by
  simp only [okV] at h
  cases tk with
  | none => simp [snap, snaps_ok0 σ m d xs h.2]
  | some t => exact absurd (h.1 t rfl) (by omega)
 | .agg cs, h => by simp only [okV] at h; simp [snap, snaps_ok0 σ m d cs h]
 | .tuple cs, h => by simp only [okV] at h; simp [snap, snaps_ok0 σ m d cs h]
 | .undef, _ | .int _ _, _ | .bool _, _ | .str _, _ | .nilFunc, _ | .nilPtr, _ | .nilMap, _ => by simp [snap]
theorem snaps_ok0 (σ : St) (m d : Nat) : ∀ (vs : List AV), okVs 0 vs → snaps σ m d vs = some vs
 | [], _ => by simp [snaps]
 | v :: vs, h => by simp only [okVs] at h; simp [snaps, snap_ok0 σ m d v h.1, snaps_ok0 σ m d vs h.2]
end
theorem S_data {v : AV} (h : Data v) (σ : St) (m d : Nat) : snapM σ m d v = some v := by simp [snapM, snap_ok0 σ m d v h.1, h.2]
theorem S_datas {vs : List AV} (h : Datas vs) (σ : St) (m d : Nat) : snapMs σ m d vs = some vs := by simp [snapMs, snaps_ok0 σ m d vs h.1, h.2]
theorem data_int (k : IntKind) (n : Int) : Data (.int k n) := ⟨trivial, rfl⟩
theorem data_bool (b : Bool) : Data (.bool b) := ⟨trivial, rfl⟩
theorem data_str (b : ByteArray) : Data (.str b) := ⟨trivial, rfl⟩
theorem datas_nil : Datas [] := ⟨trivial, rfl⟩
theorem datas_cons {v : AV} {vs : List AV} (h : Data v) (hs : Datas vs) : Datas (v :: vs) := ⟨⟨h.1, hs.1⟩, by simp [clrs, h.2, hs.2]⟩
theorem data_agg {vs : List AV} (h : Datas vs) : Data (.agg vs) := ⟨h.1, by simp [clr, h.2]⟩
theorem data_tuple {vs : List AV} (h : Datas vs) : Data (.tuple vs) := ⟨h.1, by simp [clr, h.2]⟩
theorem data_lit {vs : List AV} (h : Datas vs) : Data (.lit vs false none) := ⟨⟨(fun t e => by cases e), h.1⟩, by simp [clr, h.2]⟩
theorem datas_map {α : Type} {enc : α → AV} (h : ∀ x, Data (enc x)) (l : List α) : Datas (l.map enc) := by
 induction l with
 | nil => exact datas_nil
 | cons x l ih => exact datas_cons (h x) ih
theorem data_list {α : Type} {enc : α → AV} (h : ∀ x, Data (enc x)) (l : List α) : Data (.lit (l.map enc) false none) := data_lit (datas_map h l)
def RetR (o : Option AV) (σ : St) (v : AV) : Prop := ∃ v0, o = some v0 ∧ snapM σ 0 20 v0 = some v
@[congr] theorem RetR_congr {o o' : Option AV} {σ σ' : St} {v : AV} (h : o = o') (h2 : σ = σ') : RetR o σ v = RetR o' σ' v := by rw [h, h2]
theorem R_some (v0 : AV) (σ : St) (v : AV) : RetR (some v0) σ v = (snapM σ 0 20 v0 = some v) := by simp [RetR]
def RetK (rs : List ARes) (v : AV) : KJ := fun j e σ => (j = none ∨ j = some .ret) ∧ RetR (resOf rs e σ) σ v
theorem R_none (rs : List ARes) (v : AV) (e : Env) (σ : St) : RetK rs v none e σ = RetR (resOf rs e σ) σ v := by simp [RetK]
theorem R_ret (rs : List ARes) (v : AV) (e : Env) (σ : St) : RetK rs v (some .ret) e σ = RetR (resOf rs e σ) σ v := by simp [RetK]
theorem pure_fn {f : FuncId} {args : List AV} {v : AV} {af : AFunc} (hf : T f = some af) (hn : args.length ≤ af.ntmps) (hk : Datas args) (h : wp T af.body (argsEnv 0 args) [] (RetK af.results v)) : Pure T f args v := by
 intro σ
 refine .frame hk.1 (.inl rfl) (R := fun o => o.v = v ∧ o.σ = []) (.call hf hn (run_wp h fun o ho => ho) fun o ho => ?_) fun o ho => ⟨ho.2, ho.1, rfl⟩
 obtain ⟨h1, v0, h2, h3⟩ := ho
 refine ⟨h1, v0, h2, ?_⟩
 unfold snapM at h3
 cases hs : snap o.σ 0 20 v0 with
 | none => rw [hs] at h3; cases h3
 | some v1 =>
  rw [hs] at h3
  simp at h3
  exact .inr ⟨20, v1, v, hs, .inr h3.symm, fun i hi => absurd hi (by simp), by simp, rfl, by simp⟩
theorem call_fn {f : FuncId} {args args0 : List AV} {v : AV} (h : Pure T f args0 v) (ha : clrs args = args0) (hk : okVs 0 args) (σ : St) : Run T (.call f args σ) fun o => o.v = v ∧ o.σ = σ :=
 .frame hk (.inr ha.symm) (h []) fun o ho => ⟨ho.2, ho.1, rfl⟩
theorem callK_fn {f : FuncId} {first cap args args0 : List AV} {v : AV} {σ : St} {K : AV → St → Prop} (h : Pure T f args0 v) (ha : clrs (first ++ args ++ cap) = args0) (hk : okVs 0 (first ++ args ++ cap)) (k : K v σ) : cK (K := ⟨K⟩) T (.func f first cap) args σ :=
 .callf (.mono (call_fn h ha hk σ) fun o ho => by rw [ho.1, ho.2]; exact k)
theorem callD_fn {f : FuncId} {first cap args args0 : List AV} {v : AV} {σ : St} {K : AV → St → Prop} (h : Pure T f args0 v) (ha : clrs (first ++ args ++ cap) = args0) (hk : okVs 0 (first ++ args ++ cap)) (k : K v σ) : cD (K := ⟨K⟩) T (.func f first cap) args σ :=
 ⟨v, σ, .callf (call_fn h ha hk σ), k⟩
theorem callK_d {f : FuncId} {args args0 : List AV} {v : AV} {σ : St} {K : AV → St → Prop} (h : Pure T f args0 v) (ha : args = args0) (hk : Datas args0) (k : K v σ) : cK (K := ⟨K⟩) T (.func f [] []) args σ := by
 subst ha; exact callK_fn h (by simpa using hk.2) (by simpa using hk.1) k
theorem callD_d {f : FuncId} {args args0 : List AV} {v : AV} {σ : St} {K : AV → St → Prop} (h : Pure T f args0 v) (ha : args = args0) (hk : Datas args0) (k : K v σ) : cD (K := ⟨K⟩) T (.func f [] []) args σ := by
 subst ha; exact callD_fn h (by simpa using hk.2) (by simpa using hk.1) k
theorem call_fnS {f : FuncId} {args args0 : List AV} {v : AV} {σ : St} (h : Pure T f args0 v) (ha : snapMs σ 0 20 args = some args0) (hv : Scal v) : Run T (.call f args σ) fun o => o.v = v ∧ o.σ = σ := by
 unfold snapMs at ha
 cases hs : snaps σ 0 20 args with
 | none => rw [hs] at ha; cases ha
 | some as1 =>
  rw [hs] at ha
  simp at ha
  exact .frameS hs (.inr ha.symm) (h []) fun o ho => ⟨ho.2, by rw [ho.1]; exact hv, ho.1, rfl⟩
theorem callK_s {f : FuncId} {first cap args args0 : List AV} {v : AV} {σ : St} {K : AV → St → Prop} (h : Pure T f args0 v) (ha : snapMs σ 0 20 (first ++ args ++ cap) = some args0) (hv : Scal v) (k : K v σ) : cK (K := ⟨K⟩) T (.func f first cap) args σ :=
 .callf (.mono (call_fnS h ha hv) fun o ho => by rw [ho.1, ho.2]; exact k)
theorem callD_s {f : FuncId} {first cap args args0 : List AV} {v : AV} {σ : St} {K : AV → St → Prop} (h : Pure T f args0 v) (ha : snapMs σ 0 20 (first ++ args ++ cap) = some args0) (hv : Scal v) (k : K v σ) : cD (K := ⟨K⟩) T (.func f first cap) args σ :=
 ⟨v, σ, .callf (call_fnS h ha hv), k⟩
def InK (rs : List ARes) (K : AV → St → Prop) : KJ := fun j e σ => (j = none ∨ j = some .ret) ∧ ∃ v, resOf rs e σ = some v ∧ K v σ
def InR (o : Option AV) (σ : St) (K : AV → St → Prop) : Prop := ∃ v, o = some v ∧ K v σ
@[congr] theorem InR_congr {o o' : Option AV} {σ σ' : St} {K : AV → St → Prop} (h : o = o') (h2 : σ = σ') : InR o σ K = InR o' σ' K := by rw [h, h2]
theorem I_some (v : AV) (σ : St) (K : AV → St → Prop) : InR (some v) σ K = K v σ := by simp [InR]
theorem I_none (rs : List ARes) (K : AV → St → Prop) (e : Env) (σ : St) : InK rs K none e σ = InR (resOf rs e σ) σ K := by simp [InK, InR]
theorem I_ret (rs : List ARes) (K : AV → St → Prop) (e : Env) (σ : St) : InK rs K (some .ret) e σ = InR (resOf rs e σ) σ K := by simp [InK, InR]
theorem callK_in {f : FuncId} {first cap args : List AV} {af : AFunc} {σ : St} {K : AV → St → Prop} (hf : T f = some af) (hn : (first ++ args ++ cap).length ≤ af.ntmps) (h : wp T af.body (argsEnv 0 (first ++ args ++ cap)) σ (InK af.results K)) :
  cK (K := ⟨K⟩) T (.func f first cap) args σ :=
 .callf (.call hf hn (run_wp h fun o ho => ho) fun o ho => ⟨ho.1, ho.2.choose, ho.2.choose_spec.1, .inl ho.2.choose_spec.2⟩)
def EqE (σ : St) (m : Nat) (e : Env) : Env → Prop
 | [] => True
 | (t, v) :: e' => snapM σ m 20 (Env.get e t) = some v ∧ EqE σ m e e'
theorem T_e0 (σ : St) (m : Nat) (e : Env) : EqE σ m e [] = True := by simp only [EqE]
theorem T_e1 (σ : St) (m : Nat) (e : Env) (t : Nat) (v : AV) (e' : Env) : EqE σ m e ((t, v) :: e') = (snapM σ m 20 (Env.get e t) = some v ∧ EqE σ m e e') := by simp only [EqE]
theorem thinE_of {σ : St} {m : Nat} {e : Env} : ∀ {e' : Env}, EqE σ m e e' → ThinE σ m e e'
 | [], _ => trivial
 | (t, v) :: e', h => by
  refine ⟨.inr ?_, thinE_of h.2⟩
  have h1 := h.1
  unfold snapM at h1
  cases hs : snap σ m 20 (Env.get e t) with
  | none => rw [hs] at h1; cases h1
  | some v1 => rw [hs] at h1; simp at h1; exact ⟨20, v1, hs, .inr h1.symm⟩
def EqS (m : Nat) : St → St → St → Prop
 | _, _, [] => True
 | s :: ss, b :: bs, c :: cs => (c = b ∧ (b = s ∨ okBlk m b)) ∧ EqS m ss bs cs
 | [], b :: bs, c :: cs => (c = b ∧ okBlk m b) ∧ EqS m [] bs cs
 | _, [], _ :: _ => False
theorem T_s0 (m : Nat) (a b : St) : EqS m a b [] = True := by cases a <;> cases b <;> simp only [EqS]
theorem T_s1 (m : Nat) (s b c : ABlk) (ss bs cs : St) : EqS m (s :: ss) (b :: bs) (c :: cs) = ((c = b ∧ (b = s ∨ okBlk m b)) ∧ EqS m ss bs cs) := by simp only [EqS]
theorem T_s2 (m : Nat) (b c : ABlk) (bs cs : St) : EqS m [] (b :: bs) (c :: cs) = ((c = b ∧ okBlk m b) ∧ EqS m [] bs cs) := by simp only [EqS]
theorem eqS_spec {m : Nat} : ∀ {σ σ' σ'' : St}, EqS m σ σ' σ'' → ∀ i c, σ''[i]? = some c → σ'[i]? = some c ∧ ((i < σ.length ∧ σ'[i]? = σ[i]?) ∨ okBlk m c)
 | _, _, [], _, i, c, h => by simp at h
 | s :: ss, b :: bs, x :: cs, h, i, c, hc => by
  obtain ⟨⟨h1, h2⟩, h3⟩ := h
  cases i with
  | zero =>
   simp at hc
   subst hc
   subst h1
   refine ⟨rfl, ?_⟩
   rcases h2 with h2 | h2
   ·left; simp [h2]
   ·right; exact h2
  | succ i =>
   obtain ⟨q1, q2⟩ := eqS_spec h3 i c (by simpa using hc)
   refine ⟨by simpa using q1, ?_⟩
   rcases q2 with ⟨q2, q3⟩ | q2
   ·left; exact ⟨by simp; omega, by simpa using q3⟩
   ·right; exact q2
 | [], b :: bs, x :: cs, h, i, c, hc => by
  obtain ⟨⟨h1, h2⟩, h3⟩ := h
  cases i with
  | zero =>
   simp at hc
   subst hc
   subst h1
   exact ⟨rfl, .inr h2⟩
  | succ i =>
   obtain ⟨q1, q2⟩ := eqS_spec h3 i c (by simpa using hc)
   refine ⟨by simpa using q1, ?_⟩
   rcases q2 with ⟨q2, q3⟩ | q2
   ·simp at q2
   ·right; exact q2
def TrimX (σ : St) (e' : Env) (σ' : St) (e'' : Env) (σ'' : St) : Prop := σ.length ≤ σ''.length ∧ σ''.length ≤ σ'.length ∧ EqE σ' σ''.length e' e'' ∧ EqS σ''.length σ σ' σ''
@[congr] theorem TrimX_congr {σ σ1 : St} {e' e1 : Env} {σ' σ1' : St} {e'' : Env} {σ'' : St} (h1 : σ = σ1) (h2 : e' = e1) (h3 : σ' = σ1') : TrimX σ e' σ' e'' σ'' = TrimX σ1 e1 σ1' e'' σ'' := by rw [h1, h2, h3]
theorem trims_of {σ : St} {e' : Env} {σ' : St} {e'' : Env} {σ'' : St} (h : TrimX σ e' σ' e'' σ'') : Trims2 σ e' σ' e'' σ'' := by
 obtain ⟨h1, h2, h3, h4⟩ := h
 refine ⟨h1, h2, thinE_of h3, fun i hi => ?_⟩
 obtain ⟨c, hc⟩ : ∃ c, σ''[i]? = some c := ⟨_, List.getElem?_eq_getElem hi⟩
 obtain ⟨q1, q2⟩ := eqS_spec h4 i c hc
 refine ⟨c, hc, ?_⟩
 rcases q2 with ⟨q2, q3⟩ | q2
 ·left; exact ⟨q2, .inl q3, q1⟩
 ·right; left; exact ⟨q1, q2⟩
def BackK {S : Type} (P : S → Prop) (μ : S → Nat) (IE : S → Env) (IS : S → St) (s : S) (K : KJ) : KJ := fun j e σ =>
 match j with
 | none => ∃ s', P s' ∧ μ s' < μ s ∧ TrimX (IS s) e σ (IE s') (IS s')
 | some j => K (some j) e σ
theorem T_back {S : Type} (P : S → Prop) (μ : S → Nat) (IE : S → Env) (IS : S → St) (s : S) (K : KJ) (e : Env) (σ : St) : BackK P μ IE IS s K none e σ = ∃ s', P s' ∧ μ s' < μ s ∧ TrimX (IS s) e σ (IE s') (IS s') := by simp only [BackK]
theorem T_out {S : Type} (P : S → Prop) (μ : S → Nat) (IE : S → Env) (IS : S → St) (s : S) (K : KJ) (j : AJump) (e : Env) (σ : St) : BackK P μ IE IS s K (some j) e σ = K (some j) e σ := by simp only [BackK]
def EqW (e : Env) : Env → Prop
 | [] => True
 | (t, v) :: e' => (Env.get e t = v ∨ clr (Env.get e t) = v) ∧ EqW e e'
theorem T_w0 (e : Env) : EqW e [] = True := by simp only [EqW]
theorem T_w1 (e : Env) (t : Nat) (v : AV) (e' : Env) : EqW e ((t, v) :: e') = ((Env.get e t = v ∨ clr (Env.get e t) = v) ∧ EqW e e') := by simp only [EqW]
theorem eqW_spec {e : Env} : ∀ {e' : Env}, EqW e e' → ∀ t, Env.get e' t = .undef ∨ Env.get e' t = Env.get e t ∨ Env.get e' t = clr (Env.get e t)
 | [], _, t => .inl rfl
 | (k, v) :: e', h, t => by
  by_cases hk : k = t
  ·subst hk
   right
   rcases h.1 with h | h
   ·left; simp [Env.get, h]
   ·right; simp [Env.get, h]
  ·simpa [Env.get, hk] using eqW_spec h.2 t
theorem loopX {S : Type} (P : S → Prop) (μ : S → Nat) (IE : S → Env) (IS : S → St) {b : ACode} {K : KJ} (step : ∀ s, P s → wp T b (IE s) (IS s) (BackK P μ IE IS s K)) : ∀ n s, μ s = n → P s → RunK T (.loop b) (IE s) (IS s) K := by
 intro n
 induction n using Nat.strongRecOn with
 | _ n ih =>
  intro s hs hp
  have h1 : Run T (.code b (IE s) (IS s)) fun o => (o.j = none ∧ ∃ s', P s' ∧ μ s' < μ s ∧ o.env = IE s' ∧ o.σ = IS s') ∨ (o.j ≠ none ∧ K o.j o.env o.σ) := by
   refine .trim2 (run_wp (step s hp) fun o ho => ho) fun o ho => ?_
   cases hj : o.j with
   | none =>
    rw [hj, T_back] at ho
    obtain ⟨s', h1, h2, h3⟩ := ho
    exact .inr ⟨_, _, trims_of h3, .inl ⟨rfl, s', h1, h2, rfl, rfl⟩⟩
   | some j =>
    rw [hj, T_out] at ho
    exact .inl (.inr ⟨by simp, ho⟩)
  refine .loop h1 (fun o ho hj => ?_) fun o ho hj => ?_
  ·rcases ho with ⟨_, s', q1, q2, q3, q4⟩ | ⟨q1, _⟩
   ·rw [q3, q4]; exact ih _ (by omega) s' rfl q1
   ·exact absurd hj q1
  ·rcases ho with ⟨q, _⟩ | ⟨_, q⟩
   ·exact absurd q hj
   ·exact q
theorem loopE {S : Type} (s0 : S) (P : S → Prop) (μ : S → Nat) (IE : S → Env) (IS : S → St) {b : ACode} {e : Env} {σ : St} {K : KJ} (hP : P s0) (hσ : σ = IS s0) (hE : EqW e (IE s0))
  (step : ∀ s, P s → wp T b (IE s) (IS s) (BackK P μ IE IS s K)) : rK (K := ⟨K⟩) T (.loop b) e σ := by
 subst hσ
 exact .weak (eqW_spec hE) (loopX P μ IE IS step _ s0 rfl hP)
theorem ghostK {c : ACode} {e : Env} {σ : St} {K : KJ} (t sz : Nat) (xs : List AV) (ht : Env.get e t = .lit xs true none) (h : rK (K := ⟨K⟩) T c ((t, .lit xs false (some σ.length)) :: e) (σ ++ [.tok sz xs.length false])) : rK (K := ⟨K⟩) T c e σ :=
 .ghost t sz xs ht h
end Go.Am
namespace Go.Am
variable {T : FuncId → Option AFunc}
def resA (e : Env) (σ : St) : ARes → Option AV
 | .tmp t => some (Env.get e t)
 | .cell t sh => loadAV sh σ (Env.get e t)
def resAs (e : Env) (σ : St) : List ARes → Option (List AV)
 | [] => some []
 | r :: rs => (resA e σ r).bind fun v => (resAs e σ rs).map (v :: ·)
theorem resAV_eq (e : Env) (σ : St) : ∀ rs, resAV e σ rs = resAs e σ rs
 | [] => rfl
 | .tmp t :: rs => by simp [resAV, resAs, resA, resAV_eq e σ rs]
 | .cell t sh :: rs => by
  simp only [resAV, resAs, resA, resAV_eq e σ rs]
  cases loadAV sh σ (Env.get e t) <;> cases resAs e σ rs <;> simp
theorem X_res0 (e : Env) (σ : St) : resOf [] e σ = some (.tuple []) := by simp [resOf, resAV]
theorem X_res1 (r : ARes) (e : Env) (σ : St) : resOf [r] e σ = resA e σ r := by
 simp only [resOf, resAV_eq, resAs]; cases resA e σ r <;> simp
theorem X_res2 (r s : ARes) (rs : List ARes) (e : Env) (σ : St) : resOf (r :: s :: rs) e σ = (resAs e σ (r :: s :: rs)).map .tuple := by
 simp only [resOf, resAV_eq, resAs]; cases resA e σ r <;> cases resA e σ s <;> cases resAs e σ rs <;> simp
theorem X_ra0 (e : Env) (σ : St) : resAs e σ [] = some [] := by simp only [resAs]
theorem X_ra1 (r : ARes) (rs : List ARes) (e : Env) (σ : St) : resAs e σ (r :: rs) = (resA e σ r).bind fun v => (resAs e σ rs).map (v :: ·) := by simp only [resAs]
theorem X_rt (t : Nat) (e : Env) (σ : St) : resA e σ (.tmp t) = some (Env.get e t) := by simp only [resA]
theorem X_rc (t : Nat) (sh : Option Nat) (e : Env) (σ : St) : resA e σ (.cell t sh) = loadAV sh σ (Env.get e t) := by simp only [resA]
theorem X_bn (id : Nat) (K : KJ) (e : Env) (σ : St) : blockK id K none e σ = K none e σ := by simp only [blockK]
theorem X_br (id : Nat) (K : KJ) (e : Env) (σ : St) : blockK id K (some .ret) e σ = K (some .ret) e σ := by simp only [blockK]
theorem X_be1 (id : Nat) (K : KJ) (e : Env) (σ : St) : blockK id K (some (.exit id)) e σ = K none e σ := by simp [blockK]
theorem X_be2 (id i : Nat) (K : KJ) (e : Env) (σ : St) (h : i ≠ id) : blockK id K (some (.exit i)) e σ = K (some (.exit i)) e σ := by simp [blockK, h]
theorem V_idxN {α : Type} {sz : Nat} {enc : α → AV} {l : List α} {k : Nat} {t : Option Nat} (h : k < l.length) (hs : ∀ x, (enc x).cells.length = sz) : vIdx sz (l.map enc) (k : Int) t = some (.lptr (l.map enc) k 0 t) := by
 simp [vIdx, List.getElem?_map, h, hs]
theorem V_getN {α : Type} {enc : α → AV} {l : List α} {k : Nat} (h : k < l.length) : (l.map enc)[k]? = some (enc l[k]) := by simp [List.getElem?_map, h]
theorem rd0 {ds : List ADOper} {e : Env} {σ : St} {K : KJ} (hz : allocsOf ds = []) (h : wpD T ds e σ σ.length [σ] [] fun e σ => K none e σ) : rK (K := ⟨K⟩) T (.dreg ds) e σ := by
 refine rK_dreg ?_
 rw [hz, List.append_nil]
 exact h
theorem rK_dreg1 {ds : List ADOper} {e : Env} {σ : St} {K : KJ} (zs : St) (hz : allocsOf ds = zs) (h : wpD T ds e (σ ++ zs) σ.length [σ ++ zs] [] fun e σ => K none e σ) : rK (K := ⟨K⟩) T (.dreg ds) e σ := by
 subst hz
 exact rK_dreg h
theorem wrapN {k n : Nat} (h : k < n) (hn : n < 9223372036854775808) : IntKind.i64.wrap ((k : Int) + 1) = ((k + 1 : Nat) : Int) := by rw [wrap64 ⟨by omega, by omega⟩]; omega
def ints (l : List Int) : AV := .lit (l.map (.int .i64)) false none
theorem data_ints (l : List Int) : Data (ints l) := data_list (data_int .i64) l
theorem S_mapI (σ : St) (m d : Nat) (k : IntKind) (l : List Int) : snapMs σ m d (l.map (.int k)) = some (l.map (.int k)) := S_datas (datas_map (data_int k) l) σ m d
theorem S_mapS (σ : St) (m d : Nat) (l : List ByteArray) : snapMs σ m d (l.map .str) = some (l.map .str) := S_datas (datas_map data_str l) σ m d
theorem S_app (σ : St) (m d : Nat) : ∀ xs ys : List AV, snapMs σ m d (xs ++ ys) = (snapMs σ m d xs).bind fun a => (snapMs σ m d ys).map (a ++ ·)
 | [], ys => by rw [S_nil]; simp
 | x :: xs, ys => by
  rw [List.cons_append, S_cons, S_cons, S_app σ m d xs ys]
  cases snapM σ m d x <;> simp
  cases snapMs σ m d xs <;> simp
  cases snapMs σ m d ys <;> simp
def intss (l : List (List Int)) : AV := .lit (l.map ints) false none
theorem data_intss (l : List (List Int)) : Data (intss l) := data_list data_ints l
theorem S_ints (σ : St) (m d : Nat) (l : List Int) : snapM σ m d (ints l) = some (ints l) := S_data (data_ints l) σ m d
theorem S_mapL (σ : St) (m d : Nat) (l : List (List Int)) : snapMs σ m d (l.map ints) = some (l.map ints) := S_datas (datas_map data_ints l) σ m d
theorem V_min2 (k : IntKind) (a b : Int) : minAV [.int k a, .int k b] = some (.int k (min a b)) := by
 simp only [minAV, minFrom, if_true, Option.some.injEq, AV.int.injEq, true_and]; split <;> omega
theorem V_max2 (k : IntKind) (a b : Int) : maxAV [.int k a, .int k b] = some (.int k (max a b)) := by
 simp only [maxAV, maxFrom, if_true, Option.some.injEq, AV.int.injEq, true_and]; split <;> omega
def byteAt (s : ByteArray) (k : Nat) : Int := (((s[k]?).getD 0).toNat : Int)
theorem byteAt_lt (s : ByteArray) (k : Nat) : 0 ≤ byteAt s k ∧ byteAt s k < 256 := by
 have := ((s[k]?).getD 0).toNat_lt
 unfold byteAt
 omega
theorem V_sidx {s : ByteArray} {k : Nat} (h : k < s.size) : vSindex (.str s) (.int .i64 (k : Int)) = some (.int .u8 (byteAt s k)) := by
 simp [vSindex, intOf, byteAt, h]
structure Span where
 lo : Int
 hi : Int
 deriving DecidableEq
def encSpan (s : Span) : AV := .agg [.int .i64 s.lo, .int .i64 s.hi]
theorem encSpan_eq (s : Span) : encSpan s = .agg [.int .i64 s.lo, .int .i64 s.hi] := by simp only [encSpan]
theorem data_span (s : Span) : Data (encSpan s) := data_agg (datas_cons (data_int _ _) (datas_cons (data_int _ _) datas_nil))
def strs (l : List ByteArray) : AV := .lit (l.map .str) false none
theorem data_strs (l : List ByteArray) : Data (strs l) := data_list data_str l
end Go.Am
namespace Go.Am
variable {T : FuncId → Option AFunc}
def Same (T : FuncId → Option AFunc) (f : AV) (args : List AV) (σ : St) (v : AV) : Prop := Run T (.callv f args σ) fun o => o.v = v ∧ o.σ = σ
def BaseR (o : Option AV) (σ0 σ : St) (v : AV) : Prop := ∃ v0 τ, o = some v0 ∧ σ = σ0 ++ τ ∧ snapM σ σ0.length 20 v0 = some v
@[congr] theorem BaseR_congr {o o' : Option AV} {σ0 σ σ' : St} {v : AV} (h : o = o') (h2 : σ = σ') : BaseR o σ0 σ v = BaseR o' σ0 σ' v := by rw [h, h2]
def BaseK (rs : List ARes) (σ0 : St) (v : AV) : KJ := fun j e σ => (j = none ∨ j = some .ret) ∧ BaseR (resOf rs e σ) σ0 σ v
theorem Y_none (rs : List ARes) (σ0 : St) (v : AV) (e : Env) (σ : St) : BaseK rs σ0 v none e σ = BaseR (resOf rs e σ) σ0 σ v := by simp [BaseK]
theorem Y_ret (rs : List ARes) (σ0 : St) (v : AV) (e : Env) (σ : St) : BaseK rs σ0 v (some .ret) e σ = BaseR (resOf rs e σ) σ0 σ v := by simp [BaseK]
theorem baseR {v0 : AV} {σ0 σ : St} {v : AV} (τ : St) (h1 : σ = σ0 ++ τ) (h2 : snapM σ σ0.length 20 v0 = some v) : BaseR (some v0) σ0 σ v := ⟨v0, τ, rfl, h1, h2⟩
theorem same_fn {f : FuncId} {first cap args : List AV} {σ : St} {af : AFunc} {v : AV} (hf : T f = some af) (hn : (first ++ args ++ cap).length ≤ af.ntmps) (h : wp T af.body (argsEnv 0 (first ++ args ++ cap)) σ (BaseK af.results σ v)) : Same T (.func f first cap) args σ v := by
 refine .callf (.call hf hn (run_wp h fun o ho => ho) fun o ho => ?_)
 obtain ⟨h1, v0, τ, h2, h3, h4⟩ := ho
 refine ⟨h1, v0, h2, ?_⟩
 unfold snapM at h4
 cases hs : snap o.σ σ.length 20 v0 with
 | none => rw [hs] at h4; cases h4
 | some v1 =>
  rw [hs] at h4
  simp at h4
  exact .inr ⟨20, v1, v, hs, .inr h4.symm, fun i hi => .inl (by rw [h3]; exact List.getElem?_append_left hi), by rw [h3]; simp, rfl, by rw [h3]; simp⟩
theorem callK_same {f : AV} {args : List AV} {v : AV} {σ : St} {K : AV → St → Prop} (h : Same T f args σ v) (k : K v σ) : cK (K := ⟨K⟩) T f args σ := .mono h fun o ho => by rw [ho.1, ho.2]; exact k
theorem callD_same {f : AV} {args : List AV} {v : AV} {σ : St} {K : AV → St → Prop} (h : Same T f args σ v) (k : K v σ) : cD (K := ⟨K⟩) T f args σ := ⟨v, σ, h, k⟩
def Keeps (σ : St) (v : AV) : Prop := ∀ τ, snapM (σ ++ τ) σ.length 20 v = some v
theorem Keeps.nil {σ : St} {v : AV} (h : Keeps σ v) : snapM σ σ.length 20 v = some v := by simpa using h []
theorem T_sr (m : Nat) : ∀ (σ τ : St), EqS m σ (σ ++ τ) σ = True
 | [], τ => by cases τ <;> simp [EqS]
 | b :: σ, τ => by simp [EqS, T_sr m σ τ]
theorem T_sr0 (m : Nat) (σ : St) : EqS m σ σ σ = True := by simpa using T_sr m σ []
theorem st_app (σ τ υ : St) : σ ++ τ ++ υ = σ ++ (τ ++ υ) := List.append_assoc _ _ _
theorem V_snextT {s : ByteArray} {k : Nat} (h : k < s.size) : vSnext [.siter s k] (.ptr 0 0) = some (.tuple [.bool true, .int .i64 k, .int .i32 (Utf8.decode s k).1], [.siter s (k + (Utf8.decode s k).2)]) := by
 simp [vSnext, h]
theorem V_snextF {s : ByteArray} {k : Nat} (h : ¬ k < s.size) : vSnext [.siter s k] (.ptr 0 0) = some (.tuple [.bool false], [.siter s k]) := by
 simp [vSnext, h]
theorem byteAt_ascii {s : ByteArray} {k : Nat} (h : k < s.size) (hb : byteAt s k < 128) : Utf8.decode s k = ((byteAt s k).toNat, 1) := by
 have e : byteAt s k = ((s[k]'h).toNat : Int) := by simp [byteAt, h]
 rw [decode_ascii s k h (by omega), e]
 simp
theorem byteAt_high {s : ByteArray} {k : Nat} (h : k < s.size) (hb : 128 ≤ byteAt s k) : 128 ≤ (Utf8.decode s k).1 := by
 have e : byteAt s k = ((s[k]'h).toNat : Int) := by simp [byteAt, h]
 exact (decode_high s k h (by omega)).1
theorem V_take {α : Type} {sz : Nat} {enc : α → AV} {l : List α} {i : Nat} {σ : St} {t : Option Nat} (hi : i ≤ l.length) (hs : ∀ x, (enc x).cells.length = sz) : vSlicev sz σ (.lit (l.map enc) false t) none (some (.int .i64 (i : Int))) none = some (.lit ((l.take i).map enc) false t) := by
 have hc : cutFits sz (l.map enc) 0 (i : Int) = true := by
  unfold cutFits
  by_cases h0 : i = 0
  ·subst h0; simp
  ·cases l with
   | nil => simp at hi; omega
   | cons x l => simp [hs]
 simp only [vSlicev, lenAV, vBound, Option.map_none, intOf, sliceAV]
 rw [if_pos ⟨by omega, by omega, by simp; omega, hc⟩]
 simp [List.map_take]
theorem callK_v {f : FuncId} {args args0 : List AV} {v : AV} {σ : St} {K : AV → St → Prop} (h : Pure T f args0 v) (ha : clrs args = args0) (hk : okVs 0 args) (k : K v σ) : cK (K := ⟨K⟩) T (.func f [] []) args σ :=
 callK_fn h (by simpa using ha) (by simpa using hk) k
theorem callD_v {f : FuncId} {args args0 : List AV} {v : AV} {σ : St} {K : AV → St → Prop} (h : Pure T f args0 v) (ha : clrs args = args0) (hk : okVs 0 args) (k : K v σ) : cD (K := ⟨K⟩) T (.func f [] []) args σ :=
 callD_fn h (by simpa using ha) (by simpa using hk) k
end Go.Am
namespace Go.Am
def QV := And.intro @V_str (And.intro @st_set (And.intro @st_set0 (And.intro @st_app (And.intro @V_sidx (And.intro @V_min2 (And.intro @V_max2 (And.intro @q_put (And.intro @q_put0 (And.intro @q_get (And.intro @q_evt (And.intro @q_evc (And.intro @q_arg (And.intro @q_arg0 (And.intro @W_bindB (And.intro @W_bindG1 (And.intro @W_bindG0 (And.intro @W_bindGT (And.intro @iteP_true (And.intro @iteP_false (And.intro @E_evs0 (And.intro @E_evs1 (And.intro @E_ovs0 (And.intro @E_ovs1 (And.intro @B_some (And.intro @O_map (And.intro @O_bind (And.intro @V_nilP (And.intro @V_nilL (And.intro @V_nilF (And.intro @V_field (And.intro @V_conv (And.intro @V_neg (And.intro @V_pickT (And.intro @V_pickF (And.intro @V_eqI (And.intro @V_eqB (And.intro @V_eqS (And.intro @V_oand (And.intro @V_eqC0 (And.intro @V_eqC1 (And.intro @V_eq1 (And.intro @V_ne1 (And.intro @V_eqA (And.intro @V_neA (And.intro @V_add (And.intro @V_sub (And.intro @V_mul (And.intro @V_lss (And.intro @V_leq (And.intro @V_gtr (And.intro @V_geq (And.intro @V_len (And.intro @V_lenS (And.intro @V_lenR (And.intro @q_faddrP (And.intro @q_faddrL (And.intro @q_extT (And.intro @q_notB (And.intro @M_ptr (And.intro @M_lptr (And.intro @M_at0 (And.intro @M_atS (And.intro @M_base (And.intro @M_base0 (And.intro @M_sh1 (And.intro @M_shN (And.intro @M_store (And.intro @M_set (And.intro @C_cells (And.intro @C_int (And.intro @C_bool (And.intro @C_str (And.intro @C_lit (And.intro @C_ref (And.intro @C_ptr (And.intro @C_func (And.intro @C_map (And.intro @C_nilPtr (And.intro @C_nilFunc (And.intro @C_agg (And.intro @C_0 (And.intro @C1_int (And.intro @C1_bool (And.intro @C1_str (And.intro @C1_lit (And.intro @C1_ref (And.intro @C1_ptr (And.intro @C1_func (And.intro @C1_map (And.intro @C1_nilPtr (And.intro @C1_nilFunc (And.intro @K_int (And.intro @K_bool (And.intro @K_str (And.intro @K_lit (And.intro @K_ref (And.intro @K_ptr (And.intro @K_func (And.intro @K_map (And.intro @K_agg (And.intro @K_nilPtr (And.intro @K_nilFunc (And.intro @M_bc0 (And.intro @M_bc1 (And.intro @L_all0 (And.intro @L_all1 (And.intro @L_lit (And.intro @V_iaL (And.intro @V_iaA (And.intro @V_iaAL (And.intro @V_iaR (And.intro @X_res0 (And.intro @X_res1 (And.intro @X_res2 (And.intro @X_ra0 (And.intro @X_ra1 (And.intro @X_rt (And.intro @X_rc (And.intro @R_some (And.intro @I_some (And.intro @A_mov (And.intro @A_pick (And.intro @A_alloc (And.intro @A_box (And.intro @A_build (And.intro @A_mklit (And.intro @A_mkref (And.intro @A_load (And.intro @A_store (And.intro @A_nilCheck (And.intro @A_bin (And.intro @A_eql (And.intro @A_not (And.intro @A_neg (And.intro @A_conv (And.intro @A_mkfun (And.intro @A_mkmap (And.intro @A_mkslice (And.intro @A_slicev (And.intro @A_slicea (And.intro @A_faddr (And.intro @A_field (And.intro @A_iaddr (And.intro @A_index (And.intro @A_sindex (And.intro @A_lookup (And.intro @A_mapset (And.intro @A_ext (And.intro @A_len (And.intro @A_append (And.intro @A_apref (And.intro @A_copy (And.intro @A_min (And.intro @A_max (And.intro @A_srange (@A_snext))))))))))))))))))))))))))))))))))))))))))))))))))))))))))))))))))))))))))))))))))))))))))))))))))))))))))))))))))))))))))))))))))))))))))))))))))))))))))))
def QP := And.intro @Y_none (And.intro @Y_ret (And.intro @q_reg (And.intro @q_seq (And.intro @q_jump (And.intro @q_then (And.intro @q_thenJ (And.intro @q_skip (And.intro @q_block (And.intro @q_scope (And.intro @q_nil (And.intro @X_bn (And.intro @X_br (And.intro @X_be1 (And.intro @X_be2 (And.intro @V_idxN (And.intro @V_getN (And.intro @W_call (And.intro @W_guard (And.intro @W_cond (And.intro @W_loop (And.intro @W_range (And.intro @D_reg (And.intro @R_none (And.intro @R_ret (And.intro @I_none (And.intro @I_ret (And.intro @T_back (And.intro @T_out (And.intro @W_mov (And.intro @W_pick (And.intro @W_alloc (And.intro @W_box (And.intro @W_build (And.intro @W_mklit (And.intro @W_mkref (And.intro @W_load (And.intro @W_store (And.intro @W_nilCheck (And.intro @W_bin (And.intro @W_eql (And.intro @W_not (And.intro @W_neg (And.intro @W_conv (And.intro @W_mkfun (And.intro @W_mkmap (And.intro @W_mkslice (And.intro @W_slicev (And.intro @W_slicea (And.intro @W_faddr (And.intro @W_field (And.intro @W_iaddr (And.intro @W_index (And.intro @W_sindex (And.intro @W_lookup (And.intro @W_mapset (And.intro @W_ext (And.intro @W_len (And.intro @W_append (And.intro @W_apref (And.intro @W_copy (And.intro @W_min (And.intro @W_max (And.intro @W_srange (@W_snext))))))))))))))))))))))))))))))))))))))))))))))))))))))))))))))))
def QD := And.intro @D_nil (And.intro @D_call (And.intro @D_alloc (And.intro @D_guardC (And.intro @D_mov (And.intro @D_pick (And.intro @D_box (And.intro @D_build (And.intro @D_mklit (And.intro @D_mkref (And.intro @D_load (And.intro @D_store (And.intro @D_nilCheck (And.intro @D_bin (And.intro @D_eql (And.intro @D_not (And.intro @D_neg (And.intro @D_conv (And.intro @D_mkfun (And.intro @D_mkmap (And.intro @D_mkslice (And.intro @D_slicev (And.intro @D_slicea (And.intro @D_faddr (And.intro @D_field (And.intro @D_iaddr (And.intro @D_index (And.intro @D_sindex (And.intro @D_lookup (And.intro @D_mapset (And.intro @D_ext (And.intro @D_len (And.intro @D_append (And.intro @D_apref (And.intro @D_copy (And.intro @D_min (And.intro @D_max (And.intro @D_srange (And.intro @D_snext (And.intro @G_mov (And.intro @G_pick (And.intro @G_box (And.intro @G_build (And.intro @G_mklit (And.intro @G_mkref (And.intro @G_load (And.intro @G_store (And.intro @G_nilCheck (And.intro @G_bin (And.intro @G_eql (And.intro @G_not (And.intro @G_neg (And.intro @G_conv (And.intro @G_mkfun (And.intro @G_mkmap (And.intro @G_mkslice (And.intro @G_slicev (And.intro @G_slicea (And.intro @G_faddr (And.intro @G_field (And.intro @G_iaddr (And.intro @G_index (And.intro @G_sindex (And.intro @G_lookup (And.intro @G_mapset (And.intro @G_ext (And.intro @G_len (And.intro @G_append (And.intro @G_apref (And.intro @G_copy (And.intro @G_min (And.intro @G_max (And.intro @G_srange (@G_snext)))))))))))))))))))))))))))))))))))))))))))))))))))))))))))))))))))))))))
def QS := And.intro @S_mapL (And.intro @S_ints (And.intro @S_app (And.intro @S_mapI (And.intro @S_mapS (And.intro @S_int (And.intro @S_bool (And.intro @S_str (And.intro @S_nilPtr (And.intro @S_nilFunc (And.intro @S_ptr (And.intro @S_map (And.intro @S_nil (And.intro @S_cons (And.intro @S_tuple (And.intro @S_agg (And.intro @S_lit0 (And.intro @S_lit1 (And.intro @S_func (And.intro @O_map (@O_bind))))))))))))))))))))
def QR := And.intro @D_readsN (And.intro @D_readsC (And.intro @D_readN (@D_readC)))
def QT := And.intro @T_sr (And.intro @T_sr0 (And.intro @T_e0 (And.intro @T_e1 (And.intro @T_s0 (And.intro @T_s1 (And.intro @T_s2 (And.intro @T_w0 (And.intro @T_w1 (@q_get)))))))))
variable {T : FuncId → Option AFunc}
mutual
theorem okV_up {m : Nat} : ∀ v, okV 0 v → okV m v
 | .func _ first cap, h => ⟨okVs_up first h.1, okVs_up cap h.2⟩
 | .lptr xs _ _ tk, h => ⟨fun t e => absurd (h.1 t e) (by omega), okVs_up xs h.2⟩
 | .lit xs _ tk, h => ⟨fun t e => absurd (h.1 t e) (by omega), okVs_up xs h.2⟩
 | .agg cs, h => okVs_up cs h
 | .tuple vs, h => okVs_up vs h
 | .yield _, h | .ptr _ _, h | .ref _ _ _ _, h | .map _, h => absurd h (by simp [okV])
 | .undef, _ | .int _ _, _ | .bool _, _ | .str _, _ | .nilFunc, _ | .nilPtr, _ | .nilMap, _ => trivial
theorem okVs_up {m : Nat} : ∀ vs, okVs 0 vs → okVs m vs
 | [], _ => trivial
 | v :: vs, h => ⟨okV_up v h.1, okVs_up vs h.2⟩
end
theorem S_refK {σ : St} {m d id off len sz : Nat} (h : id < m) : snapM σ m d (.ref id off len sz) = some (.ref id off len sz) := by
 cases d <;> simp [snapM, snap, h, clr]
end Go.Am
namespace Go.Am
theorem ints_def (l : List Int) : ints l = .lit (l.map (.int .i64)) false none := by simp only [ints]
theorem strs_def (l : List ByteArray) : strs l = .lit (l.map .str) false none := by simp only [strs]
def QC := And.intro @and_self (And.intro @and_true (And.intro @true_and (And.intro @true_or (And.intro @or_true (And.intro @ints_def (And.intro @strs_def (And.intro @decide_true (And.intro @decide_false (And.intro @Nat.lt_irrefl (And.intro @Nat.le_refl (And.intro @List.length_cons.{0} (And.intro @List.length_nil.{0} (And.intro @List.cons_append.{0} (And.intro @List.nil_append.{0} (And.intro @List.append_nil.{0} (And.intro @List.getElem?_cons_zero.{0} (And.intro @List.getElem?_cons_succ.{0} (And.intro @List.take_zero.{0} (And.intro @List.drop_zero.{0} (And.intro @List.take_succ_cons.{0} (And.intro @List.drop_succ_cons.{0} (And.intro @List.take_nil.{0} (And.intro @List.drop_nil.{0} (And.intro @List.set_cons_zero.{0} (And.intro @List.set_cons_succ.{0} (And.intro @List.length_map.{0, 0} (And.intro @Bool.and_true (And.intro @Bool.true_and (And.intro @Bool.and_self (And.intro @Bool.not_true (And.intro @Bool.not_false (And.intro @beq_self_eq_true.{0} (And.intro @Nat.zero_add (And.intro @implies_true.{0} (And.intro @implies_true.{1} (And.intro @forall_const.{0} (And.intro @forall_const.{1} (And.intro @ne_eq.{1} (And.intro @not_false_eq_true (@not_true_eq_false))))))))))))))))))))))))))))))))))))))))
def QA := And.intro QP QD
def QB := And.intro QR (And.intro QV (And.intro QS QC))
def QE := And.intro QT (And.intro QS (And.intro @q_get (And.intro @List.length_append.{0} (And.intro @Nat.le_add_right QC))))
class Dat (v : AV) : Prop where
 h : Data v
class Dats (vs : List AV) : Prop where
 h : Datas vs
theorem dd {vs : List AV} [k : Dats vs] : Datas vs := k.h
instance : Dats [] := ⟨datas_nil⟩
instance {v : AV} {vs : List AV} [a : Dat v] [b : Dats vs] : Dats (v :: vs) := ⟨datas_cons a.h b.h⟩
instance (k : IntKind) (n : Int) : Dat (.int k n) := ⟨data_int k n⟩
instance (b : Bool) : Dat (.bool b) := ⟨data_bool b⟩
instance (s : ByteArray) : Dat (.str s) := ⟨data_str s⟩
instance (l : List Int) : Dat (ints l) := ⟨data_ints l⟩
instance (l : List (List Int)) : Dat (intss l) := ⟨data_intss l⟩
instance (l : List ByteArray) : Dat (strs l) := ⟨data_strs l⟩
instance (s : Span) : Dat (encSpan s) := ⟨data_span s⟩
instance {cs : List AV} [a : Dats cs] : Dat (.agg cs) := ⟨data_agg a.h⟩
instance {cs : List AV} [a : Dats cs] : Dat (.tuple cs) := ⟨data_tuple a.h⟩
instance {cs : List AV} [a : Dats cs] : Dat (.lit cs false none) := ⟨data_lit a.h⟩
instance (k : IntKind) (l : List Int) : Dats (l.map (.int k)) := ⟨datas_map (data_int k) l⟩
end Go.Am
namespace Go.Am.Room
def inR (n lo hi : Int) : Bool := decide (lo ≤ n) && decide (n ≤ hi)
def ends (s : Span) (lo hi : Int) : Int := if !inR s.lo lo hi || !inR s.hi lo hi then 7 else if s.hi < s.lo then 2 else 0
def join (s : Span) (n : Int) : Span := ⟨min s.lo n, max s.hi n⟩
def less : List Int → List Int → Bool
 | _, [] => false
 | [], _ :: _ => true
 | a :: az, b :: bs => if a = b then less az bs else decide (a < b)
theorem less_step {a b : List Int} {k : Nat} (ha : k < a.length) (hb : k < b.length) (h : a[k] = b[k]) : less (a.drop (k + 1)) (b.drop (k + 1)) = less (a.drop k) (b.drop k) := by
 rw [List.drop_eq_getElem_cons ha, List.drop_eq_getElem_cons hb]; simp [less, h]
theorem less_ok (a b : List Int) (ha : a.length < 9223372036854775808) (hb : b.length < 9223372036854775808) : Pure T 56 [ints a, ints b] (.bool (less a b)) := by
 refine pure_fn (af := a56) rfl (by simp [a56]) dd ?_
 (repeat (first | simp only [↓QA, QB, Nat.reduceLT, reduceIte, Nat.reduceEqDiff, Nat.reduceAdd, Nat.reduceLeDiff, Nat.reduceMul, Nat.reduceBEq, a56] | refine rd0 rfl ?_))
 refine loopE (S := Nat) 0 (fun k => k ≤ a.length ∧ k ≤ b.length ∧ less (a.drop k) (b.drop k) = less a b) (fun k => a.length - k) (fun k => [(0, ints a), (1, ints b), (5, .int .i64 k)]) (fun _ => []) ⟨Nat.zero_le _, Nat.zero_le _, rfl⟩ rfl ?_ fun k hk => ?_
 ·try simp only [TrimX, QE, Nat.reduceLT, reduceIte, Nat.reduceEqDiff, Nat.reduceAdd, Nat.reduceLeDiff, Nat.reduceMul, Nat.reduceBEq]
  try simp
 ·obtain ⟨hka, hkb, hl⟩ := hk
  (repeat (first | simp only [↓QA, QB, Nat.reduceLT, reduceIte, Nat.reduceEqDiff, Nat.reduceAdd, Nat.reduceLeDiff, Nat.reduceMul, Nat.reduceBEq, L56_0] | refine rd0 rfl ?_))
  by_cases h1 : k < a.length
  ·have g1 : decide ((k : Int) < a.length) = true := by simpa using h1
   by_cases h2 : k < b.length
   ·have g2 : decide ((k : Int) < b.length) = true := by simpa using h2
    (repeat (first | simp only [↓QA, QB, Nat.reduceLT, reduceIte, Nat.reduceEqDiff, Nat.reduceAdd, Nat.reduceLeDiff, Nat.reduceMul, Nat.reduceBEq, g1, g2, h1, h2] | refine rd0 rfl ?_))
    refine iteP_intro (fun h3 => ?_) fun h3 => ?_
    ·have h3' : a[k] = b[k] := by simpa using h3
     (repeat (first | simp only [↓QA, QB, Nat.reduceLT, reduceIte, Nat.reduceEqDiff, Nat.reduceAdd, Nat.reduceLeDiff, Nat.reduceMul, Nat.reduceBEq, h3] | refine rd0 rfl ?_))
     refine ⟨k + 1, ⟨by omega, by omega, (less_step h1 h2 h3').trans hl⟩, by omega, ?_⟩
     try simp only [TrimX, QE, Nat.reduceLT, reduceIte, Nat.reduceEqDiff, Nat.reduceAdd, Nat.reduceLeDiff, Nat.reduceMul, Nat.reduceBEq, wrapN h1 ha]
    ·have h3' : a[k] ≠ b[k] := by simpa using h3
     have e1 : ((k : Int) == b.length) = false := by simp; omega
     have e2 : ((k : Int) == a.length) = false := by simp; omega
     (repeat (first | simp only [↓QA, QB, Nat.reduceLT, reduceIte, Nat.reduceEqDiff, Nat.reduceAdd, Nat.reduceLeDiff, Nat.reduceMul, Nat.reduceBEq, h3, e1, e2, h1, h2] | refine rd0 rfl ?_))
     rw [← hl, List.drop_eq_getElem_cons h1, List.drop_eq_getElem_cons h2]
     simp [less, h3']
   ·have hkb' : k = b.length := by omega
    have g2 : decide ((k : Int) < b.length) = false := by simp; omega
    have e1 : ((k : Int) == b.length) = true := by simp; omega
    (repeat (first | simp only [↓QA, QB, Nat.reduceLT, reduceIte, Nat.reduceEqDiff, Nat.reduceAdd, Nat.reduceLeDiff, Nat.reduceMul, Nat.reduceBEq, g1, g2, e1] | refine rd0 rfl ?_))
    rw [← hl, hkb', List.drop_length]
    cases List.drop b.length a <;> simp [less]
  ·have g1 : decide ((k : Int) < a.length) = false := by simp; omega
   have e2 : ((k : Int) == a.length) = true := by simp; omega
   have hka' : k = a.length := by omega
   (repeat (first | simp only [↓QA, QB, Nat.reduceLT, reduceIte, Nat.reduceEqDiff, Nat.reduceAdd, Nat.reduceLeDiff, Nat.reduceMul, Nat.reduceBEq, g1] | refine rd0 rfl ?_))
   refine iteP_intro (fun h3 => ?_) fun h3 => ?_
   ·have h3' : k = b.length := by simp at h3; omega
    (repeat (first | simp only [↓QA, QB, Nat.reduceLT, reduceIte, Nat.reduceEqDiff, Nat.reduceAdd, Nat.reduceLeDiff, Nat.reduceMul, Nat.reduceBEq] | refine rd0 rfl ?_))
    rw [← hl, h3', List.drop_length]
    cases List.drop b.length a <;> simp [less]
   ·have h3' : k < b.length := by simp at h3; omega
    (repeat (first | simp only [↓QA, QB, Nat.reduceLT, reduceIte, Nat.reduceEqDiff, Nat.reduceAdd, Nat.reduceLeDiff, Nat.reduceMul, Nat.reduceBEq, h3, e2] | refine rd0 rfl ?_))
    rw [← hl, hka', List.drop_length, List.drop_eq_getElem_cons (by omega)]
    simp [less]
theorem less_irr : ∀ a, less a a = false
 | [] => rfl
 | a :: az => by simp [less, less_irr az]
theorem less_tri : ∀ a b, less a b = false → less b a = false → a = b
 | [], [], _, _ => rfl
 | [], b :: bs, h, _ => by simp [less] at h
 | a :: az, [], _, h => by simp [less] at h
 | a :: az, b :: bs, h1, h2 => by
  by_cases hab : a = b
  ·subst hab
   simp [less] at h1 h2
   rw [less_tri az bs h1 h2]
  ·simp [less, hab, Ne.symm hab] at h1 h2
   omega
theorem len_beq (a b : Nat) : ((a : Int) == (b : Int)) = decide (a = b) := by rw [Bool.eq_iff_iff]; simp; omega
theorem ints_ok (a b : List Int) (ha : a.length < 9223372036854775808) (hb : b.length < 9223372036854775808) : Pure T 27 [ints a, ints b] (.bool (decide (a = b))) := by
 refine pure_fn (af := a27) rfl (by simp [a27]) dd ?_
 (repeat (first | simp only [↓QA, QB, Nat.reduceLT, reduceIte, Nat.reduceEqDiff, Nat.reduceAdd, Nat.reduceLeDiff, Nat.reduceMul, Nat.reduceBEq, a27] | refine rd0 rfl ?_))
 refine iteP_intro (fun h => ?_) fun h => ?_
 ·(repeat (first | simp only [↓QA, QB, Nat.reduceLT, reduceIte, Nat.reduceEqDiff, Nat.reduceAdd, Nat.reduceLeDiff, Nat.reduceMul, Nat.reduceBEq, h] | refine rd0 rfl ?_))
  refine callK_d (less_ok a b ha hb) rfl dd ?_
  (repeat (first | simp only [↓QA, QB, Nat.reduceLT, reduceIte, Nat.reduceEqDiff, Nat.reduceAdd, Nat.reduceLeDiff, Nat.reduceMul, Nat.reduceBEq, h] | refine rd0 rfl ?_))
  cases h1 : less a b
  ·(repeat (first | simp only [↓QA, QB, Nat.reduceLT, reduceIte, Nat.reduceEqDiff, Nat.reduceAdd, Nat.reduceLeDiff, Nat.reduceMul, Nat.reduceBEq, h] | refine rd0 rfl ?_))
   refine callK_d (less_ok b a hb ha) rfl dd ?_
   (repeat (first | simp only [↓QA, QB, Nat.reduceLT, reduceIte, Nat.reduceEqDiff, Nat.reduceAdd, Nat.reduceLeDiff, Nat.reduceMul, Nat.reduceBEq, h] | refine rd0 rfl ?_))
   cases h2 : less b a
   ·rw [less_tri a b h1 h2]; simp
   ·have : a ≠ b := by rintro rfl; rw [less_irr] at h2; cases h2
    simp [this]
  ·have : a ≠ b := by rintro rfl; rw [less_irr] at h1; cases h1
   (repeat (first | simp only [↓QA, QB, Nat.reduceLT, reduceIte, Nat.reduceEqDiff, Nat.reduceAdd, Nat.reduceLeDiff, Nat.reduceMul, Nat.reduceBEq, h] | refine rd0 rfl ?_))
   simp [this]
 ·have : a ≠ b := by rintro rfl; simp at h
  (repeat (first | simp only [↓QA, QB, Nat.reduceLT, reduceIte, Nat.reduceEqDiff, Nat.reduceAdd, Nat.reduceLeDiff, Nat.reduceMul, Nat.reduceBEq, h] | refine rd0 rfl ?_))
  simp [this]
def fewer (a b : List Int) : Bool := if a.length = b.length then less a b else decide (a.length < b.length)
theorem str_beq (a b : ByteArray) : (a.toList == b.toList) = decide (a = b) := by
 rw [Bool.eq_iff_iff]; simp
 constructor
 ·intro h; rw [Go.Lib.toList_data, Go.Lib.toList_data] at h; exact ByteArray.ext (Array.toList_inj.1 h)
 ·rintro rfl; rfl
def ahead (s : ByteArray) : List ByteArray → Nat
 | [] => 0
 | x :: xs => if x = s then 0 else ahead s xs + 1
def okByte (i : Nat) (b : Int) : Bool := inR b 97 122 || (decide (0 < i) && (b == 46 || inR b 48 57))
def okUpTo (s : ByteArray) : Nat → Bool
 | 0 => true
 | k + 1 => okUpTo s k && okByte k (byteAt s k)
def nameOk (s : ByteArray) : Bool := inR s.size 1 16 && okUpTo s s.size
def fresh (s : ByteArray) (before : List ByteArray) : Int := if nameOk s = false then 6 else if ahead s before = before.length then 0 else 5
def numbers (a : Int) : Nat → List Int
 | 0 => []
 | n + 1 => a :: numbers (a + 1) n
theorem numbers_len : ∀ n a, (numbers a n).length = n
 | 0, _ => rfl
 | n + 1, a => by simp [numbers, numbers_len n]
theorem numbers_mem : ∀ n a x, x ∈ numbers a n ↔ a ≤ x ∧ x < a + n
 | 0, a, x => by simp [numbers]
 | n + 1, a, x => by simp [numbers, numbers_mem n]; omega
def least (i : Nat) (c : List Int) : Int := if 0 < i then (c[i - 1]?).getD 0 + 1 else 0
def nexts (below i : Nat) (c : List Int) : List (List Int) := (numbers (least i c) ((below : Int) - least i c).toNat).map fun n => c ++ [n]
def choices (below : Nat) : Nat → List (List Int)
 | 0 => [[]]
 | i + 1 => (choices below i).flatMap (nexts below i)
theorem choices_spec (below : Nat) : ∀ i c, c ∈ choices below i → c.length = i ∧ ∀ x ∈ c, 0 ≤ x ∧ x < below
 | 0, c, h => by simp [choices] at h; subst h; simp
 | i + 1, c, h => by
  simp only [choices, List.mem_flatMap] at h
  obtain ⟨d, h1, h2⟩ := h
  obtain ⟨q1, q2⟩ := choices_spec below i d h1
  simp only [nexts, List.mem_map, numbers_mem] at h2
  obtain ⟨n, h3, rfl⟩ := h2
  refine ⟨by simp [q1], fun x hx => ?_⟩
  rcases List.mem_append.1 hx with hx | hx
  ·exact q2 x hx
  ·simp at hx
   subst hx
   have : 0 ≤ least i d := by
    unfold least
    split
    ·rename_i hi
     have hlt : i - 1 < d.length := by omega
     have := q2 d[i - 1] (List.getElem_mem hlt)
     simp [hlt]
     omega
    ·omega
   omega
theorem flat_le {α β : Type} (f : α → List β) (b : Nat) : ∀ l : List α, (∀ x ∈ l, (f x).length ≤ b) → (l.flatMap f).length ≤ l.length * b
 | [], _ => by simp
 | x :: l, h => by
  have h1 := h x (by simp)
  have h2 := flat_le f b l fun y hy => h y (List.mem_cons_of_mem _ hy)
  simp only [List.flatMap_cons, List.length_append, List.length_cons, Nat.add_mul]
  omega
theorem allCells_ints (l : List (List Int)) : allCells 1 (l.map ints) = true := L_allM 1 ints l fun x => C_lit _ _ _
theorem allCells_int (l : List Int) : allCells 1 (l.map (.int .i64)) = true := L_allM 1 _ l fun x => C_int _ _
theorem numbers_cons {a : Int} {below : Nat} (h : a < below) : numbers a ((below : Int) - a).toNat = a :: numbers (a + 1) ((below : Int) - (a + 1)).toNat := by
 rw [show ((below : Int) - a).toNat = ((below : Int) - (a + 1)).toNat + 1 by omega]; rfl
theorem numbers_none {a : Int} {below : Nat} (h : ¬ a < below) : numbers a ((below : Int) - a).toNat = [] := by
 rw [show ((below : Int) - a).toNat = 0 by omega]; rfl
theorem less_trans : ∀ {a b c : List Int}, less a b = true → less b c = true → less a c = true
 | a, b, [], h1, h2 => by cases b <;> simp [less] at h2
 | a, [], c :: cs, h1, h2 => by cases a <;> simp [less] at h1
 | [], b :: bs, c :: cs, h1, h2 => by simp [less]
 | a :: az, b :: bs, c :: cs, h1, h2 => by
  simp only [less] at *
  by_cases hab : a = b
  ·subst hab
   by_cases hac : a = c
   ·subst hac
    simp only [if_true] at *
    exact less_trans h1 h2
   ·simp only [hac, if_false, if_true] at *
    exact h2
  ·by_cases hbc : b = c
   ·subst hbc
    simp only [hab, if_false, if_true, decide_eq_true_eq] at *
    exact h1
   ·simp only [hab, hbc, if_false, decide_eq_true_eq] at *
    rw [if_neg (by omega)]
    simp; omega
theorem fewer_irr (a : List Int) : fewer a a = false := by simp [fewer, less_irr]
theorem fewer_trans {a b c : List Int} (h1 : fewer a b = true) (h2 : fewer b c = true) : fewer a c = true := by
 simp only [fewer] at *
 by_cases e1 : a.length = b.length <;> by_cases e2 : b.length = c.length
 ·simp only [e1, e2, if_true] at *; exact less_trans h1 h2
 ·simp only [e1, e2, if_true, if_false, decide_eq_true_eq] at *; exact h2
 ·rw [if_neg e1] at h1; rw [if_neg (by omega)]; simp at h1 ⊢; omega
 ·simp only [e1, e2, if_false, decide_eq_true_eq] at *
  rw [if_neg (by omega)]; simp; omega
theorem fewer_tri {a b : List Int} (h1 : fewer a b = false) (h2 : fewer b a = false) : a = b := by
 simp only [fewer] at *
 by_cases e1 : a.length = b.length
 ·simp only [e1, if_true] at *
  exact less_tri a b h1 h2
 ·rw [if_neg e1] at h1; rw [if_neg (Ne.symm e1)] at h2
  simp at h1 h2; omega
theorem nfewer_trans {a b c : List Int} (h1 : fewer b a = false) (h2 : fewer c b = false) : fewer c a = false := by
 rw [Bool.eq_false_iff]
 intro h
 by_cases hab : fewer a b = true
 ·rw [fewer_trans h hab] at h2; cases h2
 ·have := fewer_tri (by simpa using hab) h1
  subst this
  rw [h] at h2; cases h2
def lst (n s : Nat) : List Int := (numbers 0 n).filter fun i => decide (s / 2 ^ i.toNat % 2 = 1)
theorem lst_in : ∀ n : Fin 7, ∀ s : Fin 64, s.val < 2 ^ n.val → lst n s ∈ choices n (lst n s).length := by decide +kernel
theorem in_lst : ∀ n m : Fin 7, ∀ c ∈ choices n m, ∃ s : Fin 64, s.val < 2 ^ n.val ∧ lst n s = c := by decide +kernel
theorem choices_sorted : ∀ n m : Fin 7, (choices n m).Pairwise fun a b => less a b = true := by decide +kernel
theorem choices_one : ∀ n : Fin 7, (choices n n).length = 1 := by decide +kernel
theorem lst_len (n s : Nat) : (lst n s).length ≤ n := by
 have := List.length_filter_le (fun i : Int => decide (s / 2 ^ i.toNat % 2 = 1)) (numbers 0 n)
 rw [numbers_len] at this
 exact this
def firstFrom (f : List Int → Bool) (n : Nat) : Nat → Nat → Option (List Int)
 | 0, _ => none
 | k + 1, m => match (choices n m).find? f with
  | some l => some l
  | none => firstFrom f n k (m + 1)
theorem all_contains : ∀ n : Fin 7, ∀ c ∈ choices n n, ∀ j : Fin 7, j.val < n.val → c.contains ((j.val : Nat) : Int) = true := by decide +kernel
def fewStep (f : List Int → Bool) (o : Option (List Int)) (l : List Int) : Option (List Int) := match o with
 | none => if f l = true then some l else none
 | some b => if fewer b l = true then some b else if f l = true then some l else some b
def fewFold (f : List Int → Bool) (n : Nat) : Nat → Nat → Option (List Int) → Option (List Int)
 | 0, _, o => o
 | k + 1, s, o => fewFold f n k (s + 1) (fewStep f o (lst n s))
theorem fewFold_spec (f : List Int → Bool) (n : Nat) : ∀ k s o, (∀ w, o = some w → f w = true ∧ ∃ t, t < s ∧ w = lst n t ∧ ∀ t', t' < s → f (lst n t') = true → fewer (lst n t') w = false) → (o = none → ∀ t, t < s → f (lst n t) = false) →
  (∀ w, fewFold f n k s o = some w → f w = true ∧ ∃ t, t < s + k ∧ w = lst n t ∧ ∀ t', t' < s + k → f (lst n t') = true → fewer (lst n t') w = false) ∧ (fewFold f n k s o = none → ∀ t, t < s + k → f (lst n t) = false)
 | 0, s, o, h1, h2 => ⟨h1, h2⟩
 | k + 1, s, o, h1, h2 => by
  have ih := fewFold_spec f n k (s + 1) (fewStep f o (lst n s))
  rw [show s + 1 + k = s + (k + 1) by omega] at ih
  simp only [fewFold]
  have last : ∀ (w : List Int) t', t' < s + 1 → (∀ t'', t'' < s → f (lst n t'') = true → fewer (lst n t'') w = false) → (f (lst n s) = true → fewer (lst n s) w = false) → f (lst n t') = true → fewer (lst n t') w = false := by
   intro w t' ht h3 h4 hs
   by_cases he : t' = s
   ·subst he; exact h4 hs
   ·exact h3 t' (by omega) hs
  refine ih (fun w hw => ?_) fun hn t ht => ?_
  ·cases o with
   | none =>
    simp only [fewStep] at hw
    split at hw
    ·rename_i hs
     simp only [Option.some.injEq] at hw
     subst hw
     refine ⟨hs, s, by omega, rfl, fun t' ht hst => last _ t' ht (fun t'' h4 h5 => by rw [h2 rfl t'' h4] at h5; cases h5) (fun _ => fewer_irr _) hst⟩
    ·cases hw
   | some b =>
    obtain ⟨q1, t, q2, q3, q4⟩ := h1 b rfl
    simp only [fewStep] at hw
    split at hw
    ·rename_i hf
     simp only [Option.some.injEq] at hw
     subst hw
     refine ⟨q1, t, by omega, q3, fun t' ht hst => last _ t' ht q4 (fun _ => ?_) hst⟩
     rw [Bool.eq_false_iff]
     intro h5
     have := fewer_trans hf h5
     rw [fewer_irr] at this; cases this
    ·rename_i hf
     split at hw
     ·rename_i hs
      simp only [Option.some.injEq] at hw
      subst hw
      refine ⟨hs, s, by omega, rfl, fun t' ht hst => last _ t' ht (fun t'' h4 h5 => ?_) (fun _ => fewer_irr _) hst⟩
      exact nfewer_trans (by simpa using hf) (q4 t'' h4 h5)
     ·rename_i hs
      simp only [Option.some.injEq] at hw
      subst hw
      exact ⟨q1, t, by omega, q3, fun t' ht hst => last _ t' ht q4 (fun h5 => absurd h5 hs) hst⟩
  ·cases o with
   | none =>
    simp only [fewStep] at hn
    split at hn
    ·cases hn
    ·rename_i hs
     by_cases he : t = s
     ·subst he; simpa using hs
     ·exact h2 rfl t (by omega)
   | some b =>
    simp only [fewStep] at hn
    split at hn
    ·cases hn
    ·split at hn <;> cases hn
theorem choices_le : ∀ {n i : Nat} {c : List Int}, c ∈ choices n i → i ≤ n := by
 intro n i
 cases i with
 | zero => intros; omega
 | succ i =>
  intro c hc
  simp only [choices, List.mem_flatMap, nexts, List.mem_map, numbers_mem] at hc
  obtain ⟨d, hd, x, hx, rfl⟩ := hc
  have key : ∀ j (d : List Int), d ∈ choices n j → (j : Int) ≤ least j d := by
   intro j
   induction j with
   | zero => intro d _; simp [least]
   | succ j ih =>
    intro d hd
    simp only [choices, List.mem_flatMap, nexts, List.mem_map, numbers_mem] at hd
    obtain ⟨d', hd', y, hy, rfl⟩ := hd
    have h5 := ih d' hd'
    have h6 := (choices_spec n j d' hd').1
    simp only [least, Nat.succ_pos, if_true, Nat.add_sub_cancel]
    rw [List.getElem?_append_right (by omega), h6, Nat.sub_self]
    simp only [List.getElem?_cons_zero, Option.getD_some]
    omega
  have := key i d hd
  omega
theorem firstFrom_spec (f : List Int → Bool) (n : Nat) (hN : n ≤ 6) : ∀ k m, (∀ m', m' < m → ∀ c ∈ choices n m', f c = false) →
  (∀ l, firstFrom f n k m = some l → l ∈ choices n l.length ∧ f l = true ∧ ∀ m', ∀ c ∈ choices n m', f c = true → fewer c l = false) ∧ (firstFrom f n k m = none → ∀ m', m' < m + k → ∀ c ∈ choices n m', f c = false)
 | 0, m, hlow => ⟨fun l h => by simp [firstFrom] at h, fun _ m' h c hc => hlow m' (by omega) c hc⟩
 | k + 1, m, hlow => by
  simp only [firstFrom]
  cases hf : (choices n m).find? f with
  | none =>
   simp only
   have ih := firstFrom_spec f n hN k (m + 1) fun m' hm' c hc => by
    by_cases he : m' = m
    ·subst he
     rw [List.find?_eq_none] at hf
     simpa using hf c hc
    ·exact hlow m' (by omega) c hc
   exact ⟨ih.1, fun h m' hm' => ih.2 h m' (by omega)⟩
  | some l =>
   simp only
   refine ⟨fun l' h => ?_, fun h => by cases h⟩
   cases h
   have hmem := List.mem_of_find?_eq_some hf
   have hs := List.find?_some hf
   have hlen := (choices_spec _ _ _ hmem).1
   rw [hlen]
   refine ⟨hmem, hs, fun m' c hc hsc => ?_⟩
   have hcl := (choices_spec _ _ _ hc).1
   by_cases h1 : m' < m
   ·rw [hlow m' h1 c hc] at hsc; cases hsc
   ·by_cases he : m' = m
    ·subst he
     rw [Bool.eq_false_iff]
     intro hlt
     simp only [fewer, hcl, hlen, if_true] at hlt
     obtain ⟨pre, post, e1, e2⟩ := (List.find?_eq_some_iff_append.1 hf).2
     have hmn := choices_le hmem
     have hpw := choices_sorted ⟨n, by omega⟩ ⟨m', by omega⟩
     simp only at hpw
     rw [e1] at hc hpw
     rcases List.mem_append.1 hc with hc | hc
     ·have := e2 c hc
      rw [hsc] at this; cases this
     ·rcases List.mem_cons.1 hc with rfl | hc
      ·rw [less_irr] at hlt; cases hlt
      ·have := (List.pairwise_append.1 hpw).2.1
       have := (List.pairwise_cons.1 this).1 c hc
       have h3 := less_trans hlt this
       rw [less_irr] at h3; cases h3
    ·simp only [fewer]; rw [if_neg (by omega)]; simp; omega
theorem few_eq (f : List Int → Bool) (n : Nat) (hN : n ≤ 6) : fewFold f n (2 ^ n) 0 none = firstFrom f n (n + 1) 0 := by
 have hp : 2 ^ n ≤ 2 ^ 6 := Nat.pow_le_pow_right (by omega) hN
 obtain ⟨w1, w2⟩ := firstFrom_spec f n hN (n + 1) 0 (fun m' h => by omega)
 obtain ⟨s1, s2⟩ := fewFold_spec f n (2 ^ n) 0 none (fun w h => by cases h) (fun _ t h => by omega)
 rw [Nat.zero_add] at s1 s2
 cases hf : fewFold f n (2 ^ n) 0 none with
 | none =>
  cases hg : firstFrom f n (n + 1) 0 with
  | none => rfl
  | some l =>
   obtain ⟨a, b, c⟩ := w1 l hg
   have hle := choices_le a
   obtain ⟨t, ht, hlt⟩ := in_lst ⟨n, by omega⟩ ⟨l.length, by omega⟩ l a
   have := s2 hf t.val ht
   rw [show lst n t.val = l from hlt, b] at this; cases this
 | some w =>
  obtain ⟨q1, t', q2, q3, q4⟩ := s1 w hf
  have hin := lst_in ⟨n, by omega⟩ ⟨t', by omega⟩ q2
  simp only at hin
  rw [← q3] at hin
  have hle : w.length ≤ n := by rw [q3]; exact lst_len _ _
  cases hg : firstFrom f n (n + 1) 0 with
  | none =>
   have := w2 hg w.length (by omega) w hin
   rw [q1] at this; cases this
  | some l =>
   obtain ⟨a, b, c⟩ := w1 l hg
   have hll := choices_le a
   obtain ⟨t, ht, hlt⟩ := in_lst ⟨n, by omega⟩ ⟨l.length, by omega⟩ l a
   have a1 := q4 t.val ht (by rw [show lst n t.val = l from hlt]; exact b)
   rw [show lst n t.val = l from hlt] at a1
   have a2 := c w.length w hin q1
   rw [fewer_tri a1 a2]
def firstBad {α : Type} (f : Nat → α → Int) : List α → Nat → Option (Nat × Int)
 | [], _ => none
 | x :: xs, i => if f i x = 0 then firstBad f xs (i + 1) else some (i, f i x)
theorem firstBad_step {α : Type} {f : Nat → α → Int} {l : List α} {k : Nat} (h : k < l.length) : firstBad f (l.drop k) k = if f k l[k] = 0 then firstBad f (l.drop (k + 1)) (k + 1) else some (k, f k l[k]) := by
 rw [List.drop_eq_getElem_cons h]; rfl
theorem firstBad_end {α : Type} {f : Nat → α → Int} {l : List α} {k : Nat} (h : k = l.length) : firstBad f (l.drop k) k = none := by
 rw [h, List.drop_length]; rfl
def spanL : List Int → Span
 | [] => ⟨0, 0⟩
 | x :: xs => xs.foldl join ⟨x, x⟩
def settled (yes all : Nat) : Int := if yes = all then 1 else if yes = 0 then 2 else 0
theorem inR_iff {n lo hi : Int} : inR n lo hi = true ↔ lo ≤ n ∧ n ≤ hi := by simp [inR]
theorem ends_zero {s : Span} {lo hi : Int} (h : ends s lo hi = 0) : lo ≤ s.lo ∧ s.lo ≤ s.hi ∧ s.hi ≤ hi := by
 unfold ends at h
 split at h
 ·omega
 ·rename_i h1
  split at h
  ·omega
  ·simp [inR] at h1; omega
theorem ends_of {s : Span} {lo hi : Int} (h : lo ≤ s.lo ∧ s.lo ≤ s.hi ∧ s.hi ≤ hi) : ends s lo hi = 0 := by
 unfold ends
 rw [inR_iff.2 ⟨h.1, by omega⟩, inR_iff.2 ⟨by omega, h.2.2⟩]
 simp
 omega
theorem firstBad_all {α : Type} {f : Nat → α → Int} : ∀ {l : List α} {i : Nat}, firstBad f l i = none → ∀ k (h : k < l.length), f (i + k) l[k] = 0
 | [], _, _, k, h => by simp at h
 | x :: xs, i, h, k, hk => by
  simp only [firstBad] at h
  split at h
  ·rename_i h0
   cases k with
   | zero => exact h0
   | succ k =>
    have := firstBad_all h k (by simpa using hk)
    simpa [Nat.add_assoc, Nat.add_comm 1 k] using this
  ·cases h
theorem firstBad_nz {α : Type} {f : Nat → α → Int} : ∀ {l : List α} {i j : Nat} {e : Int}, firstBad f l i = some (j, e) → e ≠ 0
 | [], _, _, _, h => by cases h
 | x :: xs, i, j, e, h => by
  simp only [firstBad] at h
  split at h
  ·exact firstBad_nz h
  ·rename_i hn
   simp at h
   rw [← h.2]
   exact hn
theorem numbers_snoc : ∀ (n : Nat) (a : Int), numbers a (n + 1) = numbers a n ++ [a + n]
 | 0, a => by simp [numbers]
 | n + 1, a => by
  rw [numbers, numbers_snoc n (a + 1)]
  simp only [numbers, List.cons_append]
  congr 3
  omega
structure Rail where
 a : Int
 b : Int
 mins : Span
 shut : Int
structure Tram where
 name : ByteArray
 frm : Int
 leaves : Int
 due : Int
 path : List Int
structure Seen where
 tram : Int
 minute : Int
structure Net where
 stations : Int
 rails : List Rail
 trams : List Tram
 seen : List Seen
def encRail (r : Rail) : AV := .agg [.int .i64 r.a, .int .i64 r.b, .int .i64 r.mins.lo, .int .i64 r.mins.hi, .int .i64 r.shut]
theorem encRail_eq (r : Rail) : encRail r = .agg [.int .i64 r.a, .int .i64 r.b, .int .i64 r.mins.lo, .int .i64 r.mins.hi, .int .i64 r.shut] := by simp only [encRail]
theorem data_rail (r : Rail) : Data (encRail r) := data_agg (datas_cons (data_int _ _) (datas_cons (data_int _ _) (datas_cons (data_int _ _) (datas_cons (data_int _ _) (datas_cons (data_int _ _) datas_nil)))))
instance (r : Rail) : Dat (encRail r) := ⟨data_rail r⟩
instance (l : List Rail) : Dats (l.map encRail) := ⟨datas_map data_rail l⟩
theorem S_mapRail (σ : St) (m d : Nat) (l : List Rail) : snapMs σ m d (l.map encRail) = some (l.map encRail) := S_datas (datas_map data_rail l) σ m d
def encTram (t : Tram) : AV := .agg [.str t.name, .int .i64 t.frm, .int .i64 t.leaves, .int .i64 t.due, ints t.path]
theorem encTram_eq (t : Tram) : encTram t = .agg [.str t.name, .int .i64 t.frm, .int .i64 t.leaves, .int .i64 t.due, ints t.path] := by simp only [encTram]
theorem data_tram (t : Tram) : Data (encTram t) := data_agg (datas_cons (data_str _) (datas_cons (data_int _ _) (datas_cons (data_int _ _) (datas_cons (data_int _ _) (datas_cons (data_ints _) datas_nil)))))
instance (t : Tram) : Dat (encTram t) := ⟨data_tram t⟩
instance (l : List Tram) : Dats (l.map encTram) := ⟨datas_map data_tram l⟩
theorem S_mapTram (σ : St) (m d : Nat) (l : List Tram) : snapMs σ m d (l.map encTram) = some (l.map encTram) := S_datas (datas_map data_tram l) σ m d
def encSeen (x : Seen) : AV := .agg [.int .i64 x.tram, .int .i64 x.minute]
theorem encSeen_eq (x : Seen) : encSeen x = .agg [.int .i64 x.tram, .int .i64 x.minute] := by simp only [encSeen]
theorem data_seen (x : Seen) : Data (encSeen x) := data_agg (datas_cons (data_int _ _) (datas_cons (data_int _ _) datas_nil))
instance (x : Seen) : Dat (encSeen x) := ⟨data_seen x⟩
instance (l : List Seen) : Dats (l.map encSeen) := ⟨datas_map data_seen l⟩
theorem S_mapSeen (σ : St) (m d : Nat) (l : List Seen) : snapMs σ m d (l.map encSeen) = some (l.map encSeen) := S_datas (datas_map data_seen l) σ m d
def netCells (v : Net) : List AV := [.int .i64 v.stations, .lit (v.rails.map encRail) false none, .lit (v.trams.map encTram) false none, .lit (v.seen.map encSeen) false none]
theorem netCells_eq (v : Net) : netCells v = [.int .i64 v.stations, .lit (v.rails.map encRail) false none, .lit (v.trams.map encTram) false none, .lit (v.seen.map encSeen) false none] := by simp only [netCells]
def encNet (v : Net) : AV := .agg (netCells v)
theorem encNet_eq (v : Net) : encNet v = .agg (netCells v) := by simp only [encNet]
theorem data_net (v : Net) : Data (encNet v) := data_agg (datas_cons (data_int _ _) (datas_cons (data_list data_rail _) (datas_cons (data_list data_tram _) (datas_cons (data_list data_seen _) datas_nil))))
instance (v : Net) : Dat (encNet v) := ⟨data_net v⟩
structure Fits (v : Net) : Prop where
 rails : v.rails.length < 9223372036854775808
 trams : v.trams.length < 9223372036854775808
 seen : v.seen.length < 9223372036854775808
 names : ∀ t ∈ v.trams, t.name.size < 9223372036854775808
 paths : ∀ t ∈ v.trams, t.path.length < 9223372036854775808
def isSt (v : Net) (s : Int) : Bool := inR s 0 (v.stations - 1)
def railErr (v : Net) (r : Rail) : Int :=
 if isSt v r.a = false ∨ isSt v r.b = false then 4 else if r.a = r.b then 2
 else if ends r.mins 1 20 = 7 ∨ inR r.shut 0 2 = false then 7 else if ends r.mins 1 20 ≠ 0 ∨ r.mins.lo + 1 < r.mins.hi then 2 else 0
def overOf (r : Rail) (s : Int) : Int := if s = r.a then r.b else if s = r.b then r.a else -1
def railAt (v : Net) (r : Int) : Rail := (v.rails[r.toNat]?).getD ⟨0, 0, ⟨0, 0⟩, 0⟩
def leadsGo (v : Net) : List Int → Int → List Int → Bool
 | [], s, _ => s == 0
 | r :: l, s, met =>
  if overOf (railAt v r) s < 0 ∨ met.contains (overOf (railAt v r) s) = true ∨ (overOf (railAt v r) s = 0 ∧ l ≠ []) then false
  else leadsGo v l (overOf (railAt v r) s) (met ++ [overOf (railAt v r) s])
def leadsB (v : Net) (s : Int) (path : List Int) : Bool := if inR path.length 1 4 = false ∨ s = 0 then false else leadsGo v path s [s]
def tramErr2 (v : Net) (t : Tram) : Int :=
 if isSt v t.frm = false then 4 else if inR t.leaves 0 60 = false ∨ inR t.due 0 400 = false then 7
 else if inR t.path.length 1 4 = false then 3 else if t.path.all (fun r => inR r 0 ((v.rails.length : Int) - 1)) = false then 4
 else if leadsB v t.frm t.path = false then 2 else 0
def tramErr (v : Net) (i : Nat) (t : Tram) : Int := if fresh t.name ((v.trams.take i).map Tram.name) = 0 then tramErr2 v t else fresh t.name ((v.trams.take i).map Tram.name)
def seenErr (v : Net) (_ : Nat) (x : Seen) : Int := if inR x.tram 0 ((v.trams.length : Int) - 1) = false then 4 else if inR x.minute (-1) 400 = false then 7 else 0
def check4 (v : Net) : Int × Int × Int := if 3 < v.seen.length then (4, 0, 3) else match firstBad (seenErr v) v.seen 0 with | some (i, e) => (4, i, e) | none => (0, 0, 0)
def check3 (v : Net) : Int × Int × Int := if 3 < v.trams.length then (3, 0, 3) else match firstBad (tramErr v) v.trams 0 with | some (i, e) => (3, i, e) | none => check4 v
def check2 (v : Net) : Int × Int × Int := if 5 < v.rails.length then (2, 0, 3) else match firstBad (fun _ r => railErr v r) v.rails 0 with | some (i, e) => (2, i, e) | none => check3 v
def check (v : Net) : Int × Int × Int := if inR v.stations 2 5 = false then (1, 0, 7) else check2 v
def railOk (v : Net) (but l : List Int) (r : Int) : Bool := !decide ((railAt v r).shut = 1) && !but.contains r && !l.contains r
def extW (v : Net) (but l : List Int) : List (List Int) := ((numbers 0 v.rails.length).filter (railOk v but l)).map fun r => l ++ [r]
def moreW (v : Net) (but : List Int) : Nat → List (List Int)
 | 0 => [[]]
 | k + 1 => (moreW v but k).flatMap (extW v but)
def waysUp (v : Net) (s : Int) (but : List Int) : Nat → List (List Int)
 | 0 => []
 | k + 1 => waysUp v s but k ++ (moreW v but (k + 1)).filter (leadsB v s)
def waysOf (v : Net) (s : Int) (but : List Int) : List (List Int) := waysUp v s but 4
def pathsOf (v : Net) (s : Int) : List (List Int) × Int := if (check v).2.2 = 0 then (if isSt v s = true then (waysOf v s [], 0) else ([], 4)) else ([], (check v).2.2)
structure State where
 closed : List Bool
 mins : List Int
def waysIn (s : Span) : List Int := numbers s.lo (s.hi + 1 - s.lo).toNat
def canC (shut : Int) (c : Bool) : Bool := !(c && decide (shut = 0) || !c && decide (shut = 1))
def extS (r : Rail) (s : State) : List State := (waysIn r.mins).flatMap fun m => ([false, true].filter (canC r.shut)).map fun c => ⟨s.closed ++ [c], s.mins ++ [m]⟩
def stTo (rs : List Rail) : Nat → List State
 | 0 => [⟨[], []⟩]
 | k + 1 => match rs[k]? with | some r => (stTo rs k).flatMap (extS r) | none => stTo rs k
def statesOf (v : Net) : List State := stTo v.rails v.rails.length
def eff (s : State) (r : Int) : Int := if (s.closed[r.toNat]?).getD false = true then 0 else (s.mins[r.toNat]?).getD 0
structure Stay where
 tram : Int
 rail : Int
 frm : Int
 til : Int
def clash (rail ready m : Int) (x : Stay) : Bool := decide (x.rail = rail) && decide (x.frm < ready + m) && decide (ready < x.til)
def freeGo (ss : List Stay) (rail m : Int) : Nat → Int → Int
 | 0, s => s
 | k + 1, s => if ss.any (clash rail s m) = true then freeGo ss rail m k (s + 1) else s
def freeOf (ss : List Stay) (rail ready m : Int) : Int := freeGo ss rail m 1000 ready
def wayGo (m : Int → Int) (i : Int) : List Int → Int → List Stay → List Stay × Int
 | [], at_, ss => (ss, at_)
 | r :: l, at_, ss => wayGo m i l (freeOf ss r at_ (m r) + m r) (ss ++ [⟨i, r, freeOf ss r at_ (m r), freeOf ss r at_ (m r) + m r⟩])
def tramGo (m : Int → Int) (i : Int) (leaves : Int) (path : List Int) (ss : List Stay) : List Stay × Int :=
 if path.any (fun r => m r == 0) = true then (ss, -1) else wayGo m i path leaves ss
def leavesAt (v : Net) (i : Nat) : Int := match v.trams[i]? with | some t => t.leaves | none => 0
def pathAt (ps : List (List Int)) (i : Nat) : List Int := (ps[i]?).getD []
def runTo (v : Net) (m : Int → Int) (ps : List (List Int)) : Nat → List Stay × List Int
 | 0 => ([], [])
 | k + 1 => ((tramGo m k (leavesAt v k) (pathAt ps k) (runTo v m ps k).1).1, (runTo v m ps k).2 ++ [(tramGo m k (leavesAt v k) (pathAt ps k) (runTo v m ps k).1).2])
def comesBy (v : Net) (ps : List (List Int)) (m : Int → Int) : List Int := (runTo v m ps v.trams.length).2
def ownOf (v : Net) : List (List Int) := v.trams.map Tram.path
def comesOf (v : Net) (s : State) : List Int := comesBy v (ownOf v) (eff s)
def comeAt (cs : List Int) (t : Int) : Int := (cs[t.toNat]?).getD 0
def seenOk (v : Net) (but cs : List Int) : Bool := (List.range v.seen.length).all fun k => match v.seen[k]? with | some x => but.contains (k : Int) || comeAt cs x.tram == x.minute | none => true
def truths (v : Net) (but : List Int) : List State := (statesOf v).filter fun s => seenOk v but (comesOf v s)
def someB (v : Net) (but : List Int) : Bool := !(truths v but).isEmpty
def errKnown (v : Net) (e : Int) : Int := if e = 0 then (if (truths v []).isEmpty then 8 else 0) else e
def netErr (v : Net) : Int := errKnown v (check v).2.2
def tramAsk (v : Net) (t : Int) : Int := errKnown v (if (check v).2.2 = 0 then (if inR t 0 ((v.trams.length : Int) - 1) then 0 else 4) else (check v).2.2)
def atsIn (v : Net) (l : List State) (t : Nat) : List Int := l.map fun s => comeAt (comesOf v s) t
def runsIn (ats : List Int) : List Int := ats.filter fun c => !decide (c = -1)
def comesS (ats : List Int) : Span × Int := (spanL (runsIn ats), settled (runsIn ats).length ats.length)
def comesR (v : Net) (t : Int) : Span × Int × Int := if tramAsk v t = 0 then ((comesS (atsIn v (truths v []) t.toNat)).1, (comesS (atsIn v (truths v []) t.toNat)).2, 0) else (⟨0, 0⟩, 0, tramAsk v t)
def dueAt (v : Net) (t : Nat) : Int := match v.trams[t]? with | some x => x.due | none => 0
def inTime (v : Net) (t : Nat) (c : Int) : Bool := !decide (c = -1) && decide (c ≤ dueAt v t)
def lateAt (v : Net) (t : Int) (s : State) : Bool := !inTime v t.toNat (comeAt (comesOf v s) t)
def sureLate (v : Net) (l : List State) (t : Int) : Bool := l.all (lateAt v t)
def mayLate (v : Net) (l : List State) (t : Int) : Bool := l.any (lateAt v t)
def sureL (v : Net) (l : List State) : List Int := (numbers 0 v.trams.length).filter (sureLate v l)
def mayL (v : Net) (l : List State) : List Int := (numbers 0 v.trams.length).filter (mayLate v l)
def lateOf (v : Net) : List Int × List Int × Int := if netErr v = 0 then (sureL v (truths v []), mayL v (truths v []), 0) else ([], [], netErr v)
def firstGo (v : Net) : List Int → Int → Int
 | [], b => b
 | t :: l, b => firstGo v l (if b < 0 ∨ dueAt v t.toNat < dueAt v b.toNat then t else b)
def firstOf (v : Net) : Int × Int := if netErr v = 0 then (if mayL v (truths v []) = [] then (0, 9) else (firstGo v (mayL v (truths v [])) (-1), 0)) else (0, netErr v)
def fineBy (v : Net) (ps : List (List Int)) (s : State) : Bool := (List.range v.trams.length).all fun t => inTime v t (comeAt (comesBy v ps (eff s)) t)
def doesB (v : Net) (l : List State) (ps : List (List Int)) : Bool := l.all (fineBy v ps)
def movedOf (v : Net) (ps : List (List Int)) : List Int := (numbers 0 ps.length).filter fun t => !decide (pathAt ps t.toNat = pathAt (ownOf v) t.toNat)
def fromAt (v : Net) (t : Nat) : Int := match v.trams[t]? with | some x => x.frm | none => 0
def plansTo (v : Net) : Nat → List (List (List Int))
 | 0 => [[]]
 | k + 1 => (plansTo v k).flatMap fun p => (waysOf v (fromAt v k) []).map fun w => p ++ [w]
def plansOf (v : Net) : List (List (List Int)) := plansTo v v.trams.length
def planOk (v : Net) (l : List State) (many : Nat) (p : List (List Int)) : Bool := (movedOf v p).length == many && doesB v l p
def planFrom (v : Net) (l : List State) : Nat → Nat → Option (List (List Int))
 | 0, _ => none
 | k + 1, m => match (plansOf v).find? (planOk v l m) with | some p => some p | none => planFrom v l k (m + 1)
def bestPlan (v : Net) (l : List State) : Option (List (List Int)) := planFrom v l (v.trams.length + 1) 0
def moveOf (v : Net) : List (List Int) × List Int × Int := if netErr v = 0 then (match bestPlan v (truths v []) with | some p => (p, movedOf v p, 0) | none => ([], [], 9)) else ([], [], netErr v)
def closedAt (r : Int) (s : State) : Bool := (s.closed[r.toNat]?).getD false
def sureS (v : Net) (l : List State) : List Int := (numbers 0 v.rails.length).filter fun r => l.all (closedAt r)
def mayS (v : Net) (l : List State) : List Int := (numbers 0 v.rails.length).filter fun r => l.any (closedAt r)
def shutOf (v : Net) : List Int × List Int × Int := if netErr v = 0 then (sureS v (truths v []), mayS v (truths v []), 0) else ([], [], netErr v)
def cutOff (v : Net) (r : Int) : Int := (((List.range v.trams.length).filter fun t => (waysOf v (fromAt v t) [r]).isEmpty).length : Int)
def hurtGo (v : Net) : List Int → Int × Int → Int × Int
 | [], b => b
 | r :: l, b => hurtGo v l (if (railAt v r).shut = 1 then b else if b.1 < 0 ∨ b.2 < cutOff v r then (r, cutOff v r) else b)
def hurtsIn (v : Net) : Int × Int := hurtGo v (numbers 0 v.rails.length) (-1, 0)
def hurtsOf (v : Net) : Int × Int × Int := if (check v).2.2 = 0 then (if (hurtsIn v).1 < 0 then (0, 0, 9) else ((hurtsIn v).1, (hurtsIn v).2, 0)) else (0, 0, (check v).2.2)
def wrongL (v : Net) : List Int := (firstFrom (someB v) v.seen.length v.seen.length 0).getD (((choices v.seen.length v.seen.length)[0]?).getD [])
def wrongOf (v : Net) : List Int × Int := if (check v).2.2 = 0 then (wrongL v, 0) else ([], (check v).2.2)
def nmRed : ByteArray := ⟨#[114, 101, 100]⟩
def nmBlue : ByteArray := ⟨#[98, 108, 117, 101]⟩
def exN (o : Bool) (l : List Seen) : Net := ⟨4, [⟨1, 0, ⟨5, 6⟩, if o then 2 else 0⟩, ⟨2, 1, ⟨4, 4⟩, 0⟩, ⟨2, 0, ⟨12, 12⟩, if o then 0 else 2⟩, ⟨3, 2, ⟨3, 3⟩, 0⟩], [⟨nmRed, 2, 0, 12, [1, 0]⟩, ⟨nmBlue, 3, 0, 24, [3, 1, 0]⟩], l⟩
def exH : Net := exN false []
def exK : Net := exN true []
def exS : Net := exN true [⟨0, -1⟩, ⟨1, 15⟩]
def exT : Net := exN true [⟨0, -1⟩]
theorem x1 : pathsOf exH 3 = ([[3, 2], [3, 1, 0]], 0) := by decide +kernel
theorem x2 : comesR exH 1 = (⟨14, 16⟩, 1, 0) := by decide +kernel
theorem x3 : (comesR exK 1).2 = (0, 0) := by decide +kernel
theorem x4 : (comesR exT 0).2 = (2, 0) := by decide +kernel
theorem x5 : lateOf exK = ([], [0, 1], 0) := by decide +kernel
theorem x6 : firstOf exK = (0, 0) := by decide +kernel
theorem x7 : firstOf exH = (0, 9) := by decide +kernel
theorem x8 : moveOf exK = ([[2], [3, 2]], [0, 1], 0) := by decide +kernel
theorem x9 : shutOf exH = ([], [2], 0) := by decide +kernel
theorem x10 : hurtsOf exH = (3, 1, 0) := by decide +kernel
theorem x11 : wrongOf exS = ([1], 0) := by decide +kernel
theorem x12 : firstOf exS = (0, 8) := by decide +kernel
structure RailOk (v : Net) (r : Rail) : Prop where
 a : 0 ≤ r.a ∧ r.a < v.stations
 b : 0 ≤ r.b ∧ r.b < v.stations
 ne : r.a ≠ r.b
 mins : 1 ≤ r.mins.lo ∧ r.mins.lo ≤ r.mins.hi ∧ r.mins.hi ≤ 20 ∧ r.mins.hi ≤ r.mins.lo + 1
 shut : 0 ≤ r.shut ∧ r.shut ≤ 2
structure Vd (v : Net) : Prop where
 st : 2 ≤ v.stations ∧ v.stations ≤ 5
 nra : v.rails.length ≤ 5
 ra : ∀ r ∈ v.rails, RailOk v r
 ntr : v.trams.length ≤ 3
 tr : ∀ i (h : i < v.trams.length), tramErr v i v.trams[i] = 0
 nse : v.seen.length ≤ 3
 se : ∀ x ∈ v.seen, (0 ≤ x.tram ∧ x.tram < v.trams.length) ∧ -1 ≤ x.minute ∧ x.minute ≤ 400
theorem isSt_iff {v : Net} {s : Int} : isSt v s = true ↔ 0 ≤ s ∧ s < v.stations := by
 rw [isSt, inR_iff]; omega
theorem rail_zero {v : Net} {r : Rail} : railErr v r = 0 ↔ RailOk v r := by
 constructor
 ·intro h
  unfold railErr at h
  split at h
  ·omega
  rename_i h1
  split at h
  ·omega
  rename_i h2
  split at h
  ·omega
  rename_i h3
  split at h
  ·omega
  rename_i h4
  rw [not_or, Bool.not_eq_false, Bool.not_eq_false, isSt_iff, isSt_iff] at h1
  rw [not_or, Bool.not_eq_false, inR_iff] at h3
  rw [not_or, Decidable.not_not] at h4
  have := ends_zero h4.1
  exact ⟨h1.1, h1.2, h2, by omega, h3.2⟩
 ·intro h
  have h1 := h.mins
  have e := ends_of (show 1 ≤ r.mins.lo ∧ r.mins.lo ≤ r.mins.hi ∧ r.mins.hi ≤ 20 by omega)
  rw [railErr, if_neg (by simp [isSt_iff.2 h.a, isSt_iff.2 h.b]), if_neg h.ne, if_neg (by simp [e, inR_iff.2 h.shut]), if_neg (by simp [e]; omega)]
theorem vd_of_check {v : Net} (h : (check v).2.2 = 0) : Vd v := by
 unfold check at h
 split at h
 ·simp at h
 rename_i c1
 unfold check2 at h
 split at h
 ·simp at h
 rename_i c2
 split at h
 ·rename_i i e he; exact absurd h (firstBad_nz he)
 rename_i f2
 unfold check3 at h
 split at h
 ·simp at h
 rename_i c3
 split at h
 ·rename_i i e he; exact absurd h (firstBad_nz he)
 rename_i f3
 unfold check4 at h
 split at h
 ·simp at h
 rename_i c4
 split at h
 ·rename_i i e he; exact absurd h (firstBad_nz he)
 rename_i f4
 rw [Bool.not_eq_false, inR_iff] at c1
 refine ⟨c1, by omega, ?_, by omega, fun i hi => by simpa using firstBad_all f3 i hi, by omega, ?_⟩
 ·intro x hx
  obtain ⟨k, hk, rfl⟩ := List.getElem_of_mem hx
  exact rail_zero.1 (firstBad_all f2 k hk)
 ·intro x hx
  obtain ⟨k, hk, rfl⟩ := List.getElem_of_mem hx
  have := firstBad_all f4 k hk
  unfold seenErr at this
  split at this
  ·omega
  rename_i hi
  split at this
  ·omega
  rename_i hj
  rw [Bool.not_eq_false, inR_iff] at hi hj
  omega
structure TramOk (v : Net) (t : Tram) : Prop where
 frm : 0 ≤ t.frm ∧ t.frm < v.stations
 leaves : 0 ≤ t.leaves ∧ t.leaves ≤ 60
 due : 0 ≤ t.due ∧ t.due ≤ 400
 len : 1 ≤ t.path.length ∧ t.path.length ≤ 4
 path : ∀ r ∈ t.path, 0 ≤ r ∧ r < v.rails.length
 leads : leadsB v t.frm t.path = true
theorem tram2_ok {v : Net} {t : Tram} (h : tramErr2 v t = 0) : TramOk v t := by
 unfold tramErr2 at h
 split at h
 ·omega
 rename_i h1
 split at h
 ·omega
 rename_i h2
 split at h
 ·omega
 rename_i h3
 split at h
 ·omega
 rename_i h4
 split at h
 ·omega
 rename_i h5
 rw [Bool.not_eq_false] at h1 h3 h4 h5
 rw [not_or, Bool.not_eq_false, Bool.not_eq_false, inR_iff, inR_iff] at h2
 rw [isSt_iff] at h1
 rw [inR_iff] at h3
 rw [List.all_eq_true] at h4
 exact ⟨h1, h2.1, h2.2, by omega, fun r hr => by have := inR_iff.1 (h4 r hr); omega, h5⟩
theorem tr_ok {v : Net} (h : Vd v) {i : Nat} (hi : i < v.trams.length) : TramOk v v.trams[i] := by
 have := h.tr i hi
 unfold tramErr at this
 split at this
 ·exact tram2_ok this
 ·rename_i h0; exact absurd this h0
theorem rail_at {v : Net} {r : Nat} (h : r < v.rails.length) : railAt v (r : Int) = v.rails[r] := by simp [railAt, h]
theorem append_at {σ : St} {sz b : Nat} {xs ys : List AV} {ex f : Bool} {t : Nat} {tk : Option Nat} (h : AppOk sz b xs ys) (h0 : ys.length ≠ 0) (n : Nat) (hn : n = xs.length) (ht : σ[t]? = some (.tok sz n ex)) :
  appendAV sz b σ (.lit xs false (some t)) (.lit ys f tk) = some (.lit (xs ++ ys) false (some t), σ.set t (.tok sz (n + ys.length) true)) := by
 subst hn
 exact app_tok h h0 ht
theorem T_sapp (m : Nat) : ∀ (σ a b c : St), EqS m (σ ++ a) (σ ++ b) (σ ++ c) = EqS m a b c
 | [], a, b, c => rfl
 | x :: σ, a, b, c => by simp only [List.cons_append, EqS, T_sapp m σ a b c, true_or, true_and, and_self]
theorem and1 (a : Nat) (h : a < 9223372036854775808) : Go.Am.bits .and .i64 (a : Int) 1 = ((a % 2 : Nat) : Int) := by
 have e1 : (BitVec.ofInt 64 (a : Int) &&& BitVec.ofInt 64 1).toNat = a % 2 := by
  rw [BitVec.toNat_and]
  have h1 : (BitVec.ofInt 64 (a : Int)).toNat = a := by
   rw [BitVec.toNat_ofInt]
   omega
  have h2 : (BitVec.ofInt 64 1).toNat = 1 := by decide
  rw [h1, h2, Nat.and_one_is_mod]
 show IntKind.i64.wrap (((BitVec.ofInt 64 (a : Int) &&& BitVec.ofInt 64 1).toNat : Nat) : Int) = _
 rw [e1]
 exact wrap64 ⟨by omega, by omega⟩
theorem V_and1 (a : Nat) (h : a < 9223372036854775808) : binAV .and (.int .i64 (a : Int)) (.int .i64 1) = some (.int .i64 ((a % 2 : Nat) : Int)) := by
 simp [binAV, binInt, and1 a h]
theorem V_shr (a i : Nat) (h : i ≤ 60) : binAV .shr (.int .i64 (a : Int)) (.int .i64 (i : Int)) = some (.int .i64 ((a / 2 ^ i : Nat) : Int)) := by
 have hm : Nat.min i 64 = i := Nat.min_eq_left (by omega)
 have h0 : ¬ (i : Int) < 0 := by omega
 simp only [binAV, h0, if_false, IntKind.bits, Int.toNat_natCast, hm, Option.some.injEq, AV.int.injEq, true_and]
 rw [Int.fdiv_eq_ediv_of_nonneg _ (Int.pow_nonneg (by omega))]
 norm_cast
theorem T_sapp0 (m : Nat) (σ b c : St) : EqS m σ (σ ++ b) (σ ++ c) = EqS m [] b c := by have := T_sapp m σ [] b c; rwa [List.append_nil] at this
def Does (T : FuncId → Option AFunc) (f : AV) (args : List AV) (σ : St) (v : AV) (σ' : St) : Prop := Run T (.callv f args σ) fun o => o.v = v ∧ o.σ = σ'
theorem callK_do {f : AV} {args : List AV} {v : AV} {σ σ' : St} {K : AV → St → Prop} (h : Does T f args σ v σ') (k : K v σ') : cK (K := ⟨K⟩) T f args σ := .mono h fun o ho => by rw [ho.1, ho.2]; exact k
theorem flat_zeros (n : Nat) : (List.replicate n [AV.int .i64 0]).flatten = List.replicate n (.int .i64 0) := by
 induction n with
 | zero => rfl
 | succ n ih => simp [List.replicate_succ, ih]
theorem ints_cells (l : List Int) : (l.map (AV.int .i64)).flatMap AV.cells = l.map (.int .i64) := by
 induction l with
 | nil => rfl
 | cons x l ih => simp only [List.map_cons, List.flatMap_cons, ih, AV.cells]; rfl
theorem V_lookS (z v : AV) : vLook true z (some (some v)) = some (.tuple [v, .bool true]) := rfl
theorem V_lookN (z : AV) : vLook true z (some none) = some (.tuple [z, .bool false]) := rfl
theorem eqS_set (k : Nat) (x : ABlk) (hx : okBlk k x) : ∀ (A a b c : St) (i : Nat), EqS k (A ++ a) (A.set i x ++ b) (A.set i x ++ c) = EqS k a b c
 | [], a, b, c, i => by simp
 | y :: A, a, b, c, 0 => by
  simp only [List.set_cons_zero, List.cons_append, EqS, T_sapp, hx, or_true, true_and, and_self]
 | y :: A, a, b, c, i + 1 => by
  have := eqS_set k x hx A a b c i
  simp only [List.set_cons_succ, List.cons_append, EqS, this, true_or, true_and, and_self]
theorem C_yield (i : Nat) : cellsOk 1 (.yield i) = true := by simp [cellsOk, AV.cells, AV.cell]
theorem K_yield (i : Nat) : (AV.yield i).cells = [.yield i] := by simp [AV.cells]
theorem rK_range {f : AOpd} {g : FuncId} {first cap : List AV} {ps : List Nat} {a b : ACode} {e : Env} {σ : St} {K : KJ} {R : Out → Prop} (hf : f.ev e = .func g first cap)
  (h : Run T (.call g (first ++ [.yield σ.length] ++ cap) (σ ++ [.loop .ready none e ps a b])) R)
  (h1 : ∀ o, R o → ∃ st pend env' ps' a' b', o.σ[σ.length]? = some (.loop st pend env' ps' a' b') ∧ st ≠ .busy ∧ K pend e (o.σ.set σ.length .dead)) : rK (K := ⟨K⟩) T (.rangeFunc f ps a b) e σ := .rangeFunc hf h h1
theorem append_intT {σ : St} {l : List Int} {a : Int} {ex : Bool} {t : Nat} (hn : l.length < 100) (ht : σ[t]? = some (.tok 1 l.length ex)) : appendAV 1 8 σ (.lit (l.map (.int .i64)) false (some t)) (.lit [.int .i64 a] true none) = some (.lit ((l ++ [a]).map (.int .i64)) false (some t), σ.set t (.tok 1 (l.length + 1) true)) := by
 rw [app_tok (ex := ex) ⟨L_allM 1 _ l (fun x => C_int _ _), by simp [allCells, AV.cells, AV.cell], by simp [room]; omega, by simp [room]; omega⟩ (by simp) (by simpa using ht)]
 simp
theorem ok_datas {vs : List AV} (h : Datas vs) (m : Nat) : okVs m vs := okVs_up _ h.1
theorem ok_data {v : AV} (h : Data v) (m : Nat) : okV m v := (ok_datas (datas_cons h datas_nil) m).1
end Go.Am.Room
set_option maxRecDepth 4000
namespace Go.Am.Room
def enc3 (x : Int × Int × Int) : AV := .tuple [.int .i64 x.1, .int .i64 x.2.1, .int .i64 x.2.2]
def walkGo (v : Net) : List Int → Int → List Int → Option Int
 | [], s, _ => some s
 | r :: l, s, met => if s = 0 ∨ overOf (railAt v r) s < 0 ∨ met.contains (overOf (railAt v r) s) = true then none else walkGo v l (overOf (railAt v r) s) (met ++ [overOf (railAt v r) s])
def wholeB (v : Net) (s : Int) (p : List Int) : Bool := match walkGo v p s [s] with | some o => o == 0 && !p.isEmpty | none => false
def beginsB (v : Net) (s : Int) (p : List Int) : Bool := match walkGo v p s [s] with | some o => !(o == 0) | none => false
theorem leadsGo_walk (v : Net) : ∀ (l : List Int) (s : Int) (met : List Int), s ≠ 0 → leadsGo v l s met = (match walkGo v l s met with | some o => o == 0 | none => false)
 | [], s, met, h => by simp [leadsGo, walkGo]
 | r :: l, s, met, h => by
  simp only [leadsGo, walkGo]
  obtain ⟨o, ho⟩ : ∃ o, overOf (railAt v r) s = o := ⟨_, rfl⟩
  rw [ho]
  by_cases h1 : o < 0
  ·simp [h1]
  ·by_cases h2 : met.contains o = true
   ·rw [if_pos (.inr (.inl h2)), if_pos (.inr (.inr h2))]
   ·by_cases h3 : o = 0
    ·subst h3
     rw [if_neg (show ¬ (s = 0 ∨ (0 : Int) < 0 ∨ met.contains 0 = true) from fun q => by rcases q with q | q | q; exact h q; omega; exact h2 q)]
     cases l with
     | nil => rw [if_neg (by simp only [ne_eq, not_true_eq_false, and_false, or_false]; exact fun q => by rcases q with q | q; omega; exact h2 q)]; simp [leadsGo, walkGo]
     | cons x l => rw [if_pos (.inr (.inr ⟨rfl, by simp⟩))]; simp [walkGo]
    ·rw [if_neg (fun q => by rcases q with q | q | q; exact h1 q; exact h2 q; exact h3 q.1), if_neg (fun q => by rcases q with q | q | q; exact h q; exact h1 q; exact h2 q)]
     exact leadsGo_walk v l o _ h3
theorem leads_whole {v : Net} {s : Int} {p : List Int} (h : 1 ≤ p.length ∧ p.length ≤ 4) : leadsB v s p = wholeB v s p := by
 have h1 : inR p.length 1 4 = true := inR_iff.2 (by omega)
 have he : p.isEmpty = false := by cases p <;> simp at h ⊢
 rw [leadsB, wholeB, he]
 by_cases hs : s = 0
 ·rw [if_pos (.inr hs), hs]
  cases p with
  | nil => simp at he
  | cons x l => simp [walkGo]
 ·rw [if_neg (by simp [h1, hs]), leadsGo_walk v p s [s] hs]
  cases walkGo v p s [s] <;> simp
theorem walk_pre (v : Net) (r : Int) (t : List Int) : ∀ (l : List Int) (s : Int) (met : List Int) (x : Int), walkGo v (l ++ r :: t) s met = some x → ∃ o, walkGo v l s met = some o ∧ o ≠ 0
 | [], s, met, x, h => by
  simp only [List.nil_append, walkGo] at h
  split at h
  ·cases h
  ·rename_i hn
   exact ⟨s, rfl, fun e => hn (.inl e)⟩
 | y :: l, s, met, x, h => by
  simp only [List.cons_append, walkGo] at h ⊢
  split at h
  ·cases h
  ·rename_i hn
   rw [if_neg hn]
   exact walk_pre v r t l _ _ x h
theorem over_end {r : Rail} {s : Int} (h : ¬ overOf r s < 0) : (s = r.a ∧ overOf r s = r.b) ∨ (s = r.b ∧ overOf r s = r.a) := by
 unfold overOf at h ⊢
 split
 ·rename_i h1; exact .inl ⟨h1, rfl⟩
 ·rename_i h1
  rw [if_neg h1] at h
  split
  ·rename_i h2; exact .inr ⟨h2, rfl⟩
  ·rename_i h2
   rw [if_neg h2] at h
   omega
theorem walk_met (v : Net) (r : Int) : ∀ (l : List Int) (s : Int) (met : List Int), (railAt v r).a ∈ met → (railAt v r).b ∈ met → r ∈ l → walkGo v l s met = none
 | [], s, met, _, _, h => by cases h
 | y :: l, s, met, ha, hb, h => by
  simp only [walkGo]
  split
  ·rfl
  ·rename_i hn
   rcases List.mem_cons.1 h with rfl | h
   ·exfalso
    rw [not_or, not_or] at hn
    obtain ⟨h1, h2, h3⟩ := hn
    apply h3
    rw [List.contains_iff_mem]
    rcases over_end h2 with ⟨_, e⟩ | ⟨_, e⟩ <;> rw [e] <;> assumption
   ·exact walk_met v r l _ _ (List.mem_append_left _ ha) (List.mem_append_left _ hb) h
theorem walk_nodup (v : Net) : ∀ (l : List Int) (s : Int) (met : List Int) (x : Int), s ∈ met → walkGo v l s met = some x → l.Nodup
 | [], s, met, x, _, _ => List.nodup_nil
 | y :: l, s, met, x, hs, h => by
  simp only [walkGo] at h
  split at h
  ·cases h
  ·rename_i hn
   rw [not_or, not_or] at hn
   obtain ⟨h1, h2, h3⟩ := hn
   have hm : overOf (railAt v y) s ∈ met ++ [overOf (railAt v y) s] := by simp
   have hs' : s ∈ met ++ [overOf (railAt v y) s] := List.mem_append_left _ hs
   refine List.nodup_cons.2 ⟨fun hy => ?_, walk_nodup v l _ _ x hm h⟩
   have hab : (railAt v y).a ∈ met ++ [overOf (railAt v y) s] ∧ (railAt v y).b ∈ met ++ [overOf (railAt v y) s] := by
    rcases over_end h2 with ⟨e1, e2⟩ | ⟨e1, e2⟩
    ·rw [← e1, ← e2]; exact ⟨hs', hm⟩
    ·rw [← e1, ← e2]; exact ⟨hm, hs'⟩
   rw [walk_met v y l _ _ hab.1 hab.2 hy] at h
   cases h
def butL (b : Int) : List Int := if b < 0 then [] else [b]
def railOkP (v : Net) (b r : Int) : Bool := !(r == b) && !decide ((railAt v r).shut = 1)
def extP (v : Net) (b : Int) (l : List Int) : List (List Int) := ((numbers 0 v.rails.length).filter (railOkP v b)).map fun r => l ++ [r]
def moreP (v : Net) (s b : Int) : Nat → List (List Int)
 | 0 => [[]]
 | k + 1 => (moreP v s b k).flatMap fun l => (extP v b l).filter (beginsB v s)
def allP (v : Net) (s b : Int) : Nat → List (List Int)
 | 0 => []
 | k + 1 => allP v s b k ++ (moreP v s b k).flatMap fun l => (extP v b l).filter (wholeB v s)
theorem moreW_len (v : Net) (but : List Int) : ∀ k, ∀ l ∈ moreW v but k, l.length = k
 | 0, l, h => by simp [moreW] at h; simp [h]
 | k + 1, l, h => by
  simp only [moreW, List.mem_flatMap, extW, List.mem_map] at h
  obtain ⟨a, ha, r, _, rfl⟩ := h
  simp [moreW_len v but k a ha]
theorem filter_flatMap' {α β : Type} (p : β → Bool) (f : α → List β) : ∀ l : List α, (l.flatMap f).filter p = l.flatMap fun x => (f x).filter p
 | [] => rfl
 | x :: l => by rw [List.flatMap_cons, List.filter_append, filter_flatMap' p f l, List.flatMap_cons]
theorem flatMap_filter' {α β : Type} (p : α → Bool) (f : α → List β) : ∀ l : List α, (l.filter p).flatMap f = l.flatMap fun x => if p x = true then f x else []
 | [] => rfl
 | x :: l => by
  rw [List.flatMap_cons, List.filter_cons, ← flatMap_filter' p f l]
  split <;> simp
theorem ext_filter {v : Net} {s b : Int} {q : List Int → Bool} {l : List Int} (h : ∀ r, q (l ++ [r]) = true → beginsB v s l = true ∧ r ∉ l) : (extW v (butL b) l).filter q = if beginsB v s l = true then (extP v b l).filter q else [] := by
 have e : (extW v (butL b) l).filter q = (extP v b l).filter q := by
  simp only [extW, extP, List.filter_map, List.filter_filter]
  congr 1
  refine List.filter_congr fun r hr => ?_
  have hr0 := (numbers_mem _ _ _).1 hr
  simp only [Function.comp_def]
  cases hq : q (l ++ [r]) with
  | false => simp
  | true =>
   have hc : l.contains r = false := by rw [Bool.eq_false_iff, Ne, List.contains_iff_mem]; exact (h r hq).2
   have hb : (butL b).contains r = (r == b) := by
    unfold butL
    split
    ·rw [Bool.eq_iff_iff]; simp; omega
    ·rw [Bool.eq_iff_iff]; simp
   simp only [railOk, railOkP, hc, hb, Bool.true_and, Bool.not_false, Bool.and_true]
   rw [Bool.and_comm]
 rw [e]
 split
 ·rfl
 ·rename_i hb
  rw [List.filter_eq_nil_iff]
  intro x hx
  simp only [extP, List.mem_map] at hx
  obtain ⟨r, _, rfl⟩ := hx
  intro hq
  exact hb (h r hq).1
theorem begins_pre {v : Net} {s : Int} {l : List Int} {r : Int} (h : beginsB v s (l ++ [r]) = true) : beginsB v s l = true ∧ r ∉ l := by
 unfold beginsB at h
 split at h
 ·rename_i o ho
  obtain ⟨x, hx, h0⟩ := walk_pre v r [] l s [s] o ho
  refine ⟨by simp [beginsB, hx, h0], ?_⟩
  have := walk_nodup v _ s [s] o (by simp) ho
  rw [List.nodup_append] at this
  intro hm
  exact this.2.2 r hm r (by simp) rfl
 ·cases h
theorem whole_pre {v : Net} {s : Int} {l : List Int} {r : Int} (h : wholeB v s (l ++ [r]) = true) : beginsB v s l = true ∧ r ∉ l := by
 unfold wholeB at h
 split at h
 ·rename_i o ho
  obtain ⟨x, hx, h0⟩ := walk_pre v r [] l s [s] o ho
  refine ⟨by simp [beginsB, hx, h0], ?_⟩
  have := walk_nodup v _ s [s] o (by simp) ho
  rw [List.nodup_append] at this
  intro hm
  exact this.2.2 r hm r (by simp) rfl
 ·cases h
theorem moreP_eq {v : Net} {s b : Int} (hs : s ≠ 0) : ∀ k, moreP v s b k = (moreW v (butL b) k).filter (beginsB v s)
 | 0 => by
  have h : beginsB v s [] = true := by simp [beginsB, walkGo, hs]
  simp only [moreP, moreW, List.filter_cons, h, if_true, List.filter_nil]
 | k + 1 => by
  simp only [moreP, moreW]
  rw [moreP_eq hs k, filter_flatMap', flatMap_filter']
  congr 1
  funext l
  exact (ext_filter fun r => begins_pre).symm
theorem allP_eq {v : Net} {s b : Int} (hs : s ≠ 0) : ∀ k, k ≤ 4 → allP v s b k = waysUp v s (butL b) k
 | 0, _ => rfl
 | k + 1, hk => by
  simp only [allP, waysUp, moreW]
  rw [allP_eq hs k (by omega), moreP_eq hs k, flatMap_filter']
  congr 1
  have e : ((moreW v (butL b) k).flatMap (extW v (butL b))).filter (leadsB v s) = ((moreW v (butL b) k).flatMap (extW v (butL b))).filter (wholeB v s) := by
   refine List.filter_congr fun l hl => ?_
   have := moreW_len v (butL b) (k + 1) l hl
   exact leads_whole (by omega)
  rw [e, filter_flatMap']
  congr 1
  funext l
  exact (ext_filter fun r => whole_pre).symm
theorem ways_zero (v : Net) (but : List Int) : waysOf v 0 but = [] := by
 have key : ∀ k, waysUp v 0 but k = [] := by
  intro k
  induction k with
  | zero => rfl
  | succ k ih =>
   rw [waysUp, ih, List.nil_append, List.filter_eq_nil_iff]
   intro l _
   simp [leadsB]
 exact key 4
theorem waysP (v : Net) {s b : Int} (hs : s ≠ 0) : allP v s b 4 = waysOf v s (butL b) := allP_eq hs 4 (Nat.le_refl _)
def FreeIs (ss : List Stay) (rail m s t : Int) : Prop := s ≤ t ∧ ss.any (clash rail t m) = false ∧ ∀ y, s ≤ y → y < t → ss.any (clash rail y m) = true
theorem free_uniq {ss : List Stay} {rail m s t u : Int} (h : FreeIs ss rail m s t) (k : FreeIs ss rail m s u) : t = u := by
 obtain ⟨h1, h2, h3⟩ := h
 obtain ⟨k1, k2, k3⟩ := k
 by_cases a : t < u
 ·rw [k3 t h1 a] at h2; cases h2
 ·by_cases b : u < t
  ·rw [h3 u k1 b] at k2; cases k2
  ·omega
theorem clash_til {ss : List Stay} {rail m s B : Int} (hB : ∀ x ∈ ss, x.til ≤ B) (h : ss.any (clash rail s m) = true) : s < B := by
 rw [List.any_eq_true] at h
 obtain ⟨x, hx, hc⟩ := h
 have := hB x hx
 simp [clash] at hc
 omega
theorem freeGo_is {ss : List Stay} {rail m B : Int} (hB : ∀ x ∈ ss, x.til ≤ B) : ∀ (k : Nat) (s : Int), B ≤ s + k → FreeIs ss rail m s (freeGo ss rail m k s)
 | 0, s, h => ⟨by simp [freeGo], by
   rw [freeGo, Bool.eq_false_iff]
   intro hc
   have := clash_til hB hc
   omega, fun y h1 h2 => by simp [freeGo] at h2; omega⟩
 | k + 1, s, h => by
  rw [freeGo]
  split
  ·rename_i hc
   obtain ⟨h1, h2, h3⟩ := freeGo_is hB k (s + 1) (by omega)
   refine ⟨by omega, h2, fun y q1 q2 => ?_⟩
   by_cases e : y = s
   ·subst e; exact hc
   ·exact h3 y (by omega) q2
  ·rename_i hc
   exact ⟨Int.le_refl _, by simpa using hc, fun y q1 q2 => by omega⟩
theorem freeOf_is {ss : List Stay} {rail m B s : Int} (hB : ∀ x ∈ ss, x.til ≤ B) (h : B ≤ s + 1000) : FreeIs ss rail m s (freeOf ss rail s m) := freeGo_is hB 1000 s h
theorem free_le {ss : List Stay} {rail m B s t : Int} (hB : ∀ x ∈ ss, x.til ≤ B) (h : FreeIs ss rail m s t) (hs : s ≤ B) : t ≤ B := by
 by_cases e : s = t
 ·omega
 ·have h1 := h.1
  have := clash_til hB (h.2.2 (t - 1) (by omega) (by omega))
  omega
theorem clash_stay {rail m s : Int} {x : Stay} (h : clash rail s m x = true) {y : Int} (h1 : s ≤ y) (h2 : y < x.til) : clash rail y m x = true := by
 simp [clash] at h ⊢
 omega
theorem clash_lt {rail m s : Int} {x : Stay} (h : clash rail s m x = true) : s < x.til := by
 simp [clash] at h
 omega
def BusyTo (ss : List Stay) (rail m s t : Int) : Prop := s ≤ t ∧ ∀ y, s ≤ y → y < t → ss.any (clash rail y m) = true
theorem busy_self (ss : List Stay) (rail m s : Int) : BusyTo ss rail m s s := ⟨Int.le_refl _, fun y h1 h2 => by omega⟩
theorem busy_more {ss : List Stay} {rail m s t u : Int} {x : Stay} (h : BusyTo ss rail m s t) (hx : x ∈ ss) (ht : t ≤ u) (hc : clash rail u m x = true) (hm : ∀ y, t ≤ y → y < u → ss.any (clash rail y m) = true) : BusyTo ss rail m s x.til := by
 have := clash_lt hc
 refine ⟨by have := h.1; omega, fun y h1 h2 => ?_⟩
 by_cases a : y < t
 ·exact h.2 y h1 a
 ·by_cases b : y < u
  ·exact hm y (by omega) b
  ·rw [List.any_eq_true]
   exact ⟨x, hx, clash_stay hc (by omega) h2⟩
theorem busy_free {ss : List Stay} {rail m s t : Int} (h : BusyTo ss rail m s t) (hf : ss.any (clash rail t m) = false) : FreeIs ss rail m s t := ⟨h.1, hf, h.2⟩
theorem busy_le {ss : List Stay} {rail m B s t : Int} (hB : ∀ x ∈ ss, x.til ≤ B) (h : BusyTo ss rail m s t) (hs : s ≤ B) : t ≤ B := by
 by_cases e : s = t
 ·omega
 ·have h1 := h.1
  have := clash_til hB (h.2 (t - 1) (by omega) (by omega))
  omega
structure RunOk (v : Net) (ps : List (List Int)) : Prop where
 len : ps.length = v.trams.length
 few : ∀ p ∈ ps, p.length ≤ 4
 rails : ∀ p ∈ ps, ∀ r ∈ p, 0 ≤ r ∧ r < v.rails.length
def MinsOk (v : Net) (m : Int → Int) : Prop := ∀ r : Int, 0 ≤ r → r < v.rails.length → 0 ≤ m r ∧ m r ≤ 20
structure StaysOk (ss : List Stay) (n : Nat) : Prop where
 len : ss.length ≤ n
 til : ∀ x ∈ ss, x.til ≤ 60 + 20 * n
 frm : ∀ x ∈ ss, 0 ≤ x.frm
theorem stays_up {ss : List Stay} {n k : Nat} (h : StaysOk ss n) (hk : n ≤ k) : StaysOk ss k := ⟨by have := h.len; omega, fun x hx => by have := h.til x hx; omega, h.frm⟩
theorem free_bd {ss : List Stay} {n : Nat} (h : StaysOk ss n) (hn : n ≤ 40) {rail m s : Int} (h0 : 0 ≤ s) (hs : s ≤ 60 + 20 * n) : FreeIs ss rail m s (freeOf ss rail s m) ∧ s ≤ freeOf ss rail s m ∧ freeOf ss rail s m ≤ 60 + 20 * n := by
 have h1 := freeOf_is (rail := rail) (m := m) h.til (show (60 : Int) + 20 * n ≤ s + 1000 by omega)
 exact ⟨h1, h1.1, free_le h.til h1 hs⟩
theorem way_bd {m : Int → Int} {i : Int} : ∀ (l : List Int) (a : Int) (ss : List Stay) (n : Nat), StaysOk ss n → n + l.length ≤ 40 → 0 ≤ a → a ≤ 60 + 20 * n → (∀ r ∈ l, 0 ≤ m r ∧ m r ≤ 20) →
  StaysOk (wayGo m i l a ss).1 (n + l.length) ∧ a ≤ (wayGo m i l a ss).2 ∧ (wayGo m i l a ss).2 ≤ 60 + 20 * (n + l.length : Nat)
 | [], a, ss, n, h, hn, h0, h1, hm => by simp only [wayGo, List.length_nil, Nat.add_zero]; exact ⟨h, Int.le_refl _, h1⟩
 | r :: l, a, ss, n, h, hn, h0, h1, hm => by
  simp only [List.length_cons] at hn ⊢
  obtain ⟨f1, f2, f3⟩ := free_bd (rail := r) (m := m r) h (by omega) h0 h1
  have hmr := hm r (by simp)
  simp only [wayGo]
  obtain ⟨q1, q2, q3⟩ := way_bd (m := m) (i := i) l (freeOf ss r a (m r) + m r) (ss ++ [⟨i, r, freeOf ss r a (m r), freeOf ss r a (m r) + m r⟩]) (n + 1) ⟨by have := h.len; simp; omega, fun x hx => by
   rcases List.mem_append.1 hx with hx | hx
   ·have := h.til x hx; omega
   ·simp only [List.mem_singleton] at hx; subst hx; simp only; omega, fun x hx => by
   rcases List.mem_append.1 hx with hx | hx
   ·exact h.frm x hx
   ·simp only [List.mem_singleton] at hx; subst hx; simp only; omega⟩ (by omega) (by omega) (by omega) (fun x hx => hm x (by simp [hx]))
  rw [show n + (l.length + 1) = n + 1 + l.length by omega]
  exact ⟨q1, by omega, q3⟩
theorem leaves_at {v : Net} {i : Nat} (h : i < v.trams.length) : leavesAt v i = v.trams[i].leaves := by simp [leavesAt, h]
theorem tram_bd {m : Int → Int} {i a : Int} {l : List Int} {ss : List Stay} {n : Nat} (h : StaysOk ss n) (hn : n + l.length ≤ 40) (h0 : 0 ≤ a) (h1 : a ≤ 60) (hm : ∀ r ∈ l, 0 ≤ m r ∧ m r ≤ 20) :
  StaysOk (tramGo m i a l ss).1 (n + l.length) ∧ -1 ≤ (tramGo m i a l ss).2 ∧ (tramGo m i a l ss).2 ≤ 60 + 20 * (n + l.length : Nat) := by
 unfold tramGo
 split
 ·exact ⟨stays_up h (by omega), by simp only; omega, by simp only; omega⟩
 ·obtain ⟨q1, q2, q3⟩ := way_bd (i := i) l a ss n h hn h0 (by omega) hm
  exact ⟨q1, by omega, q3⟩
theorem run_len (v : Net) (m : Int → Int) (ps : List (List Int)) : ∀ k, (runTo v m ps k).2.length = k
 | 0 => rfl
 | k + 1 => by simp [runTo, run_len v m ps k]
theorem path_mem {v : Net} {ps : List (List Int)} (h : RunOk v ps) {i : Nat} (hi : i < v.trams.length) : pathAt ps i ∈ ps := by
 have : i < ps.length := by rw [h.len]; exact hi
 simp [pathAt, this]
theorem run_bd {v : Net} (hv : Vd v) {m : Int → Int} (hm : MinsOk v m) {ps : List (List Int)} (hp : RunOk v ps) : ∀ k, k ≤ v.trams.length → StaysOk (runTo v m ps k).1 (4 * k) ∧ ∀ c ∈ (runTo v m ps k).2, -1 ≤ c ∧ c ≤ 300
 | 0, _ => ⟨⟨by simp [runTo], by simp [runTo], by simp [runTo]⟩, by simp [runTo]⟩
 | k + 1, hk => by
  have hn := hv.ntr
  obtain ⟨h1, h2⟩ := run_bd hv hm hp k (by omega)
  have ht := tr_ok hv (show k < v.trams.length by omega)
  have hpm := path_mem hp (show k < v.trams.length by omega)
  have hpl := hp.few _ hpm
  have h60 := ht.leaves
  rw [← leaves_at (show k < v.trams.length by omega)] at h60
  obtain ⟨q1, q2, q3⟩ := tram_bd (m := m) (i := k) (a := leavesAt v k) (l := pathAt ps k) h1 (by omega) h60.1 h60.2 (fun r hr => by
   have := hp.rails _ hpm r hr
   exact hm r this.1 this.2)
  simp only [runTo]
  refine ⟨stays_up q1 (by omega), fun c hc => ?_⟩
  rcases List.mem_append.1 hc with hc | hc
  ·exact h2 c hc
  ·simp only [List.mem_singleton] at hc
   subst hc
   omega
theorem own_ok {v : Net} (hv : Vd v) : RunOk v (ownOf v) := by
 have key : ∀ p ∈ ownOf v, p.length ≤ 4 ∧ ∀ r ∈ p, 0 ≤ r ∧ r < v.rails.length := by
  intro p hp
  simp only [ownOf, List.mem_map] at hp
  obtain ⟨t, ht, rfl⟩ := hp
  obtain ⟨i, hi, rfl⟩ := List.getElem_of_mem ht
  have := tr_ok hv hi
  exact ⟨this.len.2, this.path⟩
 exact ⟨by simp [ownOf], fun p hp => (key p hp).1, fun p hp => (key p hp).2⟩
theorem foldl_join : ∀ (l : List Int) (s : Span), s.lo ≤ s.hi → (l.foldl join s).lo ≤ s.lo ∧ s.hi ≤ (l.foldl join s).hi ∧ (∀ x ∈ l, (l.foldl join s).lo ≤ x ∧ x ≤ (l.foldl join s).hi) ∧ ((l.foldl join s).lo = s.lo ∨ (l.foldl join s).lo ∈ l) ∧ ((l.foldl join s).hi = s.hi ∨ (l.foldl join s).hi ∈ l)
 | [], s, h => ⟨Int.le_refl _, Int.le_refl _, fun x hx => by simp at hx, .inl rfl, .inl rfl⟩
 | y :: l, s, h => by
  have hj : (join s y).lo ≤ (join s y).hi := by simp only [join]; omega
  obtain ⟨a, b, c, d, e⟩ := foldl_join l (join s y) hj
  simp only [List.foldl_cons]
  have h1 : (join s y).lo ≤ s.lo ∧ (join s y).lo ≤ y ∧ ((join s y).lo = s.lo ∨ (join s y).lo = y) := by simp only [join]; omega
  have h2 : s.hi ≤ (join s y).hi ∧ y ≤ (join s y).hi ∧ ((join s y).hi = s.hi ∨ (join s y).hi = y) := by simp only [join]; omega
  refine ⟨by omega, by omega, fun x hx => ?_, ?_, ?_⟩
  ·rcases List.mem_cons.1 hx with rfl | hx
   ·omega
   ·exact c x hx
  ·rcases d with d | d
   ·rcases h1.2.2 with h | h
    ·left; omega
    ·right; rw [d, h]; simp
   ·right; simp [d]
  ·rcases e with e | e
   ·rcases h2.2.2 with h | h
    ·left; omega
    ·right; rw [e, h]; simp
   ·right; simp [e]
theorem spanL_spec {l : List Int} (h : l ≠ []) : (spanL l).lo ∈ l ∧ (spanL l).hi ∈ l ∧ ∀ x ∈ l, (spanL l).lo ≤ x ∧ x ≤ (spanL l).hi := by
 cases l with
 | nil => exact absurd rfl h
 | cons x l =>
  obtain ⟨a, b, c, d, e⟩ := foldl_join l ⟨x, x⟩ (Int.le_refl _)
  simp only [spanL]
  refine ⟨?_, ?_, fun y hy => ?_⟩
  ·rcases d with d | d
   ·rw [d]; simp
   ·simp [d]
  ·rcases e with e | e
   ·rw [e]; simp
   ·simp [e]
  ·rcases List.mem_cons.1 hy with rfl | hy
   ·exact ⟨a, b⟩
   ·exact c y hy
theorem spanL_sub {l k : List Int} (hl : l ≠ []) (h : ∀ x ∈ l, x ∈ k) : (spanL k).lo ≤ (spanL l).lo ∧ (spanL l).hi ≤ (spanL k).hi := by
 have hk : k ≠ [] := by
  intro e; subst e
  exact absurd (h _ (spanL_spec hl).1) (by simp)
 have a := spanL_spec hl
 have b := spanL_spec hk
 exact ⟨(b.2.2 _ (h _ a.1)).1, (b.2.2 _ (h _ a.2.1)).2⟩
theorem spanL_eq {l k : List Int} (h : ∀ x, x ∈ l ↔ x ∈ k) : spanL l = spanL k := by
 by_cases hl : l = []
 ·subst hl
  have : k = [] := by
   cases k with
   | nil => rfl
   | cons y k => exact absurd ((h y).2 (by simp)) (by simp)
  rw [this]
 ·have hk : k ≠ [] := by
   intro e; subst e
   exact absurd ((h _).1 (spanL_spec hl).1) (by simp)
  have a := spanL_sub hl fun x hx => (h x).1 hx
  have b := spanL_sub hk fun x hx => (h x).2 hx
  obtain ⟨p, q⟩ : (spanL l).lo = (spanL k).lo ∧ (spanL l).hi = (spanL k).hi := ⟨by omega, by omega⟩
  generalize spanL l = x at *
  generalize spanL k = y at *
  cases x; cases y; simp only at p q; rw [p, q]
theorem filter_len {α : Type} {p : α → Bool} {l : List α} : (l.filter p).length = l.length ↔ ∀ x ∈ l, p x = true := by
 rw [List.length_filter_eq_length_iff]
theorem settled_one {α : Type} {p : α → Bool} {l : List α} : settled (l.filter p).length l.length = 1 ↔ ∀ x ∈ l, p x = true := by
 rw [← filter_len]
 unfold settled
 split
 ·rename_i h; simp [h]
 ·rename_i h
  split
  ·simp [h]
  ·simp [h]
theorem settled_two {α : Type} {p : α → Bool} {l : List α} : settled (l.filter p).length l.length = 2 ↔ l ≠ [] ∧ ∀ x ∈ l, p x = false := by
 unfold settled
 split
 ·rename_i h
  simp only [show ¬ (1 : Int) = 2 by omega, false_iff]
  rintro ⟨h1, h2⟩
  rw [filter_len] at h
  cases l with
  | nil => exact h1 rfl
  | cons x l =>
   have a := h x (by simp)
   have b := h2 x (by simp)
   rw [a] at b; cases b
 ·rename_i h
  split
  ·rename_i h0
   simp only [true_iff]
   refine ⟨fun e => ?_, fun x hx => ?_⟩
   ·subst e; simp at h
   ·have := List.eq_nil_of_length_eq_zero h0
    rw [List.filter_eq_nil_iff] at this
    simpa using this x hx
  ·rename_i h0
   simp only [show ¬ (0 : Int) = 2 by omega, false_iff]
   rintro ⟨h1, h2⟩
   apply h0
   rw [List.length_eq_zero_iff, List.filter_eq_nil_iff]
   intro x hx
   simp [h2 x hx]
theorem settled_cases (a b : Nat) : settled a b = 0 ∨ settled a b = 1 ∨ settled a b = 2 := by
 unfold settled; split
 ·simp
 ·split <;> simp
theorem settled_eq {α β : Type} {p : α → Bool} {q : β → Bool} {l : List α} {k : List β} (h1 : ∀ x ∈ l, ∃ y ∈ k, q y = p x) (h2 : ∀ y ∈ k, ∃ x ∈ l, p x = q y) : settled (l.filter p).length l.length = settled (k.filter q).length k.length := by
 have a : settled (l.filter p).length l.length = 1 ↔ settled (k.filter q).length k.length = 1 := by
  rw [settled_one, settled_one]
  constructor
  ·intro h y hy; obtain ⟨x, hx, e⟩ := h2 y hy; rw [← e]; exact h x hx
  ·intro h x hx; obtain ⟨y, hy, e⟩ := h1 x hx; rw [← e]; exact h y hy
 have b : settled (l.filter p).length l.length = 2 ↔ settled (k.filter q).length k.length = 2 := by
  rw [settled_two, settled_two]
  constructor
  ·rintro ⟨hn, h⟩
   refine ⟨fun e => ?_, fun y hy => ?_⟩
   ·subst e
    obtain ⟨x, hx⟩ := List.exists_mem_of_ne_nil l hn
    obtain ⟨y, hy, _⟩ := h1 x hx
    simp at hy
   ·obtain ⟨x, hx, e⟩ := h2 y hy; rw [← e]; exact h x hx
  ·rintro ⟨hn, h⟩
   refine ⟨fun e => ?_, fun x hx => ?_⟩
   ·subst e
    obtain ⟨y, hy⟩ := List.exists_mem_of_ne_nil k hn
    obtain ⟨x, hx, _⟩ := h2 y hy
    simp at hx
   ·obtain ⟨y, hy, e⟩ := h1 x hx; rw [← e]; exact h y hy
 rcases settled_cases (l.filter p).length l.length with h | h | h <;> rcases settled_cases (k.filter q).length k.length with h' | h' | h' <;> simp_all
def chP (r : Rail) : List Int := (if r.shut = 0 then [] else [0]) ++ (if r.shut = 1 then [] else waysIn r.mins)
def leafs : List Rail → List Int → List (List Int)
 | [], l => [l]
 | r :: rs, l => (chP r).flatMap fun n => leafs rs (l ++ [n])
def rlI (c : List Int) (r : Int) : Int := (c[r.toNat]?).getD 0
def effL (s : State) : List Int := (s.closed.zip s.mins).map fun x => if x.1 = true then 0 else x.2
theorem eff_rl {s : State} (h : s.closed.length = s.mins.length) : eff s = rlI (effL s) := by
 funext r
 simp only [eff, rlI, effL, List.getElem?_map, List.getElem?_zip_eq_some, List.zip]
 obtain ⟨i, hi⟩ : ∃ i, r.toNat = i := ⟨_, rfl⟩
 rw [hi]
 by_cases hl : i < s.closed.length
 ·have hm : i < s.mins.length := by omega
  have e : (List.zipWith Prod.mk s.closed s.mins)[i]? = some (s.closed[i], s.mins[i]) := by
   rw [List.getElem?_zipWith]; simp [hl, hm]
  rw [e]
  simp [hl, hm]
 ·have hm : ¬ i < s.mins.length := by omega
  have e : (List.zipWith Prod.mk s.closed s.mins)[i]? = none := by
   rw [List.getElem?_zipWith]; simp [show s.closed.length ≤ i by omega]
  rw [e]
  simp [show s.closed.length ≤ i by omega, show s.mins.length ≤ i by omega]
theorem mem_waysIn {s : Span} {x : Int} : x ∈ waysIn s ↔ s.lo ≤ x ∧ x ≤ s.hi := by
 rw [waysIn, numbers_mem]; omega
theorem get_snoc {l : List Int} {x : Int} {k : Nat} (h : l.length = k) : ((l ++ [x])[k]?).getD 0 = x := by subst h; simp
def CanBe (rs : List Rail) (k : Nat) (c : List Int) : Prop := c.length = k ∧ ∀ i (h : i < k) (hr : i < rs.length), (c[i]?).getD 0 ∈ chP rs[i]
theorem effL_snoc (s : State) (h : s.closed.length = s.mins.length) (c : Bool) (m : Int) : effL ⟨s.closed ++ [c], s.mins ++ [m]⟩ = effL s ++ [if c = true then 0 else m] := by
 simp only [effL, List.zip]
 rw [List.zipWith_append h]
 simp
theorem st_can {rs : List Rail} : ∀ k, k ≤ rs.length → ∀ s ∈ stTo rs k, s.closed.length = k ∧ s.mins.length = k ∧ CanBe rs k (effL s)
 | 0, _, s, h => by
  simp [stTo] at h
  subst h
  exact ⟨rfl, rfl, rfl, fun i h => by omega⟩
 | k + 1, hk, s, h => by
  have hk1 : k < rs.length := by omega
  simp only [stTo, List.getElem?_eq_getElem hk1, List.mem_flatMap, extS, List.mem_map, List.mem_filter] at h
  obtain ⟨s0, hs0, m, hm, c, ⟨_, hc⟩, rfl⟩ := h
  obtain ⟨h1, h2, h3, h4⟩ := st_can k (by omega) s0 hs0
  rw [effL_snoc s0 (by omega)]
  refine ⟨by simp [h1], by simp [h2], by simp [h3], fun i hi hr => ?_⟩
  by_cases e : i = k
  ·subst e
   rw [get_snoc h3]
   simp only [chP, List.mem_append]
   simp only [canC, Bool.not_eq_true', Bool.or_eq_false_iff, Bool.and_eq_false_iff, decide_eq_false_iff_not] at hc
   cases c
   ·simp only [Bool.not_false, false_or, Bool.true_eq_false] at hc
    simp only [Bool.false_eq_true, if_false]
    exact .inr (by rw [if_neg hc.2]; exact hm)
   ·simp only [Bool.true_eq_false, false_or] at hc
    simp only [if_true]
    exact .inl (by rw [if_neg hc.1]; simp)
  ·rw [List.getElem?_append_left (by omega)]
   exact h4 i (by omega) hr
theorem can_st {rs : List Rail} (hr : ∀ r ∈ rs, r.mins.lo ≤ r.mins.hi ∧ 1 ≤ r.mins.lo) : ∀ k, k ≤ rs.length → ∀ c, CanBe rs k c → ∃ s ∈ stTo rs k, effL s = c
 | 0, _, c, h => ⟨⟨[], []⟩, by simp [stTo], by have := h.1; rw [List.length_eq_zero_iff.1 this]; rfl⟩
 | k + 1, hk, c, h => by
  have hk1 : k < rs.length := by omega
  obtain ⟨hl, hc⟩ := h
  obtain ⟨d, x, rfl⟩ : ∃ d x, c = d ++ [x] := by
   rcases List.eq_nil_or_concat c with rfl | ⟨d, x, rfl⟩
   ·simp at hl
   ·exact ⟨d, x, by simp⟩
  have hd : d.length = k := by simpa using hl
  obtain ⟨s, hs, he⟩ := can_st hr k (by omega) d ⟨hd, fun i hi hri => by
   have := hc i (by omega) hri
   rwa [List.getElem?_append_left (by omega)] at this⟩
  have hsl := st_can k (by omega) s hs
  have hx := hc k (by omega) hk1
  rw [get_snoc hd] at hx
  simp only [chP, List.mem_append] at hx
  have hrk := hr _ (List.getElem_mem hk1)
  simp only [stTo, List.getElem?_eq_getElem hk1]
  rcases hx with hx | hx
  ·split at hx
   ·cases hx
   ·rename_i h0
    simp only [List.mem_singleton] at hx
    subst hx
    refine ⟨⟨s.closed ++ [true], s.mins ++ [rs[k].mins.lo]⟩, ?_, by rw [effL_snoc s (by omega), he]; simp⟩
    simp only [List.mem_flatMap, extS, List.mem_map, List.mem_filter]
    exact ⟨s, hs, rs[k].mins.lo, mem_waysIn.2 ⟨Int.le_refl _, hrk.1⟩, true, ⟨by simp, by simp [canC, h0]⟩, rfl⟩
  ·split at hx
   ·cases hx
   ·rename_i h1
    refine ⟨⟨s.closed ++ [false], s.mins ++ [x]⟩, ?_, by rw [effL_snoc s (by omega), he]; simp⟩
    simp only [List.mem_flatMap, extS, List.mem_map, List.mem_filter]
    exact ⟨s, hs, x, hx, false, ⟨by simp, by simp [canC, h1]⟩, rfl⟩
theorem leafs_mem : ∀ (rs : List Rail) (l c : List Int), c ∈ leafs rs l ↔ ∃ t, c = l ++ t ∧ CanBe rs rs.length t
 | [], l, c => by
  simp only [leafs, List.mem_singleton]
  constructor
  ·rintro rfl; exact ⟨[], by simp, rfl, fun i h => by simp at h⟩
  ·rintro ⟨t, rfl, ht, _⟩
   simp at ht
   simp [ht]
 | r :: rs, l, c => by
  simp only [leafs, List.mem_flatMap]
  constructor
  ·rintro ⟨n, hn, hc⟩
   obtain ⟨t, rfl, ht, hx⟩ := (leafs_mem rs _ c).1 hc
   refine ⟨n :: t, by simp, by simp [ht], fun i h hr => ?_⟩
   cases i with
   | zero => exact hn
   | succ i => exact hx i (by simpa using h) (by simpa using hr)
  ·rintro ⟨t, rfl, ht, hx⟩
   cases t with
   | nil => simp at ht
   | cons n t =>
    refine ⟨n, hx 0 (by simp) (by simp), (leafs_mem rs _ _).2 ⟨t, by simp, by simpa using ht, fun i h hr => ?_⟩⟩
    exact hx (i + 1) (by simpa using h) (by simpa using hr)
theorem leafs_len {rs : List Rail} {l c : List Int} (h : c ∈ leafs rs l) : c.length = l.length + rs.length := by
 obtain ⟨t, rfl, ht, _⟩ := (leafs_mem rs l c).1 h
 simp [ht]
theorem chP_ne {r : Rail} (h : 1 ≤ r.mins.lo) : (chP r).Pairwise (· ≠ ·) := by
 have hn : ∀ (n : Nat) (a : Int), (numbers a n).Pairwise (· ≠ ·) := by
  intro n
  induction n with
  | zero => intro a; exact List.Pairwise.nil
  | succ n ih =>
   intro a
   simp only [numbers]
   refine List.Pairwise.cons (fun x hx => ?_) (ih (a + 1))
   have := (numbers_mem _ _ _).1 hx
   omega
 unfold chP
 rw [List.pairwise_append]
 refine ⟨by split <;> simp, by split; exact List.Pairwise.nil; exact hn _ _, fun a ha b hb => ?_⟩
 split at ha
 ·cases ha
 ·simp only [List.mem_singleton] at ha
  subst ha
  split at hb
  ·cases hb
  ·have := mem_waysIn.1 hb; omega
theorem leafs_ne : ∀ (rs : List Rail) (l : List Int), (∀ r ∈ rs, 1 ≤ r.mins.lo) → (leafs rs l).Pairwise (· ≠ ·)
 | [], l, _ => by simp [leafs]
 | r :: rs, l, h => by
  simp only [leafs]
  rw [List.pairwise_flatMap]
  refine ⟨fun n _ => leafs_ne rs _ (fun x hx => h x (by simp [hx])), List.Pairwise.imp ?_ (chP_ne (h r (by simp)))⟩
  intro n m hnm x hx y hy e
  obtain ⟨t, rfl, _⟩ := (leafs_mem _ _ _).1 hx
  obtain ⟨u, hu, _⟩ := (leafs_mem _ _ _).1 hy
  have e2 := e.trans hu
  rw [List.append_assoc, List.append_assoc] at e2
  have := List.append_cancel_left e2
  simp at this
  exact hnm this.1
def comesP (v : Net) (c : List Int) : List Int := comesBy v (ownOf v) (rlI c)
def fitsP (v : Net) (but c : List Int) : Bool := seenOk v but (comesP v c)
def TL (v : Net) (but : List Int) : List (List Int) := (leafs v.rails []).filter (fitsP v but)
theorem comes_eff {s : State} (h : s.closed.length = s.mins.length) (v : Net) : comesOf v s = comesP v (effL s) := by rw [comesOf, comesP, eff_rl h]
theorem states_len {v : Net} {s : State} (h : s ∈ statesOf v) : s.closed.length = v.rails.length ∧ s.mins.length = v.rails.length := by
 have := st_can v.rails.length (Nat.le_refl _) s h
 exact ⟨this.1, this.2.1⟩
theorem states_leaf {v : Net} {s : State} (h : s ∈ statesOf v) : effL s ∈ leafs v.rails [] := by
 have := st_can v.rails.length (Nat.le_refl _) s h
 exact (leafs_mem _ _ _).2 ⟨effL s, by simp, this.2.2⟩
theorem leaf_state {v : Net} (hv : Vd v) {c : List Int} (h : c ∈ leafs v.rails []) : ∃ s ∈ statesOf v, effL s = c := by
 obtain ⟨t, e, ht⟩ := (leafs_mem _ _ _).1 h
 rw [List.nil_append] at e
 subst e
 exact can_st (fun r hr => by have := (hv.ra r hr).mins; omega) v.rails.length (Nat.le_refl _) c ht
theorem truth_TL {v : Net} {bl : List Int} {s : State} (h : s ∈ truths v bl) : effL s ∈ TL v bl := by
 obtain ⟨h1, h2⟩ := List.mem_filter.1 h
 have hl := states_len h1
 refine List.mem_filter.2 ⟨states_leaf h1, ?_⟩
 rw [fitsP, ← comes_eff (by omega)]
 exact h2
theorem TL_truth {v : Net} (hv : Vd v) {bl : List Int} {c : List Int} (h : c ∈ TL v bl) : ∃ s ∈ truths v bl, effL s = c := by
 obtain ⟨h1, h2⟩ := List.mem_filter.1 h
 obtain ⟨s, hs, he⟩ := leaf_state hv h1
 have hl := states_len hs
 refine ⟨s, List.mem_filter.2 ⟨hs, ?_⟩, he⟩
 rw [comes_eff (by omega), he]
 exact h2
theorem truth_len {v : Net} {bl : List Int} {s : State} (h : s ∈ truths v bl) : s.closed.length = v.rails.length ∧ s.mins.length = v.rails.length := states_len (List.mem_filter.1 h).1
theorem TL_some {v : Net} (hv : Vd v) (bl : List Int) : (TL v bl).isEmpty = (truths v bl).isEmpty := by
 rw [Bool.eq_iff_iff, List.isEmpty_iff, List.isEmpty_iff, List.eq_nil_iff_forall_not_mem, List.eq_nil_iff_forall_not_mem]
 constructor
 ·intro h s hs; exact h _ (truth_TL hs)
 ·intro h c hc
  obtain ⟨s, hs, _⟩ := TL_truth hv hc
  exact h s hs
theorem all_TL {v : Net} (hv : Vd v) (bl : List Int) (p : State → Bool) (q : List Int → Bool) (h : ∀ s ∈ truths v bl, p s = q (effL s)) : (truths v bl).all p = (TL v bl).all q := by
 rw [Bool.eq_iff_iff, List.all_eq_true, List.all_eq_true]
 constructor
 ·intro a c hc
  obtain ⟨s, hs, rfl⟩ := TL_truth hv hc
  rw [← h s hs]
  exact a s hs
 ·intro a s hs
  rw [h s hs]
  exact a _ (truth_TL hs)
theorem any_TL {v : Net} (hv : Vd v) (bl : List Int) (p : State → Bool) (q : List Int → Bool) (h : ∀ s ∈ truths v bl, p s = q (effL s)) : (truths v bl).any p = (TL v bl).any q := by
 rw [Bool.eq_iff_iff, List.any_eq_true, List.any_eq_true]
 constructor
 ·rintro ⟨s, hs, a⟩
  exact ⟨_, truth_TL hs, by rw [← h s hs]; exact a⟩
 ·rintro ⟨c, hc, a⟩
  obtain ⟨s, hs, rfl⟩ := TL_truth hv hc
  exact ⟨s, hs, by rw [h s hs]; exact a⟩
def extAll (v : Net) : Nat → List (List Int) → List (List (List Int))
 | 0, p => [p]
 | k + 1, p => (waysOf v (fromAt v p.length) []).flatMap fun w => extAll v k (p ++ [w])
theorem plans_len (v : Net) : ∀ k, ∀ p ∈ plansTo v k, p.length = k
 | 0, p, h => by simp [plansTo] at h; simp [h]
 | k + 1, p, h => by
  simp only [plansTo, List.mem_flatMap, List.mem_map] at h
  obtain ⟨a, ha, w, _, rfl⟩ := h
  simp [plans_len v k a ha]
theorem flatMap_congr' {α β : Type} {f g : α → List β} : ∀ {l : List α}, (∀ x ∈ l, f x = g x) → l.flatMap f = l.flatMap g
 | [], _ => rfl
 | x :: l, h => by rw [List.flatMap_cons, List.flatMap_cons, h x (by simp), flatMap_congr' fun y hy => h y (by simp [hy])]
theorem flatMap_self {α : Type} : ∀ l : List α, (l.flatMap fun x => [x]) = l
 | [] => rfl
 | x :: l => by rw [List.flatMap_cons, flatMap_self l]; rfl
theorem plans_ext (v : Net) : ∀ k j, (plansTo v j).flatMap (extAll v k) = plansTo v (j + k)
 | 0, j => by
  have : extAll v 0 = fun x => [x] := by funext x; rfl
  rw [this, flatMap_self]; rfl
 | k + 1, j => by
  rw [show j + (k + 1) = (j + 1) + k by omega, ← plans_ext v k (j + 1)]
  simp only [plansTo]
  rw [List.flatMap_assoc]
  refine flatMap_congr' fun p hp => ?_
  rw [extAll, plans_len v j p hp, List.flatMap_map]
theorem plans_all (v : Net) : plansOf v = extAll v v.trams.length [] := by
 have := plans_ext v v.trams.length 0
 simp only [plansTo, List.flatMap_cons, List.flatMap_nil, List.append_nil, Nat.zero_add] at this
 exact this.symm
def otherW (v : Net) (t : Nat) (w : List Int) : Nat := if w = pathAt (ownOf v) t then 0 else 1
def mvd (v : Net) (p : List (List Int)) : Nat := (movedOf v p).length
theorem pathAt_app {p : List (List Int)} {t : Nat} (h : t < p.length) (w : List Int) : pathAt (p ++ [w]) t = pathAt p t := by simp [pathAt, List.getElem?_append_left h]
theorem moved_snoc (v : Net) (p : List (List Int)) (w : List Int) : movedOf v (p ++ [w]) = movedOf v p ++ (if w = pathAt (ownOf v) p.length then [] else [(p.length : Int)]) := by
 simp only [movedOf, List.length_append, List.length_cons, List.length_nil, Nat.zero_add, numbers_snoc, List.filter_append, Int.zero_add]
 congr 1
 ·refine List.filter_congr fun t ht => ?_
  have := (numbers_mem _ _ _).1 ht
  rw [pathAt_app (by omega)]
 ·have : pathAt (p ++ [w]) p.length = w := by simp [pathAt]
  simp only [List.filter_cons, List.filter_nil, Int.toNat_natCast, this]
  split <;> rename_i h
  ·split
   ·rename_i e; simp [e] at h
   ·rfl
  ·split
   ·rfl
   ·rename_i e; simp [e] at h
theorem mvd_snoc (v : Net) (p : List (List Int)) (w : List Int) : mvd v (p ++ [w]) = mvd v p + otherW v p.length w := by
 rw [mvd, moved_snoc, List.length_append, mvd, otherW]
 split <;> simp
theorem mvd_ext (v : Net) : ∀ k p, ∀ P ∈ extAll v k p, mvd v p ≤ mvd v P
 | 0, p, P, h => by simp [extAll] at h; subst h; exact Nat.le_refl _
 | k + 1, p, P, h => by
  simp only [extAll, List.mem_flatMap] at h
  obtain ⟨w, _, hP⟩ := h
  have := mvd_ext v k _ P hP
  rw [mvd_snoc] at this
  omega
def dfs (v : Net) (q : List (List Int) → Bool) : Nat → List (List Int) → Nat → Option (List (List Int))
 | 0, p, left => if (decide (left = 0) && q p) = true then some p else none
 | k + 1, p, left => (waysOf v (fromAt v p.length) []).findSome? fun w => if otherW v p.length w ≤ left then dfs v q k (p ++ [w]) (left - otherW v p.length w) else none
theorem find_flat {α β : Type} (q : β → Bool) (f : α → List β) : ∀ l : List α, (l.flatMap f).find? q = l.findSome? fun x => (f x).find? q
 | [] => rfl
 | x :: l => by
  rw [List.flatMap_cons, List.find?_append, List.findSome?_cons, find_flat q f l]
  cases (f x).find? q <;> rfl
theorem findSome_congr' {α β : Type} {f g : α → Option β} : ∀ {l : List α}, (∀ x ∈ l, f x = g x) → l.findSome? f = l.findSome? g
 | [], _ => rfl
 | x :: l, h => by rw [List.findSome?_cons, List.findSome?_cons, h x (by simp), findSome_congr' fun y hy => h y (by simp [hy])]
theorem dfs_find (v : Net) (q : List (List Int) → Bool) : ∀ k p left, dfs v q k p left = (extAll v k p).find? fun P => (mvd v P == mvd v p + left) && q P
 | 0, p, left => by
  have h : decide (left = 0) = (mvd v p == mvd v p + left) := by
   rw [Bool.eq_iff_iff, decide_eq_true_eq, beq_iff_eq]; omega
  simp only [dfs, extAll, List.find?_cons, List.find?_nil]
  rw [← h]
  cases (decide (left = 0) && q p) <;> rfl
 | k + 1, p, left => by
  simp only [dfs, extAll]
  rw [find_flat]
  refine findSome_congr' fun w _ => ?_
  split
  ·rename_i h
   rw [dfs_find v q k, mvd_snoc, show mvd v p + otherW v p.length w + (left - otherW v p.length w) = mvd v p + left by omega]
  ·rename_i h
   symm
   rw [List.find?_eq_none]
   intro P hP
   have := mvd_ext v k _ P hP
   rw [mvd_snoc] at this
   simp only [Bool.and_eq_true, beq_iff_eq]
   omega
def planUp (v : Net) (q : List (List Int) → Bool) : Nat → Nat → Option (List (List Int))
 | 0, _ => none
 | k + 1, m => match dfs v q v.trams.length [] m with | some p => some p | none => planUp v q k (m + 1)
theorem plan_up {v : Net} {l : List State} {q : List (List Int) → Bool} (h : ∀ p ∈ plansOf v, doesB v l p = q p) : ∀ k m, planFrom v l k m = planUp v q k m
 | 0, m => rfl
 | k + 1, m => by
  have e : (plansOf v).find? (planOk v l m) = dfs v q v.trams.length [] m := by
   have hf : ∀ (L : List (List (List Int))) (f g : List (List Int) → Bool), (∀ x ∈ L, f x = g x) → L.find? f = L.find? g := by
    intro L f g
    induction L with
    | nil => intro _; rfl
    | cons x L ih =>
     intro hh
     rw [List.find?_cons, List.find?_cons, hh x (by simp), ih fun y hy => hh y (by simp [hy])]
   rw [dfs_find, ← plans_all]
   refine hf _ _ _ fun p hp => ?_
   have h0 : mvd v [] = 0 := rfl
   rw [planOk, h p hp, h0, Nat.zero_add]
   rfl
  simp only [planFrom, planUp, e]
  cases dfs v q v.trams.length [] m with
  | none => exact plan_up h k (m + 1)
  | some p => rfl
def fineP (v : Net) (ps : List (List Int)) (c : List Int) : Bool := (List.range v.trams.length).all fun t => inTime v t (comeAt (comesBy v ps (rlI c)) t)
def doesP (v : Net) (ps : List (List Int)) : Bool := (TL v []).all (fineP v ps)
theorem does_TL {v : Net} (hv : Vd v) (ps : List (List Int)) : doesB v (truths v []) ps = doesP v ps := by
 refine all_TL hv [] _ _ fun s hs => ?_
 have hl := truth_len hs
 rw [fineBy, fineP, eff_rl (by omega)]
theorem best_up {v : Net} (hv : Vd v) : bestPlan v (truths v []) = planUp v (doesP v) (v.trams.length + 1) 0 := plan_up (fun p _ => does_TL hv p) _ _
theorem moreW_in (v : Net) (but : List Int) : ∀ k, ∀ l ∈ moreW v but k, ∀ r ∈ l, 0 ≤ r ∧ r < v.rails.length
 | 0, l, h, r, hr => by simp [moreW] at h; subst h; cases hr
 | k + 1, l, h, r, hr => by
  simp only [moreW, List.mem_flatMap, extW, List.mem_map, List.mem_filter, numbers_mem] at h
  obtain ⟨a, ha, x, ⟨hx, _⟩, rfl⟩ := h
  rcases List.mem_append.1 hr with hr | hr
  ·exact moreW_in v but k a ha r hr
  ·simp only [List.mem_singleton] at hr; subst hr; omega
theorem waysUp_in {v : Net} {s : Int} {but : List Int} : ∀ k, ∀ l ∈ waysUp v s but k, l.length ≤ k ∧ ∀ r ∈ l, 0 ≤ r ∧ r < v.rails.length
 | 0, l, h => by simp [waysUp] at h
 | k + 1, l, h => by
  simp only [waysUp, List.mem_append, List.mem_filter] at h
  rcases h with h | ⟨h, _⟩
  ·have := waysUp_in k l h
   exact ⟨by omega, this.2⟩
  ·refine ⟨?_, moreW_in v but (k + 1) l h⟩
   have key : ∀ k, ∀ l ∈ moreW v but k, l.length = k := by
    intro k
    induction k with
    | zero => intro l h; simp [moreW] at h; simp [h]
    | succ k ih =>
     intro l h
     simp only [moreW, List.mem_flatMap, extW, List.mem_map] at h
     obtain ⟨a, ha, r, _, rfl⟩ := h
     simp [ih a ha]
   have := key (k + 1) l h
   omega
theorem ways_in {v : Net} {s : Int} {but l : List Int} (h : l ∈ waysOf v s but) : l.length ≤ 4 ∧ ∀ r ∈ l, 0 ≤ r ∧ r < v.rails.length := waysUp_in 4 l h
theorem moreW_cnt (v : Net) (but : List Int) (h5 : v.rails.length ≤ 5) : ∀ k, (moreW v but k).length ≤ 5 ^ k
 | 0 => by simp [moreW]
 | k + 1 => by
  have h := flat_le (extW v but) 5 (moreW v but k) fun l _ => by
   have := List.length_filter_le (railOk v but l) (numbers 0 v.rails.length)
   rw [numbers_len] at this
   simp only [extW, List.length_map]
   omega
  have := moreW_cnt v but h5 k
  rw [Nat.pow_succ]
  simp only [moreW]
  exact Nat.le_trans h (Nat.mul_le_mul_right 5 this)
theorem ways_cnt {v : Net} (h5 : v.rails.length ≤ 5) (s : Int) (but : List Int) : (waysOf v s but).length ≤ 1000 := by
 have c1 := moreW_cnt v but h5 1
 have c2 := moreW_cnt v but h5 2
 have c3 := moreW_cnt v but h5 3
 have c4 := moreW_cnt v but h5 4
 have f := fun (l : List (List Int)) => List.length_filter_le (leadsB v s) l
 have f1 := f (moreW v but 1)
 have f2 := f (moreW v but 2)
 have f3 := f (moreW v but 3)
 have f4 := f (moreW v but 4)
 have e : waysOf v s but = ((([] ++ (moreW v but 1).filter (leadsB v s)) ++ (moreW v but 2).filter (leadsB v s)) ++ (moreW v but 3).filter (leadsB v s)) ++ (moreW v but 4).filter (leadsB v s) := rfl
 rw [e]
 simp only [List.length_append, List.length_nil]
 have p1 : (5 : Nat) ^ 1 = 5 := rfl
 have p2 : (5 : Nat) ^ 2 = 25 := rfl
 have p3 : (5 : Nat) ^ 3 = 125 := rfl
 have p4 : (5 : Nat) ^ 4 = 625 := rfl
 omega
theorem ext_mem {v : Net} : ∀ k p, ∀ P ∈ extAll v k p, P.length = p.length + k ∧ ∀ w ∈ P, w ∈ p ∨ ∃ s, w ∈ waysOf v s []
 | 0, p, P, h => by simp [extAll] at h; subst h; exact ⟨rfl, fun w hw => .inl hw⟩
 | k + 1, p, P, h => by
  simp only [extAll, List.mem_flatMap] at h
  obtain ⟨w, hw, hP⟩ := h
  obtain ⟨h1, h2⟩ := ext_mem k _ P hP
  refine ⟨by rw [h1]; simp; omega, fun x hx => ?_⟩
  rcases h2 x hx with q | q
  ·rcases List.mem_append.1 q with q | q
   ·exact .inl q
   ·simp only [List.mem_singleton] at q
    subst q
    exact .inr ⟨_, hw⟩
  ·exact .inr q
theorem plan_ok {v : Net} {P : List (List Int)} (h : P ∈ plansOf v) : RunOk v P := by
 rw [plans_all] at h
 obtain ⟨h1, h2⟩ := ext_mem _ _ P h
 refine ⟨by simpa using h1, fun p hp => ?_, fun p hp => ?_⟩
 ·rcases h2 p hp with q | ⟨s, q⟩
  ·cases q
  ·exact (ways_in q).1
 ·rcases h2 p hp with q | ⟨s, q⟩
  ·cases q
  ·exact (ways_in q).2
end Go.Am.Room
set_option maxRecDepth 4000
namespace Go.Am.Room
theorem waysUp_cnt {v : Net} (h5 : v.rails.length ≤ 5) (s : Int) (but : List Int) {k : Nat} (hk : k ≤ 4) : (waysUp v s but k).length ≤ 1000 := by
 have st : ∀ j, (waysUp v s but j).length ≤ (waysUp v s but (j + 1)).length := fun j => by simp only [waysUp, List.length_append]; omega
 have := ways_cnt h5 s but
 rw [waysOf] at this
 have a0 : (waysUp v s but 0).length ≤ (waysUp v s but 1).length := st 0
 have a1 : (waysUp v s but 1).length ≤ (waysUp v s but 2).length := st 1
 have a2 : (waysUp v s but 2).length ≤ (waysUp v s but 3).length := st 2
 have a3 : (waysUp v s but 3).length ≤ (waysUp v s but 4).length := st 3
 have : k = 0 ∨ k = 1 ∨ k = 2 ∨ k = 3 ∨ k = 4 := by omega
 rcases this with rfl | rfl | rfl | rfl | rfl <;> omega
def encLLI (x : List (List Int) × Int) : AV := .tuple [intss x.1, .int .i64 x.2]
end Go.Am.Room
set_option maxRecDepth 4000
namespace Go.Am.Room
theorem ways_step {a b : Int} (h : a ≤ b) : numbers a (b + 1 - a).toNat = a :: numbers (a + 1) (b + 1 - (a + 1)).toNat := by
 have : (b + 1 - a).toNat = (b + 1 - (a + 1)).toNat + 1 := by omega
 rw [this, numbers]
theorem ways_end {a b : Int} (h : ¬ a ≤ b) : numbers a (b + 1 - a).toNat = [] := by
 have : (b + 1 - a).toNat = 0 := by omega
 rw [this, numbers]
end Go.Am.Room
set_option maxRecDepth 4000
namespace Go.Am.Room
theorem any_take {α : Type} {p : α → Bool} {l : List α} {k : Nat} (h : k < l.length) : (l.take (k + 1)).any p = ((l.take k).any p || p l[k]) := by
 rw [List.take_succ_eq_append_getElem h, List.any_append]; simp
def Look (ss : List Stay) (rail m s r : Int) (k : Nat) (n : Int) : Prop := (n = r ∧ (ss.take k).any (clash rail r m) = false) ∨ (r < n ∧ BusyTo ss rail m s n)
end Go.Am.Room
set_option maxRecDepth 4000
namespace Go.Am.Room
theorem run_succ (v : Net) (m : Int → Int) (ps : List (List Int)) (k : Nat) : runTo v m ps (k + 1) = ((tramGo m k (leavesAt v k) (pathAt ps k) (runTo v m ps k).1).1, (runTo v m ps k).2 ++ [(tramGo m k (leavesAt v k) (pathAt ps k) (runTo v m ps k).1).2]) := rfl
end Go.Am.Room
set_option maxRecDepth 4000
namespace Go.Am.Room
instance (l : List Bool) : Dats (l.map .bool) := ⟨datas_map data_bool l⟩
def seenTo (v : Net) (but cs : List Int) (n : Nat) : Bool := (List.range n).all fun k => match v.seen[k]? with | some x => but.contains (k : Int) || comeAt cs x.tram == x.minute | none => true
theorem seenTo_all (v : Net) (but cs : List Int) : seenTo v but cs v.seen.length = seenOk v but cs := rfl
theorem seenTo_succ {v : Net} {k : Nat} (hk : k < v.seen.length) (but cs : List Int) : seenTo v but cs (k + 1) = (seenTo v but cs k && (but.contains (k : Int) || comeAt cs v.seen[k].tram == v.seen[k].minute)) := by
 simp [seenTo, List.range_succ, List.all_append, hk]
theorem ofInt_nat {a : Nat} (h : a < 9223372036854775808) : (BitVec.ofInt 64 (a : Int)).toNat = a := by
 rw [BitVec.toNat_ofInt]
 omega
theorem V_or (a b : Nat) (ha : a < 4611686018427387904) (hb : b < 4611686018427387904) : binAV .or (.int .i64 (a : Int)) (.int .i64 (b : Int)) = some (.int .i64 ((a ||| b : Nat) : Int)) := by
 have h1 : (BitVec.ofInt 64 (a : Int) ||| BitVec.ofInt 64 (b : Int)).toNat = a ||| b := by rw [BitVec.toNat_or, ofInt_nat (by omega), ofInt_nat (by omega)]
 have h2 : a ||| b < 2 ^ 62 := Nat.or_lt_two_pow (by omega) (by omega)
 have h3 : Go.Am.bits .or .i64 (a : Int) (b : Int) = ((a ||| b : Nat) : Int) := by
  show IntKind.i64.wrap (((BitVec.ofInt 64 (a : Int) ||| BitVec.ofInt 64 (b : Int)).toNat : Nat) : Int) = _
  rw [h1]
  exact wrap64 ⟨by omega, by omega⟩
 simp [binAV, binInt, h3]
def andN (a b : Nat) : Nat := a &&& (2 ^ 64 - (b + 1))
theorem andN_bit {b : Nat} (hb : b < 9223372036854775808) (a i : Nat) (ha : a < 9223372036854775808) : (andN a b).testBit i = (a.testBit i && !b.testBit i) := by
 rw [andN, Nat.testBit_and, Nat.testBit_two_pow_sub_succ (by omega)]
 by_cases hi : i < 64
 ·simp [hi]
 ·have : a.testBit i = false := Nat.testBit_lt_two_pow (Nat.lt_of_lt_of_le (show a < 2 ^ 63 by omega) (Nat.pow_le_pow_right (by omega) (by omega)))
  simp [this]
theorem andN_le (a b : Nat) : andN a b ≤ a := Nat.and_le_left
theorem V_andNot (a b : Nat) (ha : a < 9223372036854775808) (hb : b < 9223372036854775808) : binAV .andNot (.int .i64 (a : Int)) (.int .i64 (b : Int)) = some (.int .i64 ((andN a b : Nat) : Int)) := by
 have h1 : (BitVec.ofInt 64 (a : Int) &&& ~~~BitVec.ofInt 64 (b : Int)).toNat = andN a b := by
  rw [BitVec.toNat_and, BitVec.toNat_not, ofInt_nat ha, ofInt_nat hb, andN]
  congr 1
  omega
 have h2 := andN_le a b
 have h3 : Go.Am.bits .andNot .i64 (a : Int) (b : Int) = ((andN a b : Nat) : Int) := by
  show IntKind.i64.wrap (((BitVec.ofInt 64 (a : Int) &&& ~~~BitVec.ofInt 64 (b : Int)).toNat : Nat) : Int) = _
  rw [h1]
  exact wrap64 ⟨by omega, by omega⟩
 simp [binAV, binInt, h3]
theorem pow_small {i : Nat} (h : i ≤ 60) : 2 ^ i ≤ 1152921504606846976 := by
 calc 2 ^ i ≤ 2 ^ 60 := Nat.pow_le_pow_right (by omega) h
  _ = 1152921504606846976 := by decide
theorem V_shl1 (i : Nat) (h : i ≤ 60) : binAV .shl (.int .i64 1) (.int .i64 (i : Int)) = some (.int .i64 ((2 ^ i : Nat) : Int)) := by
 have hm : Nat.min i 64 = i := Nat.min_eq_left (by omega)
 have h0 : ¬ (i : Int) < 0 := by omega
 have hp := pow_small h
 have hc : (1 : Int) * 2 ^ i = ((2 ^ i : Nat) : Int) := by rw [Int.one_mul]; exact (Int.natCast_pow 2 i).symm
 simp only [binAV, h0, if_false, IntKind.bits, Int.toNat_natCast, hm, hc]
 generalize 2 ^ i = q at hp
 rw [wrap64 ⟨by omega, by omega⟩]
theorem bit_div (a i : Nat) : a.testBit i = decide (a / 2 ^ i % 2 = 1) := Nat.testBit_eq_decide_div_mod_eq
theorem mem_lst {n s : Nat} {x : Int} : x ∈ lst n s ↔ (0 ≤ x ∧ x < n) ∧ s.testBit x.toNat = true := by
 simp only [lst, List.mem_filter, numbers_mem, bit_div]
 constructor
 ·rintro ⟨h1, h2⟩; exact ⟨by omega, h2⟩
 ·rintro ⟨h1, h2⟩; exact ⟨by omega, h2⟩
theorem has_lst {n s i : Nat} (h : i < n) : (lst n s).contains (i : Int) = s.testBit i := by
 rw [Bool.eq_iff_iff, List.contains_iff_mem, mem_lst]
 simp only [Int.toNat_natCast]
 constructor
 ·rintro ⟨_, h2⟩; exact h2
 ·intro h2; exact ⟨⟨by omega, by omega⟩, h2⟩
theorem nat_eq0 (a : Nat) : ((a : Int) == 0) = decide (a = 0) := by rw [Bool.eq_iff_iff]; simp
structure ButIs (b : Nat) (bl : List Int) : Prop where
 lt : b < 9223372036854775808
 bit : ∀ i : Nat, i < 5 → (((b / 2 ^ i % 2 : Nat) : Int) == 0) = !bl.contains (i : Int)
theorem but0 : ButIs 0 [] := ⟨by omega, fun i hi => by simp⟩
theorem but_lst {n set : Nat} (hn : n ≤ 5) (hs : set < 2 ^ n) : ButIs set (lst n set) := by
 have hp : 2 ^ n ≤ 2 ^ 5 := Nat.pow_le_pow_right (by omega) hn
 refine ⟨by omega, fun i hi => ?_⟩
 have e : (((set / 2 ^ i % 2 : Nat) : Int) == 0) = !set.testBit i := by
  rw [bit_div, nat_eq0, Bool.eq_iff_iff]
  simp
 rw [e]
 by_cases h : i < n
 ·rw [has_lst h]
 ·have h1 : set.testBit i = false := Nat.testBit_lt_two_pow (Nat.lt_of_lt_of_le hs (Nat.pow_le_pow_right (by omega) (by omega)))
  have h2 : (lst n set).contains (i : Int) = false := by
   rw [Bool.eq_false_iff]
   intro hc
   rw [List.contains_iff_mem, mem_lst] at hc
   omega
  rw [h1, h2]
theorem cells_lt {σ : St} {i : Nat} {cs : List AV} (h : cellsAt σ i = some cs) : i < σ.length := by
 unfold cellsAt at h
 by_cases hi : i < σ.length
 ·exact hi
 ·rw [List.getElem?_eq_none (by omega)] at h
  cases h
theorem cells_app {σ : St} {i : Nat} {cs : List AV} (h : cellsAt σ i = some cs) (τ : St) : cellsAt (σ ++ τ) i = some cs := by
 have hl := cells_lt h
 simp only [cellsAt] at h ⊢
 rw [List.getElem?_append_left hl]
 exact h
end Go.Am.Room
namespace Go.Am.Room
structure MemAt {M : Type} (S : M → St) (obj : List AV) (es : M → List (AV × AV)) (p m N : Nat) : Prop where
 len : ∀ M, (S M).length = N
 at0 : ∀ M, cellsAt (S M) p = some obj
 map0 : ∀ M, (S M)[m]? = some (.map (es M))
 mset : ∀ M M', (S M).set m (.map (es M')) = S M'
 ok : ∀ M k, okBlk k (.map (es M))
 pl : p < N
 ml : m < N
namespace MemAt
variable {M : Type} {S : M → St} {obj : List AV} {es : M → List (AV × AV)} {p m N : Nat}
theorem base (h : MemAt S obj es p m N) (A : M) (τ : St) (k : Nat) : cellsAt (S A ++ τ) (N + k) = cellsAt τ k := by rw [← h.len A]; exact M_base _ _ _
theorem base0 (h : MemAt S obj es p m N) (A : M) (τ : St) : cellsAt (S A ++ τ) N = cellsAt τ 0 := h.base A τ 0
theorem bset (h : MemAt S obj es p m N) (A : M) (τ : St) (k : Nat) (x : ABlk) : (S A ++ τ).set (N + k) x = S A ++ τ.set k x := by rw [← h.len A]; exact st_set _ _ _ _
theorem bset0 (h : MemAt S obj es p m N) (A : M) (τ : St) (x : ABlk) : (S A ++ τ).set N x = S A ++ τ.set 0 x := h.bset A τ 0 x
theorem at1 (h : MemAt S obj es p m N) (A : M) (τ : St) : cellsAt (S A ++ τ) p = some (obj) := by
 have := h.at0 A
 have hl := h.pl
 rw [← h.len A] at hl
 simp only [cellsAt] at this ⊢
 rw [List.getElem?_append_left hl]
 exact this
theorem map1 (h : MemAt S obj es p m N) (A : M) (τ : St) : (S A ++ τ)[m]? = some (.map (es A)) := by
 have hl := h.ml
 rw [← h.len A] at hl
 rw [List.getElem?_append_left hl]
 exact h.map0 A
theorem mset1 (h : MemAt S obj es p m N) (A B : M) (τ : St) : (S A ++ τ).set m (.map (es B)) = S B ++ τ := by
 have hl := h.ml
 rw [← h.len A] at hl
 rw [List.set_append_left _ _ hl, h.mset]
theorem keep (h : MemAt S obj es p m N) (A B : M) (i : Nat) (hi : i ≠ m) : (S B)[i]? = (S A)[i]? := by
 rw [← h.mset A B, List.getElem?_set_ne (fun e => hi e.symm)]
theorem kept (h : MemAt S obj es p m N) {A B : M} {σ τ : St} (hσ : σ = S B ++ τ) : ∀ i, i < (S A).length → blkKept (S A) σ (S A).length i := by
 intro i hi
 rw [hσ]
 have hl : i < (S B).length := by rw [h.len] at hi ⊢; exact hi
 by_cases him : i = m
 ·subst him
  refine .inr (.inl ⟨.map (es B), ?_, h.ok B _⟩)
  rw [List.getElem?_append_left hl, h.map0]
 ·refine .inl ?_
  rw [List.getElem?_append_left hl, h.keep A B i him]
theorem app (h : MemAt S obj es p m N) (τ : St) : MemAt (fun A => S A ++ τ) obj es p m (N + τ.length) :=
 ⟨fun A => by rw [List.length_append, h.len], fun A => h.at1 A τ, fun A => h.map1 A τ, fun A B => h.mset1 A B τ, h.ok, by have := h.pl; omega, by have := h.ml; omega⟩
theorem eqS (h : MemAt S obj es p m N) (k : Nat) (A B : M) (x y z : St) : EqS k (S A ++ x) (S B ++ y) (S B ++ z) = EqS k x y z := by
 rw [← h.mset A B]
 exact eqS_set k _ (h.ok B k) _ _ _ _ _
end MemAt
theorem does_memo {M : Type} {S : M → St} {obj : List AV} {es : M → List (AV × AV)} {p m N : Nat} (hR : MemAt S obj es p m N) {f : FuncId} {first cap args : List AV} {af : AFunc} {v : AV} {A B : M} (hf : T f = some af) (hn : (first ++ args ++ cap).length ≤ af.ntmps)
  (h : wp T af.body (argsEnv 0 (first ++ args ++ cap)) (S A) (fun j e σ1 => (j = none ∨ j = some .ret) ∧ ∃ v0 τ, resOf af.results e σ1 = some v0 ∧ σ1 = S B ++ τ ∧ snapM σ1 N 20 v0 = some v)) : Does T (.func f first cap) args (S A) v (S B) := by
 refine .callf (.call hf hn (run_wp h fun o ho => ho) fun o ho => ?_)
 obtain ⟨hj, v0, τ, hres, hσ, h4⟩ := ho
 refine ⟨hj, v0, hres, ?_⟩
 unfold snapM at h4
 cases hs : snap o.σ N 20 v0 with
 | none => rw [hs] at h4; cases h4
 | some v1 =>
  rw [hs] at h4
  simp at h4
  refine .inr ⟨20, v1, v, by rw [hR.len]; exact hs, .inr h4.symm, hR.kept hσ, ?_, rfl, ?_⟩
  ·rw [hσ, List.length_append, hR.len, hR.len]; omega
  ·rw [hσ, hR.len, ← hR.len B, List.take_left]
def iterF {A X : Type} (f : A → X → X × Bool) : List A → X → X × Bool
 | [], x => (x, true)
 | a :: az, x => if (f a x).2 = true then iterF f az (f a x).1 else ((f a x).1, false)
theorem iterF_app {A X : Type} (f : A → X → X × Bool) : ∀ (az bs : List A) (x : X), iterF f (az ++ bs) x = if (iterF f az x).2 = true then iterF f bs (iterF f az x).1 else ((iterF f az x).1, false)
 | [], bs, x => by simp [iterF]
 | a :: az, bs, x => by
  simp only [List.cons_append, iterF]
  split
  ·exact iterF_app f az bs _
  ·simp
structure Fam {X : Type} (Z ZD : X → St) (obj : List AV) (p q N : Nat) : Prop where
 len : ∀ x, (Z x).length = N
 lenD : ∀ x, (ZD x).length = N
 at0 : ∀ x, cellsAt (Z x) p = some obj
 atq0 : ∀ x, cellsAt (Z x) q = some [.ptr p 0]
 keep : ∀ x y k i, N ≤ k → i < N → blkKept (Z x) (Z y) k i
 keepD : ∀ x y k i, N ≤ k → i < N → blkKept (Z x) (ZD y) k i
 pl : p < N
 ql : q < N
namespace Fam
variable {X : Type} {Z ZD : X → St} {obj : List AV} {p q N : Nat}
theorem base (h : Fam Z ZD obj p q N) (x : X) (τ : St) (k : Nat) : cellsAt (Z x ++ τ) (N + k) = cellsAt τ k := by rw [← h.len x]; exact M_base _ _ _
theorem base0 (h : Fam Z ZD obj p q N) (x : X) (τ : St) : cellsAt (Z x ++ τ) N = cellsAt τ 0 := h.base x τ 0
theorem bset (h : Fam Z ZD obj p q N) (x : X) (τ : St) (k : Nat) (y : ABlk) : (Z x ++ τ).set (N + k) y = Z x ++ τ.set k y := by rw [← h.len x]; exact st_set _ _ _ _
theorem bset0 (h : Fam Z ZD obj p q N) (x : X) (τ : St) (y : ABlk) : (Z x ++ τ).set N y = Z x ++ τ.set 0 y := h.bset x τ 0 y
theorem at1 (h : Fam Z ZD obj p q N) (x : X) (τ : St) : cellsAt (Z x ++ τ) p = some obj := by
 have := h.at0 x
 have hl := h.pl
 rw [← h.len x] at hl
 simp only [cellsAt] at this ⊢
 rw [List.getElem?_append_left hl]
 exact this
theorem atq1 (h : Fam Z ZD obj p q N) (x : X) (τ : St) : cellsAt (Z x ++ τ) q = some [.ptr p 0] := by
 have := h.atq0 x
 have hl := h.ql
 rw [← h.len x] at hl
 simp only [cellsAt] at this ⊢
 rw [List.getElem?_append_left hl]
 exact this
def out (Z ZD : X → St) (r : X × Bool) : St := if r.2 = true then Z r.1 else ZD r.1
end Fam
theorem iterF_one {A X : Type} (f : A → X → X × Bool) (a : A) (x : X) : iterF f [a] x = f a x := by
 simp only [iterF]
 obtain ⟨y, bb⟩ := f a x
 cases bb <;> simp
structure Fam1 {X : Type} {M : Type} (Z ZD : X → M → St) (obj : List AV) (es : M → List (AV × AV)) (p m q N : Nat) : Prop where
 ship : ∀ x, MemAt (Z x) obj es p m N
 lenD : ∀ x A, (ZD x A).length = N
 atq0 : ∀ x A, cellsAt (Z x A) q = some [.ptr p 0]
 keep : ∀ x A y B k i, N ≤ k → i < N → blkKept (Z x A) (Z y B) k i
 keepD : ∀ x A y B k i, N ≤ k → i < N → blkKept (Z x A) (ZD y B) k i
 ql : q < N
 pl : p < N
namespace Fam1
variable {X : Type} {M : Type} {Z ZD : X → M → St} {obj : List AV} {es : M → List (AV × AV)} {p m q N : Nat}
theorem atq1 (h : Fam1 Z ZD obj es p m q N) (x : X) (A : M) (τ : St) : cellsAt (Z x A ++ τ) q = some [.ptr p 0] := by
 have := h.atq0 x A
 have hl := h.ql
 rw [← (h.ship x).len A] at hl
 simp only [cellsAt] at this ⊢
 rw [List.getElem?_append_left hl]
 exact this
def out (Z ZD : X → M → St) (r : X × Bool) (A : M) : St := if r.2 = true then Z r.1 A else ZD r.1 A
end Fam1
def YieldsT {X A M : Type} (Z ZD : X → M → St) (id : Nat) (args : A → Bool → Option Nat → List AV) (P : A → Prop) (f : A → X → X × Bool) : Prop :=
 ∀ t, P t → ∀ (fl : Bool) (tk : Option Nat) x B τ, Run T (.callv (.yield id) (args t fl tk) (Z x B ++ τ)) fun o => o.v = .bool (f t x).2 ∧ ∃ τ', o.σ = Fam1.out Z ZD (f t x) B ++ (τ ++ τ')
theorem fam1_of {X : Type} {M : Type} {S : M → St} {obj : List AV} {es : M → List (AV × AV)} {p m N : Nat} (hS : MemAt S obj es p m N) (U UD : X → St) (n : Nat) (hU : ∀ x, (U x).length = n) (hUD : ∀ x, (UD x).length = n) (ok : ∀ x y, y ∈ U x → ∀ k, N ≤ k → okBlk k y) (okD : ∀ x y, y ∈ UD x → ∀ k, N ≤ k → okBlk k y)
  (env : Env) (ps : List Nat) (a bb : ACode) (st st' : LS) (pe pe' : Option AJump) :
  Fam1 (fun x A => S A ++ (U x ++ [.cells [.ptr p 0], .loop st pe env ps a bb])) (fun x A => S A ++ (UD x ++ [.cells [.ptr p 0], .loop st' pe' env ps a bb])) obj es p m (N + n) (N + n + 2) := by
 have hpl := hS.pl
 have low : ∀ (A B : M) (C D : St) (k i : Nat), i < N → blkKept (S A ++ C) (S B ++ D) k i := by
  intro A B C D k i hi
  have e1 : (S A ++ C)[i]? = (S A)[i]? := List.getElem?_append_left (by rw [hS.len]; exact hi)
  have e2 : (S B ++ D)[i]? = (S B)[i]? := List.getElem?_append_left (by rw [hS.len]; exact hi)
  simp only [blkKept, e1, e2]
  by_cases him : i = m
  ·subst him
   exact .inr (.inl ⟨_, hS.map0 B, hS.ok B k⟩)
  ·exact .inl (hS.keep A B i him)
 have high : ∀ (A B : M) (C D : St) (l1 l2 : ABlk) (k i : Nat), C.length = n → D.length = n → (∀ y ∈ D, okBlk k y) → N ≤ i → i < N + n + 2 → (l1 = l2 ∨ ∃ st pe st' pe' env ps a b, l1 = .loop st pe env ps a b ∧ l2 = .loop st' pe' env ps a b) →
   blkKept (S A ++ (C ++ [.cells [.ptr p 0], l1])) (S B ++ (D ++ [.cells [.ptr p 0], l2])) k i := by
  intro A B C D l1 l2 k i hA hB hk h1 h2 hl
  have e1 : (S A ++ (C ++ [.cells [.ptr p 0], l1]))[i]? = (C ++ [.cells [.ptr p 0], l1])[i - N]? := by rw [List.getElem?_append_right (by rw [hS.len]; exact h1), hS.len]
  have e2 : (S B ++ (D ++ [.cells [.ptr p 0], l2]))[i]? = (D ++ [.cells [.ptr p 0], l2])[i - N]? := by rw [List.getElem?_append_right (by rw [hS.len]; exact h1), hS.len]
  simp only [blkKept, e1, e2]
  obtain ⟨j, hj⟩ : ∃ j, i - N = j := ⟨_, rfl⟩
  rw [hj]
  by_cases hjn : j < n
  ·right; left
   have hb : j < D.length := by omega
   refine ⟨D[j], ?_, hk _ (List.getElem_mem hb)⟩
   rw [List.getElem?_append_left hb, List.getElem?_eq_getElem hb]
  ·have : j = n ∨ j = n + 1 := by omega
   rcases this with rfl | rfl
   ·left
    rw [List.getElem?_append_right (by omega), List.getElem?_append_right (by omega), hA, hB]
    simp
   ·rw [List.getElem?_append_right (by omega), List.getElem?_append_right (by omega), hA, hB]
    simp only [Nat.add_sub_cancel_left, List.getElem?_cons_succ, List.getElem?_cons_zero]
    rcases hl with rfl | ⟨_, _, _, _, _, _, _, _, rfl, rfl⟩
    ·exact .inl rfl
    ·exact .inr (.inr ⟨_, _, _, _, _, _, _, _, rfl, rfl⟩)
 refine ⟨fun x => ?_, fun x A => ?_, fun x A => ?_, fun x A y B k i hk hi => ?_, fun x A y B k i hk hi => ?_, by omega, by omega⟩
 ·have := hS.app (U x ++ [.cells [.ptr p 0], .loop st pe env ps a bb])
  rw [List.length_append, hU] at this
  exact this
 ·simp [hS.len, hUD]; omega
 ·have e : N + n = (S A).length + n := by rw [hS.len]
  rw [e, M_base]
  have : n = (U x).length := by rw [hU]
  rw [this]
  exact M_base0 _ _
 ·by_cases h : i < N
  ·exact low _ _ _ _ _ _ h
  ·exact high _ _ _ _ _ _ _ _ (hU x) (hU y) (fun z hz => ok y z hz k (by omega)) (by omega) hi (.inl rfl)
 ·by_cases h : i < N
  ·exact low _ _ _ _ _ _ h
  ·exact high _ _ _ _ _ _ _ _ (hU x) (hUD y) (fun z hz => okD y z hz k (by omega)) (by omega) hi (.inr ⟨_, _, _, _, _, _, _, _, rfl, rfl⟩)
theorem range_of {X A M : Type} {S : M → St} {obj : List AV} {es : M → List (AV × AV)} {p m N : Nat} (hS : MemAt S obj es p m N) (U UD : X → St) (n : Nat) (hU : ∀ x, (U x).length = n) (hUD : ∀ x, (UD x).length = n)
  (J : AJump) (e : Env) (k : Nat) (ps : List Nat) (a bb : ACode) (g : FuncId) (ek : Env.get e k = .func g [] [.ptr (N + n) 0]) (r : X × Bool) (B' : M) (x : X) (B : M)
  (hrun : Run T (.call g [.yield (N + n + 1), .ptr (N + n) 0] (S B ++ (U x ++ [.cells [.ptr p 0], .loop .ready none e ps a bb]))) fun o => ∃ τ', o.σ = Fam1.out (fun x A => S A ++ (U x ++ [.cells [.ptr p 0], .loop .ready none e ps a bb])) (fun x A => S A ++ (UD x ++ [.cells [.ptr p 0], .loop .done (some J) e ps a bb])) r B' ++ τ') (K : KJ)
  (hT : ∀ τ, r.2 = true → K none e (S B' ++ (U r.1 ++ (.cells [.ptr p 0] :: .dead :: τ))))
  (hD : ∀ τ, r.2 = false → K (some J) e (S B' ++ (UD r.1 ++ (.cells [.ptr p 0] :: .dead :: τ)))) :
  rK (K := ⟨K⟩) T (.rangeFunc (.t k) ps a bb) e (S B ++ (U x ++ [.cells [.ptr p 0]])) := by
 have hlen : (S B ++ (U x ++ [ABlk.cells [.ptr p 0]])).length = N + n + 1 := by simp [hS.len, hU]; omega
 have hout : ∀ (A W : St) (lp : ABlk) (τ' : St), A.length = N → W.length = n → (A ++ (W ++ [ABlk.cells [.ptr p 0], lp]) ++ τ')[N + n + 1]? = some lp ∧ (A ++ (W ++ [ABlk.cells [.ptr p 0], lp]) ++ τ').set (N + n + 1) .dead = A ++ (W ++ (.cells [.ptr p 0] :: .dead :: τ')) := by
  intro A W lp τ' hA hW
  have h1 : N + n + 1 = (A ++ W).length + 1 := by simp [hA, hW]
  have h2 : A ++ (W ++ [ABlk.cells [.ptr p 0], lp]) ++ τ' = (A ++ W) ++ (.cells [.ptr p 0] :: lp :: τ') := by simp
  rw [h1, h2]
  constructor
  ·rw [st_get]; rfl
  ·rw [st_set]; simp
 refine rK_range (by rw [q_evt, ek]) (by
  rw [hlen, List.append_assoc (S B), List.append_assoc (U x)]
  exact hrun) fun o ho => ?_
 obtain ⟨τ', hσ⟩ := ho
 rw [hlen, hσ]
 cases hr2 : r.2
 ·have hD' := hD τ' hr2
  obtain ⟨g1, g2⟩ := hout (S B') (UD r.1) (.loop .done (some J) e ps a bb) τ' (hS.len _) (hUD _)
  simp only [Fam1.out, hr2, Bool.false_eq_true, if_false]
  rw [g1, g2]
  exact ⟨_, _, _, _, _, _, rfl, by simp, hD'⟩
 ·have hT' := hT τ' hr2
  obtain ⟨g1, g2⟩ := hout (S B') (U r.1) (.loop .ready none e ps a bb) τ' (hS.len _) (hU _)
  simp only [Fam1.out, hr2, if_true]
  rw [g1, g2]
  exact ⟨_, _, _, _, _, _, rfl, by simp, hT'⟩
theorem yields_of {X A M : Type} {S : M → St} {obj : List AV} {es : M → List (AV × AV)} {p m N : Nat} (hS : MemAt S obj es p m N) (U UD : X → St) (n : Nat) (hU : ∀ x, (U x).length = n) (hUD : ∀ x, (UD x).length = n) (J : AJump) (e : Env) (ps : List Nat) (args : A → Bool → Option Nat → List AV) (hps : ∀ t fl tk, ps.length = (args t fl tk).length) (a bb : ACode) {P : A → Prop} {f : A → X → X × Bool}
  (h : ∀ t, P t → ∀ (fl : Bool) (tk : Option Nat) x B τ, wp T a (bindPs e ps (args t fl tk)) (S B ++ (U x ++ (.cells [.ptr p 0] :: .loop .ready none e ps a bb :: τ))) (fun j e' σ' => j = none ∧ σ' = S B ++ (U x ++ (.cells [.ptr p 0] :: .loop .ready none e ps a bb :: τ)) ∧
   wp T bb e' (S B ++ (U x ++ (.cells [.ptr p 0] :: .loop .busy none e ps a bb :: τ))) (fun j e'' σ'' => ((f t x).2 = true ∧ j = none ∧ ∃ τ', σ'' = S B ++ (U (f t x).1 ++ (.cells [.ptr p 0] :: .loop .busy none e ps a bb :: (τ ++ τ')))) ∨
    ((f t x).2 = false ∧ j = some J ∧ ∃ τ', σ'' = S B ++ (UD (f t x).1 ++ (.cells [.ptr p 0] :: .loop .busy none e ps a bb :: (τ ++ τ'))))))) :
  YieldsT (fun x B => S B ++ (U x ++ [.cells [.ptr p 0], .loop .ready none e ps a bb])) (fun x B => S B ++ (UD x ++ [.cells [.ptr p 0], .loop .done (some J) e ps a bb])) (N + n + 1) args P f := by
 intro t ht fl tk x B τ
 have hget : ∀ (A W : St) (lp : ABlk) (υ : St), A.length = N → W.length = n → (A ++ (W ++ (ABlk.cells [.ptr p 0] :: lp :: υ)))[N + n + 1]? = some lp := by
  intro A W lp υ hA hW
  have h1 : N + n + 1 = (A ++ W).length + 1 := by simp [hA, hW]
  rw [h1, ← List.append_assoc, st_get]; rfl
 have hset : ∀ (A W : St) (lp l2 : ABlk) (υ : St), A.length = N → W.length = n → (A ++ (W ++ (ABlk.cells [.ptr p 0] :: lp :: υ))).set (N + n + 1) l2 = A ++ (W ++ (ABlk.cells [.ptr p 0] :: l2 :: υ)) := by
  intro A W lp l2 υ hA hW
  have h1 : N + n + 1 = (A ++ W).length + 1 := by simp [hA, hW]
  rw [h1, ← List.append_assoc, st_set]
  simp
 obtain ⟨r, hr⟩ : ∃ r, f t x = r := ⟨_, rfl⟩
 have h := h t ht fl tk x B τ
 rw [hr] at h ⊢
 have hst : (fun x B => S B ++ (U x ++ [ABlk.cells [.ptr p 0], .loop .ready none e ps a bb])) x B ++ τ = S B ++ (U x ++ (.cells [.ptr p 0] :: .loop .ready none e ps a bb :: τ)) := by simp
 rw [hst]
 refine .round (env := e) (ps := ps) (a := a) (b := bb)
  (R := fun o => o.j = none ∧ o.σ = S B ++ (U x ++ (.cells [.ptr p 0] :: .loop .ready none e ps a bb :: τ)) ∧ wp T bb o.env (S B ++ (U x ++ (.cells [.ptr p 0] :: .loop .busy none e ps a bb :: τ))) (fun j e'' σ'' => (r.2 = true ∧ j = none ∧ ∃ τ', σ'' = S B ++ (U r.1 ++ (.cells [.ptr p 0] :: .loop .busy none e ps a bb :: (τ ++ τ')))) ∨
    (r.2 = false ∧ j = some J ∧ ∃ τ', σ'' = S B ++ (UD r.1 ++ (.cells [.ptr p 0] :: .loop .busy none e ps a bb :: (τ ++ τ'))))))
  (S := fun o => (r.2 = true ∧ o.j = none ∧ ∃ τ', o.σ = S B ++ (U r.1 ++ (.cells [.ptr p 0] :: .loop .busy none e ps a bb :: (τ ++ τ')))) ∨ (r.2 = false ∧ o.j = some J ∧ ∃ τ', o.σ = S B ++ (UD r.1 ++ (.cells [.ptr p 0] :: .loop .busy none e ps a bb :: (τ ++ τ'))))) (hget _ _ _ _ (hS.len _) (hU _)) (by rw [hps t fl tk]) (run_wp h fun o ho => ho) ?_ ?_ ?_
 ·rintro o ⟨hj, hσ, _⟩
  exact ⟨hj, by rw [hσ]; exact hget _ _ _ _ (hS.len _) (hU _)⟩
 ·rintro o ⟨_, hσ, hw⟩
  rw [hσ, hset _ _ _ _ _ (hS.len _) (hU _)]
  exact run_wp hw fun o ho => ho
 ·rintro o (⟨hr2, hj, τ', hσ⟩ | ⟨hr2, hj, τ', hσ⟩)
  ·rw [hσ, hj, hget _ _ _ _ (hS.len _) (hU _), hset _ _ _ _ _ (hS.len _) (hU _)]
   refine ⟨rfl, by rw [hr2]; rfl, τ', ?_⟩
   simp [Fam1.out, hr2]
  ·rw [hσ, hj, hget _ _ _ _ (hS.len _) (hUD _), hset _ _ _ _ _ (hS.len _) (hUD _)]
   refine ⟨rfl, by rw [hr2]; rfl, τ', ?_⟩
   simp [Fam1.out, hr2]
theorem iterF_go {A X : Type} {f : A → X → X × Bool} (h : ∀ a x, (f a x).2 = true) : ∀ (l : List A) (x : X), iterF f l x = (l.foldl (fun x a => (f a x).1) x, true)
 | [], x => rfl
 | a :: az, x => by simp only [iterF, h, if_true, List.foldl_cons]; exact iterF_go h az _
end Go.Am.Room
namespace Go.Am.Room
def bitsTo (fine : Nat → Bool) : Nat → Nat × Nat → Nat × Nat
 | 0, x => x
 | k + 1, x => if fine k = true then (andN (bitsTo fine k x).1 (2 ^ k), (bitsTo fine k x).2) else ((bitsTo fine k x).1, (bitsTo fine k x).2 ||| 2 ^ k)
theorem bitsTo_lt (fine : Nat → Bool) {n : Nat} {x : Nat × Nat} (h : x.1 < 2 ^ n ∧ x.2 < 2 ^ n) : ∀ k, k ≤ n → (bitsTo fine k x).1 < 2 ^ n ∧ (bitsTo fine k x).2 < 2 ^ n
 | 0, _ => h
 | k + 1, hk => by
  obtain ⟨h1, h2⟩ := bitsTo_lt fine h k (by omega)
  simp only [bitsTo]
  split
  ·exact ⟨Nat.lt_of_le_of_lt (andN_le _ _) h1, h2⟩
  ·exact ⟨h1, Nat.or_lt_two_pow h2 (Nat.pow_lt_pow_right (by omega) (by omega))⟩
theorem bitsTo_bit (fine : Nat → Bool) {n : Nat} (hn : n ≤ 60) {x : Nat × Nat} (h : x.1 < 2 ^ n ∧ x.2 < 2 ^ n) (i : Nat) : ∀ k, k ≤ n → (bitsTo fine k x).1.testBit i = (x.1.testBit i && !(decide (i < k) && fine i)) ∧ (bitsTo fine k x).2.testBit i = (x.2.testBit i || (decide (i < k) && !fine i))
 | 0, _ => by simp [bitsTo]
 | k + 1, hk => by
  obtain ⟨h1, h2⟩ := bitsTo_bit fine hn h i k (by omega)
  obtain ⟨l1, l2⟩ := bitsTo_lt fine h k (by omega)
  have hp := pow_small (show k ≤ 60 by omega)
  have hpn := pow_small hn
  simp only [bitsTo]
  by_cases e : i = k
  ·subst e
   cases hf : fine i
   ·simp only [Bool.false_eq_true, if_false]
    rw [Nat.testBit_or, h1, h2, Nat.testBit_two_pow_self]
    simp
   ·simp only [if_true]
    rw [andN_bit (by omega) _ _ (by omega), h1, h2, Nat.testBit_two_pow_self]
    simp
  ·have hd : decide (i < k + 1) = decide (i < k) := by rw [decide_eq_decide]; omega
   split
   ·rw [andN_bit (by omega) _ _ (by omega), h1, h2, Nat.testBit_two_pow_of_ne (Ne.symm e), hd]
    simp
   ·rw [Nat.testBit_or, h1, h2, Nat.testBit_two_pow_of_ne (Ne.symm e), hd]
    simp
abbrev B64 := { x : Nat × Nat // x.1 < 2 ^ 6 ∧ x.2 < 2 ^ 6 }
def bitsF {A : Type} (fine : A → Nat → Bool) (n : Nat) (a : A) (x : B64) : B64 × Bool := if hn : n ≤ 6 then (⟨bitsTo (fine a) n x.1, bitsTo_lt (fine a) x.2 n hn⟩, true) else (x, true)
theorem bitsF_go {A : Type} (fine : A → Nat → Bool) (n : Nat) (a : A) (x : B64) : (bitsF fine n a x).2 = true := by unfold bitsF; split <;> rfl
theorem bitsF_val {A : Type} (fine : A → Nat → Bool) {n : Nat} (hn : n ≤ 6) (a : A) (x : B64) : (bitsF fine n a x).1.1 = bitsTo (fine a) n x.1 := by unfold bitsF; rw [dif_pos hn]
def bitsL {A : Type} (fine : A → Nat → Bool) (n : Nat) (l : List A) (x : B64) : B64 := l.foldl (fun x a => (bitsF fine n a x).1) x
theorem bitsL_bit {A : Type} (fine : A → Nat → Bool) {n : Nat} (hn : n ≤ 6) {i : Nat} (hi : i < n) : ∀ (l : List A) (x : B64), (bitsL fine n l x).1.1.testBit i = (x.1.1.testBit i && l.all fun a => !fine a i) ∧ (bitsL fine n l x).1.2.testBit i = (x.1.2.testBit i || l.any fun a => !fine a i)
 | [], x => by simp [bitsL]
 | a :: l, x => by
  obtain ⟨h1, h2⟩ := bitsL_bit fine hn hi l (bitsF fine n a x).1
  obtain ⟨q1, q2⟩ := bitsTo_bit (fine a) (n := 6) (by omega) x.2 i n hn
  simp only [bitsL, List.foldl_cons, List.all_cons, List.any_cons] at h1 h2 ⊢
  rw [h1, h2, bitsF_val fine hn, q1, q2]
  simp only [hi, decide_true, Bool.true_and]
  exact ⟨by rw [Bool.and_assoc], by rw [Bool.or_assoc]⟩
def bits0 (n : Nat) (hn : n ≤ 6) : B64 := ⟨(2 ^ n - 1, 0), by
 have : 2 ^ n ≤ 2 ^ 6 := Nat.pow_le_pow_right (by omega) hn
 have := Nat.two_pow_pos n
 exact ⟨by simp only; omega, by simp⟩⟩
theorem bits_law {A : Type} (fine : A → Nat → Bool) {n : Nat} (hn : n ≤ 6) (l : List A) : lst n (bitsL fine n l (bits0 n hn)).1.1 = (numbers 0 n).filter (fun i => l.all fun a => !fine a i.toNat) ∧ lst n (bitsL fine n l (bits0 n hn)).1.2 = (numbers 0 n).filter (fun i => l.any fun a => !fine a i.toNat) := by
 simp only [lst]
 constructor
 ·refine List.filter_congr fun x hx => ?_
  have hxr := (numbers_mem _ _ _).1 hx
  have hi : x.toNat < n := by omega
  rw [← bit_div, (bitsL_bit fine hn hi l _).1]
  simp only [bits0, Nat.testBit_two_pow_sub_one, hi, decide_true, Bool.true_and]
 ·refine List.filter_congr fun x hx => ?_
  have hxr := (numbers_mem _ _ _).1 hx
  have hi : x.toNat < n := by omega
  rw [← bit_div, (bitsL_bit fine hn hi l _).2]
  simp only [bits0, Nat.zero_testBit, Bool.false_or]
def fineC (v : Net) (c : List Int) (t : Nat) : Bool := inTime v t (comeAt (comesP v c) t)
theorem late_eff {v : Net} {bl : List Int} {t : Nat} : ∀ s ∈ truths v bl, lateAt v (t : Int) s = !fineC v (effL s) t := fun s hs => by
 have hl := truth_len hs
 simp only [lateAt, fineC, comes_eff (show s.closed.length = s.mins.length by omega), Int.toNat_natCast]
theorem late_law {v : Net} (hv : Vd v) (h3 : v.trams.length ≤ 6) : lst v.trams.length (bitsL (fineC v) v.trams.length (TL v []) (bits0 _ h3)).1.1 = sureL v (truths v []) ∧ lst v.trams.length (bitsL (fineC v) v.trams.length (TL v []) (bits0 _ h3)).1.2 = mayL v (truths v []) := by
 obtain ⟨h1, h2⟩ := bits_law (fineC v) h3 (TL v [])
 rw [h1, h2, sureL, mayL]
 constructor
 ·refine List.filter_congr fun x hx => ?_
  have hxr := (numbers_mem _ _ _).1 hx
  obtain ⟨t, rfl⟩ : ∃ t : Nat, x = t := ⟨x.toNat, by omega⟩
  rw [sureLate, Int.toNat_natCast]
  exact (all_TL hv [] _ _ late_eff).symm
 ·refine List.filter_congr fun x hx => ?_
  have hxr := (numbers_mem _ _ _).1 hx
  obtain ⟨t, rfl⟩ : ∃ t : Nat, x = t := ⟨x.toNat, by omega⟩
  rw [mayLate, Int.toNat_natCast]
  exact (any_TL hv [] _ _ late_eff).symm
def openC (c : List Int) (r : Nat) : Bool := !((c[r]?).getD 0 == 0)
theorem closed_eff {v : Net} (hv : Vd v) {bl : List Int} {r : Nat} (hr : r < v.rails.length) : ∀ s ∈ truths v bl, closedAt (r : Int) s = !openC (effL s) r := fun s hs => by
 have hs1 := (List.mem_filter.1 hs).1
 have hl := states_len hs1
 have hst : ∀ k, k ≤ v.rails.length → ∀ s ∈ stTo v.rails k, ∀ i, i < k → 1 ≤ (s.mins[i]?).getD 0 := by
  intro k
  induction k with
  | zero => intro _ s _ i hi; omega
  | succ k ih =>
   intro hk s h i hi
   have hk1 : k < v.rails.length := by omega
   simp only [stTo, List.getElem?_eq_getElem hk1, List.mem_flatMap, extS, List.mem_map, List.mem_filter] at h
   obtain ⟨s0, hs0, m, hm, c, _, rfl⟩ := h
   have hl0 := (st_can k (by omega) s0 hs0).2.1
   by_cases e : i = k
   ·subst e
    rw [get_snoc hl0]
    have := (hv.ra _ (List.getElem_mem hk1)).mins
    have := mem_waysIn.1 hm
    omega
   ·rw [List.getElem?_append_left (by omega)]
    exact ih (by omega) s0 hs0 i (by omega)
 have hm := hst v.rails.length (Nat.le_refl _) s hs1 r hr
 have he := congrFun (eff_rl (s := s) (by omega)) (r : Int)
 simp only [rlI, Int.toNat_natCast] at he
 simp only [openC, ← he, eff, closedAt, Int.toNat_natCast, Bool.not_not]
 split
 ·rename_i h; rw [h]; rfl
 ·rename_i h
  rw [Bool.not_eq_true] at h
  rw [h]
  symm
  simp only [beq_eq_false_iff_ne]
  omega
theorem shut_law {v : Net} (hv : Vd v) (h6 : v.rails.length ≤ 6) : lst v.rails.length (bitsL openC v.rails.length (TL v []) (bits0 _ h6)).1.1 = sureS v (truths v []) ∧ lst v.rails.length (bitsL openC v.rails.length (TL v []) (bits0 _ h6)).1.2 = mayS v (truths v []) := by
 obtain ⟨h1, h2⟩ := bits_law openC h6 (TL v [])
 rw [h1, h2, sureS, mayS]
 constructor
 ·refine List.filter_congr fun x hx => ?_
  have hxr := (numbers_mem _ _ _).1 hx
  obtain ⟨t, rfl⟩ : ∃ t : Nat, x = t := ⟨x.toNat, by omega⟩
  rw [Int.toNat_natCast]
  exact (all_TL hv [] _ _ (closed_eff hv (by omega))).symm
 ·refine List.filter_congr fun x hx => ?_
  have hxr := (numbers_mem _ _ _).1 hx
  obtain ⟨t, rfl⟩ : ∃ t : Nat, x = t := ⟨x.toNat, by omega⟩
  rw [Int.toNat_natCast]
  exact (any_TL hv [] _ _ (closed_eff hv (by omega))).symm
def atsP (v : Net) (l : List (List Int)) (t : Nat) : List Int := l.map fun c => comeAt (comesP v c) t
theorem ats_mem {v : Net} (hv : Vd v) (bl : List Int) (t : Nat) (x : Int) : x ∈ atsIn v (truths v bl) t ↔ x ∈ atsP v (TL v bl) t := by
 simp only [atsIn, atsP, List.mem_map]
 constructor
 ·rintro ⟨s, hs, rfl⟩
  have hl := truth_len hs
  exact ⟨_, truth_TL hs, by rw [comes_eff (by omega)]⟩
 ·rintro ⟨c, hc, rfl⟩
  obtain ⟨s, hs, rfl⟩ := TL_truth hv hc
  have hl := truth_len hs
  exact ⟨s, hs, by rw [comes_eff (by omega)]⟩
theorem comesS_mem {l k : List Int} (h : ∀ x, x ∈ l ↔ x ∈ k) : comesS l = comesS k := by
 have h1 : spanL (runsIn l) = spanL (runsIn k) := spanL_eq fun x => by simp only [runsIn, List.mem_filter, h]
 have h2 : settled (runsIn l).length l.length = settled (runsIn k).length k.length := settled_eq (fun x hx => ⟨x, (h x).1 hx, rfl⟩) (fun x hx => ⟨x, (h x).2 hx, rfl⟩)
 rw [comesS, comesS, h1, h2]
def comF (a : Int) (x : Span × Bool × Bool) : Span × Bool × Bool := if a = -1 then (x.1, x.2.1, true) else if x.2.1 = false then (⟨a, a⟩, true, x.2.2) else (join x.1 a, true, x.2.2)
theorem spanL_snoc (l : List Int) (a : Int) : spanL (l ++ [a]) = if l = [] then ⟨a, a⟩ else join (spanL l) a := by
 cases l with
 | nil => simp [spanL]
 | cons x l => simp [spanL, List.foldl_append]
theorem com_fold (l : List Int) : ∀ (k : List Int), l.foldl (fun x a => comF a x) (spanL (runsIn k), !(runsIn k).isEmpty, k.contains (-1)) = (spanL (runsIn (k ++ l)), !(runsIn (k ++ l)).isEmpty, (k ++ l).contains (-1)) := by
 induction l with
 | nil => intro k; simp
 | cons a l ih =>
  intro k
  rw [List.foldl_cons, show k ++ a :: l = (k ++ [a]) ++ l by simp, ← ih (k ++ [a])]
  congr 1
  simp only [runsIn, List.filter_append, comF]
  by_cases h : a = -1
  ·subst h; simp
  ·have hc : (k ++ [a]).contains (-1) = k.contains (-1) := by
    rw [Bool.eq_iff_iff, List.contains_iff_mem, List.contains_iff_mem]
    simp; omega
   have hf : [a].filter (fun c => !decide (c = -1)) = [a] := by simp [h]
   rw [hf, hc, spanL_snoc, if_neg h]
   by_cases h2 : k.filter (fun c => !decide (c = -1)) = []
   ·simp [h2]
   ·have : (k.filter (fun c => !decide (c = -1))).isEmpty = false := by simpa using h2
    simp [h2, this]
theorem com_all (l : List Int) : l.foldl (fun x a => comF a x) (⟨0, 0⟩, false, false) = (spanL (runsIn l), !(runsIn l).isEmpty, l.contains (-1)) := com_fold l []
theorem com_settled {l : List Int} (h : l ≠ []) : settled (runsIn l).length l.length = if l.contains (-1) = false then 1 else if (runsIn l).isEmpty = true then 2 else 0 := by
 have h1 : settled (runsIn l).length l.length = 1 ↔ ∀ x ∈ l, (!decide (x = -1)) = true := settled_one
 have h2 : settled (runsIn l).length l.length = 2 ↔ l ≠ [] ∧ ∀ x ∈ l, (!decide (x = -1)) = false := settled_two
 have h3 := settled_cases (runsIn l).length l.length
 have he : (runsIn l).isEmpty = true ↔ ∀ x ∈ l, (!decide (x = -1)) = false := by
  rw [List.isEmpty_iff, runsIn, List.filter_eq_nil_iff]
  simp
 by_cases a : l.contains (-1) = false
 ·rw [if_pos a]
  refine h1.2 fun x hx => ?_
  simp only [Bool.not_eq_true', decide_eq_false_iff_not]
  rintro rfl
  rw [← Bool.not_eq_true, List.contains_iff_mem] at a
  exact a hx
 ·rw [if_neg a]
  have n1 : ¬ settled (runsIn l).length l.length = 1 := by
   rw [h1]
   intro q
   rw [Bool.not_eq_false, List.contains_iff_mem] at a
   have := q _ a
   simp at this
  by_cases b : (runsIn l).isEmpty = true
  ·rw [if_pos b]
   exact h2.2 ⟨h, he.1 b⟩
  ·rw [if_neg b]
   rcases h3 with h3 | h3 | h3
   ·exact h3
   ·exact absurd h3 n1
   ·exact absurd (he.2 (h2.1 h3).2) b
def updF (f : Nat → Int) (i : Nat) (v : Int) : Nat → Int := fun j => if j = i then v else f j
def arrA (n : Nat) (f : Nat → Int) : List AV := (List.range n).map fun i => .int .i64 (f i)
theorem arrA_len (n : Nat) (f : Nat → Int) : (arrA n f).length = n := by simp [arrA]
theorem arrA_get (n : Nat) (f : Nat → Int) {i : Nat} (h : i < n) : (arrA n f)[i]? = some (.int .i64 (f i)) := by simp [arrA, h]
theorem arrA_congr {n : Nat} {f g : Nat → Int} (h : ∀ i, i < n → f i = g i) : arrA n f = arrA n g := by
 refine List.map_congr_left fun i hi => ?_
 rw [h i (by simpa using hi)]
theorem arrA_set (n : Nat) (f : Nat → Int) (v : Int) {i : Nat} (h : i < n) : (arrA n f).take i ++ [AV.int .i64 v] ++ (arrA n f).drop (i + 1) = arrA n (updF f i v) := by
 have h1 : (arrA n f).take i ++ [AV.int .i64 v] ++ (arrA n f).drop (i + 1) = (arrA n f).set i (.int .i64 v) := by
  rw [List.set_eq_take_append_cons_drop, if_pos (by rw [arrA_len]; exact h)]; simp
 rw [h1]
 refine List.ext_getElem? fun j => ?_
 by_cases hj : j < n
 ·rw [arrA_get n _ hj, List.getElem?_set]
  by_cases e : i = j
  ·subst e; simp [arrA_len, hj, updF]
  ·rw [if_neg e, arrA_get n _ hj]; simp [updF, show ¬ j = i from fun q => e q.symm]
 ·rw [List.getElem?_eq_none (by rw [List.length_set, arrA_len]; omega), List.getElem?_eq_none (by rw [arrA_len]; omega)]
theorem datas_arrA (n : Nat) (f : Nat → Int) : Datas (arrA n f) := datas_map (enc := fun i : Nat => AV.int .i64 (f i)) (fun i => data_int _ _) (List.range n)
instance (n : Nat) (f : Nat → Int) : Dats (arrA n f) := ⟨datas_arrA n f⟩
theorem arrA_ok (n : Nat) (f : Nat → Int) (m : Nat) : okVs m (arrA n f) := ok_datas (datas_arrA n f) m
theorem S_arrA (n : Nat) (f : Nat → Int) (σ : St) (m d : Nat) : snapMs σ m d (arrA n f) = some (arrA n f) := S_datas (datas_arrA n f) σ m d
theorem arrA_cell (n : Nat) (f : Nat → Int) : allCell (arrA n f) = true := C_mapc _ _ fun i => by simp [AV.cell]
theorem arrA_take (n : Nat) (f : Nat → Int) : (arrA n f).take n = arrA n f := List.take_of_length_le (by rw [arrA_len]; exact Nat.le_refl n)
theorem arrA_drop (n : Nat) (f : Nat → Int) : (arrA n f).drop n = [] := List.drop_eq_nil_of_le (by rw [arrA_len]; exact Nat.le_refl n)
theorem arrA_eqC (f g : Nat → Int) : ∀ l : List Nat, eqCells (List.replicate l.length .i) (l.map fun i => .int .i64 (f i)) (l.map fun i => .int .i64 (g i)) = some (l.all fun i => f i == g i)
 | [] => rfl
 | x :: l => by
  simp only [List.length_cons, List.replicate_succ, List.map_cons, V_eqC1, V_eqI, arrA_eqC f g l, V_oand, List.all_cons]
theorem arrA_eq (n : Nat) (f g : Nat → Int) : eqCells (List.replicate n .i) (arrA n f) (arrA n g) = some ((List.range n).all fun i => f i == g i) := by
 have := arrA_eqC f g (List.range n)
 rwa [List.length_range] at this
section
variable {K : Type} [DecidableEq K]
def memoStep (M : List K) (w : K) : List K := if w ∈ M then M else M ++ [w]
structure KeyIs (sh : EqTy) (enc val : K → AV) : Prop where
 eq : ∀ w x, eqSh sh (enc w) (enc x) = some (decide (w = x))
 dk : ∀ w, Data (enc w)
 dv : ∀ w, Data (val w)
variable {sh : EqTy} {enc val : K → AV}
def keyEs (enc val : K → AV) (M : List K) : List (AV × AV) := M.map fun w => (enc w, val w)
theorem keyFind (h : KeyIs sh enc val) (w : K) : ∀ M : List K, findKey sh (enc w) (keyEs enc val M) = some (if w ∈ M then some (val w) else none)
 | [] => by simp [keyEs, findKey]
 | x :: M => by
  have ih := keyFind h w M
  simp only [keyEs, List.map_cons, findKey, h.eq] at ih ⊢
  by_cases e : w = x
  ·subst e; simp
  ·simp only [e, decide_false, ih, List.mem_cons, false_or]
theorem keySet (h : KeyIs sh enc val) (w : K) : ∀ M : List K, w ∉ M → setKey sh (enc w) (val w) (keyEs enc val M) = some (keyEs enc val (M ++ [w]))
 | [], _ => by simp [keyEs, setKey]
 | x :: M, hn => by
  have ih := keySet h w M (fun q => hn (List.mem_cons_of_mem _ q))
  have hx : w ≠ x := fun e => hn (by rw [e]; simp)
  simp only [keyEs, List.map_cons, setKey, h.eq, List.cons_append] at ih ⊢
  simp only [hx, decide_false, ih, Option.map_some]
theorem key_ok (h : KeyIs sh enc val) (M : List K) (k : Nat) : okBlk k (.map (keyEs enc val M)) := by
 simp only [okBlk, keyEs]
 intro q hq
 obtain ⟨w, hw, rfl⟩ := List.mem_map.1 hq
 exact ⟨ok_data (h.dk w) k, ok_data (h.dv w) k⟩
variable {S : List K → St} {obj : List AV} {p m N : Nat}
theorem keyLook (hk : KeyIs sh enc val) (h : MemAt S obj (keyEs enc val) p m N) (M : List K) (τ : St) (w : K) : lookAV sh (S M ++ τ) (.map m) (enc w) = some (if w ∈ M then some (val w) else none) := by
 simp only [lookAV, h.map1, keyFind hk, hk.eq]
 simp
theorem keyPut (hk : KeyIs sh enc val) (h : MemAt S obj (keyEs enc val) p m N) (M : List K) (τ : St) (w : K) (hw : w ∉ M) : vMapset sh (S M ++ τ) (.map m) (enc w) (val w) = some (S (M ++ [w]) ++ τ) := by
 simp only [vMapset, hk.eq, h.map1, keySet hk w M hw, Option.map_some, h.mset1]
 simp
end
end Go.Am.Room
set_option maxRecDepth 4000
namespace Go.Am.Room
def encLLE (x : List Int × List Int × Int) : AV := .tuple [ints x.1, ints x.2.1, .int .i64 x.2.2]
def encIE (x : Int × Int) : AV := .tuple [.int .i64 x.1, .int .i64 x.2]
def encSIE (x : Span × Int × Int) : AV := .tuple [encSpan x.1, .int .i64 x.2.1, .int .i64 x.2.2]
end Go.Am.Room
set_option maxRecDepth 4000
namespace Go.Am.Room
theorem nums_filter {n : Nat} {k : Nat} (h : k < n) (p : Int → Bool) : (numbers (k : Int) ((n : Int) - k).toNat).filter p = (if p (k : Int) = true then [(k : Int)] else []) ++ (numbers ((k + 1 : Nat) : Int) ((n : Int) - ((k + 1 : Nat) : Int)).toNat).filter p := by
 rw [numbers_cons (by omega), List.filter_cons, show (k : Int) + 1 = ((k + 1 : Nat) : Int) by omega]
 split <;> rfl
theorem nums_end {n k : Nat} (h : k = n) (p : Int → Bool) : (numbers (k : Int) ((n : Int) - k).toNat).filter p = [] := by
 rw [numbers_none (by omega)]; rfl
theorem firstGo_drop {v : Net} {l : List Int} {k : Nat} (h : k < l.length) (b : Int) : firstGo v (l.drop k) b = firstGo v (l.drop (k + 1)) (if b < 0 ∨ dueAt v l[k].toNat < dueAt v b.toNat then l[k] else b) := by
 rw [List.drop_eq_getElem_cons h, firstGo]
theorem due_at {v : Net} {t : Nat} (h : t < v.trams.length) : dueAt v t = v.trams[t].due := by simp [dueAt, h]
theorem mayL_in {v : Net} {l : List State} : ∀ t ∈ mayL v l, 0 ≤ t ∧ t < v.trams.length := fun t ht => by
 have := (numbers_mem _ _ _).1 (List.mem_filter.1 ht).1
 omega
theorem mayL_len (v : Net) (l : List State) : (mayL v l).length ≤ v.trams.length := by
 have := List.length_filter_le (mayLate v l) (numbers 0 v.trams.length)
 rw [numbers_len] at this
 exact this
end Go.Am.Room
set_option maxRecDepth 4000
namespace Go.Am.Room
instance (l : List (List (List Int))) : Dats (l.map intss) := ⟨datas_map data_intss l⟩
theorem intss_def (l : List (List Int)) : intss l = .lit (l.map ints) false none := by simp only [intss]
def encMove (x : List (List Int) × List Int × Int) : AV := .tuple [intss x.1, ints x.2.1, .int .i64 x.2.2]
def fineTo (v : Net) (cs : List Int) (n : Nat) : Bool := (List.range n).all fun t => inTime v t (comeAt cs t)
theorem fineTo_succ (v : Net) (cs : List Int) (n : Nat) : fineTo v cs (n + 1) = (fineTo v cs n && inTime v n (comeAt cs n)) := by simp [fineTo, List.range_succ, List.all_append]
theorem fineTo_le {v : Net} {cs : List Int} {k : Nat} (h : fineTo v cs k = false) {j : Nat} (hj : k ≤ j) : fineTo v cs j = false := by
 simp only [fineTo, List.all_eq_false, List.mem_range] at h ⊢
 obtain ⟨a, ha, h1⟩ := h
 exact ⟨a, by omega, h1⟩
theorem inTime_at {v : Net} {t : Nat} {z : Tram} (h : v.trams[t]? = some z) (c : Int) : inTime v t c = (!decide (c = -1) && decide (c ≤ z.due)) := by simp only [inTime, dueAt, h]
theorem own_at {v : Net} {t : Nat} (h : t < v.trams.length) : pathAt (ownOf v) t = v.trams[t].path := by simp [pathAt, ownOf, h]
theorem path_at {ps : List (List Int)} {t : Nat} (h : t < ps.length) : pathAt ps t = ps[t] := by simp [pathAt, h]
def movP (v : Net) (ps : List (List Int)) (t : Int) : Bool := !decide (pathAt ps t.toNat = pathAt (ownOf v) t.toNat)
theorem from_at {v : Net} {t : Nat} (h : t < v.trams.length) : fromAt v t = v.trams[t].frm := by simp [fromAt, h]
end Go.Am.Room
set_option maxRecDepth 4000
namespace Go.Am.Room
instance (l : List (List Int)) : Dats (l.map ints) := ⟨datas_map data_ints l⟩
def encLE (x : List Int × Int) : AV := .tuple [ints x.1, .int .i64 x.2]
def encIIE (x : Int × Int × Int) : AV := .tuple [.int .i64 x.1, .int .i64 x.2.1, .int .i64 x.2.2]
theorem netErr_ok {v : Net} (h : netErr v = 0) : Vd v ∧ truths v [] ≠ [] := by
 have hta : netErr v = errKnown v (check v).2.2 := rfl
 rw [hta, errKnown] at h
 split at h
 ·rename_i q
  refine ⟨vd_of_check q, fun e => ?_⟩
  rw [e] at h; simp at h
 ·rename_i q; exact absurd h q
end Go.Am.Room
set_option maxRecDepth 4000
namespace Go.Am.Room
def cutTo (v : Net) (r : Int) (k : Nat) : Nat := ((List.range k).filter fun t => (waysOf v (fromAt v t) [r]).isEmpty).length
theorem cutTo_succ (v : Net) (r : Int) (k : Nat) : cutTo v r (k + 1) = cutTo v r k + (if (waysOf v (fromAt v k) [r]).isEmpty = true then 1 else 0) := by
 rw [cutTo, List.range_succ, List.filter_append, List.length_append, cutTo]
 by_cases e : (waysOf v (fromAt v k) [r]).isEmpty = true
 ·simp [e]
 ·simp [e]
theorem cutTo_le (v : Net) (r : Int) (k : Nat) : cutTo v r k ≤ k := by
 have := List.length_filter_le (fun t => (waysOf v (fromAt v t) [r]).isEmpty) (List.range k)
 rw [List.length_range] at this
 exact this
theorem hurtGo_drop {v : Net} {k : Nat} (h : k < v.rails.length) (b : Int × Int) : hurtGo v (numbers (k : Int) ((v.rails.length : Int) - k).toNat) b = hurtGo v (numbers ((k + 1 : Nat) : Int) ((v.rails.length : Int) - ((k + 1 : Nat) : Int)).toNat) (if v.rails[k].shut = 1 then b else if b.1 < 0 ∨ b.2 < cutOff v k then ((k : Int), cutOff v k) else b) := by
 rw [numbers_cons (by omega), hurtGo, show (k : Int) + 1 = ((k + 1 : Nat) : Int) by omega, rail_at h]
end Go.Am.Room
