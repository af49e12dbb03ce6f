/- A part of the proofs: an abstract machine, or what functions come to on it. -/
import Derived.Test.YtajhifmlmhmelaaAllQ3
import Derived.Lib.Strings
import Derived.Laws.RangeAny
set_option linter.unusedVariables false
set_option linter.unusedSimpArgs false
set_option linter.defProp false
namespace Go.Am
variable {T : FuncId → Option AFunc}
def bindO (r : Option (AV × St)) (K : AV → St → Prop) : Prop :=
 match r with
 | some (v, σ) => K v σ
 | none => False
@[congr] theorem bindO_congr {r r' : Option (AV × St)} {K : AV → St → Prop} (h : r = r') : bindO r K = bindO r' K := by rw [h]
@[simp] theorem bindO_some (v : AV) (σ : St) (K : AV → St → Prop) : bindO (some (v, σ)) K = K v σ := rfl
@[simp] theorem bindO_none (K : AV → St → Prop) : bindO none K = False := rfl
@[simp] theorem bindO_ite (c : Prop) [Decidable c] (r q : Option (AV × St)) (K : AV → St → Prop) : bindO (if c then r else q) K = if c then bindO r K else bindO q K := by split <;> rfl
def bindB (v : AV) (A B : Unit → Prop) : Prop :=
 match v with
 | .bool true => A ()
 | .bool false => B ()
 | _ => False
@[congr] theorem bindB_congr {v v' : AV} {A B : Unit → Prop} (h : v = v') : bindB v A B = bindB v' A B := by rw [h]
@[simp] theorem bindB_bool (b : Bool) (A B : Unit → Prop) : bindB (.bool b) A B = if b = true then A () else B () := by cases b <;> rfl
def bindG (v : AV) (want : Bool) (A B : Unit → Prop) : Prop :=
 match v with
 | .bool b => if b = want then A () else B ()
 | .tuple [] => B ()
 | _ => False
@[congr] theorem bindG_congr {v v' : AV} {want : Bool} {A B : Unit → Prop} (h : v = v') : bindG v want A B = bindG v' want A B := by rw [h]
@[simp] theorem bindG_bool (b want : Bool) (A B : Unit → Prop) : bindG (.bool b) want A B = if b = want then A () else B () := rfl
@[simp] theorem bindG_off (want : Bool) (A B : Unit → Prop) : bindG (.tuple []) want A B = B () := rfl
def CallK (T : FuncId → Option AFunc) (f : AV) (args : List AV) (σ : St) (K : AV → St → Prop) : Prop := Run T (.callv f args σ) fun r => K r.v r.σ
@[congr] theorem CallK_congr {f f' : AV} {args args' : List AV} {σ σ' : St} {K : AV → St → Prop} (h1 : f = f') (h2 : args = args') (h3 : σ = σ') : CallK T f args σ K = CallK T f' args' σ' K := by rw [h1, h2, h3]
def wpOp (T : FuncId → Option AFunc) (q : AOp) (e : Env) (σ : St) (K : AV → St → Prop) : Prop :=
 match q with
 | .call f args => CallK T (f.ev e) (args.map (·.ev e)) σ K
 | q => bindO (aop q e σ) K
@[congr] theorem wpOp_congr {q : AOp} {e e' : Env} {σ σ' : St} {K : AV → St → Prop} (h2 : e = e') (h3 : σ = σ') : wpOp T q e σ K = wpOp T q e' σ' K := by rw [h2, h3]
def wpOps (T : FuncId → Option AFunc) : List AOper → Env → St → (Env → St → Prop) → Prop
 | [], e, σ, K => K e σ
 | ⟨dst, q, none⟩ :: os, e, σ, K => wpOp T q e σ fun v σ' => wpOps T os (Env.put e dst v) σ' K
 | ⟨dst, q, some (t, want)⟩ :: os, e, σ, K =>
  bindG (Env.get e t) want (fun _ => wpOp T q e σ fun v σ' => wpOps T os (Env.put e dst v) σ' K) (fun _ => wpOps T os (Env.put e dst (.tuple [])) σ K)
@[congr] theorem wpOps_congr {os : List AOper} {e e' : Env} {σ σ' : St} {K : Env → St → Prop} (h2 : e = e') (h3 : σ = σ') : wpOps T os e σ K = wpOps T os e' σ' K := by rw [h2, h3]
theorem run_wpOps {Q : Out → Prop} : ∀ {os : List AOper} {e : Env} {σ : St} {K : Env → St → Prop}, wpOps T os e σ K → (∀ e σ, K e σ → Q ⟨none, e, σ, .undef⟩) → Run T (.ops os e σ) Q
 | [], e, σ, K, h, hq => .nil (hq _ _ h)
 | o :: os, e, σ, K, h, hq => by
  have key : o.wanted e = some true → wpOp T o.op e σ (fun v σ' => wpOps T os (Env.put e o.dst v) σ' K) → Run T (.ops (o :: os) e σ) Q := by
   intro hw h
   by_cases hc : ∃ f args, o.op = .call f args
   ·obtain ⟨f, args, ho⟩ := hc
    rw [ho] at h
    exact .stepc hw ho h fun r hr => run_wpOps hr hq
   ·have : ∃ v σ', aop o.op e σ = some (v, σ') ∧ wpOps T os (Env.put e o.dst v) σ' K := by
     unfold wpOp at h
     split at h
     ·rename_i f args ho; exact absurd ⟨f, args, ho⟩ hc
     ·unfold bindO at h
      split at h
      ·rename_i v σ' hv; exact ⟨v, σ', hv, h⟩
      ·exact h.elim
    obtain ⟨v, σ', h1, h2⟩ := this
    exact .step hw h1 (run_wpOps h2 hq)
  obtain ⟨dst, q, g⟩ := o
  cases g with
  | none => exact key rfl h
  | some g =>
   obtain ⟨t, want⟩ := g
   simp only [wpOps, bindG] at h
   split at h
   ·rename_i b h1
    split at h
    ·rename_i hb
     exact key (by simp [AOper.wanted, h1, hb]) h
    ·rename_i hb
     exact .off (by simp [AOper.wanted, h1]; simpa using hb) (run_wpOps h hq)
   ·rename_i h1
    exact .off (by simp [AOper.wanted, h1]) (run_wpOps h hq)
   ·exact h.elim
abbrev KJ := Option AJump → Env → St → Prop
def thenK (A K : KJ) : KJ := fun j e σ => match j with | none => A none e σ | some j => K (some j) e σ
@[simp] theorem thenK_none (A K : KJ) (e : Env) (σ : St) : thenK A K none e σ = A none e σ := rfl
@[simp] theorem thenK_some (A K : KJ) (j : AJump) (e : Env) (σ : St) : thenK A K (some j) e σ = K (some j) e σ := rfl
def blockK (id : Nat) (K : KJ) : KJ := fun j e σ => match j with | some (.exit i) => if i = id then K none e σ else K (some (.exit i)) e σ | j => K j e σ
@[simp] theorem blockK_none (id : Nat) (K : KJ) (e : Env) (σ : St) : blockK id K none e σ = K none e σ := rfl
@[simp] theorem blockK_ret (id : Nat) (K : KJ) (e : Env) (σ : St) : blockK id K (some .ret) e σ = K (some .ret) e σ := rfl
@[simp] theorem blockK_exit (id i : Nat) (K : KJ) (e : Env) (σ : St) : blockK id K (some (.exit i)) e σ = if i = id then K none e σ else K (some (.exit i)) e σ := rfl
def RunK (T : FuncId → Option AFunc) (c : ACode) (e : Env) (σ : St) (K : KJ) : Prop := Run T (.code c e σ) fun o => K o.j o.env o.σ
@[congr] theorem RunK_congr {c : ACode} {e e' : Env} {σ σ' : St} {K : KJ} (h2 : e = e') (h3 : σ = σ') : RunK T c e σ K = RunK T c e' σ' K := by rw [h2, h3]
def wp (T : FuncId → Option AFunc) : ACode → Env → St → KJ → Prop
 | .skip, e, σ, K => K none e σ
 | .reg os, e, σ, K => wpOps T os e σ fun e σ => K none e σ
 | .seq a b, e, σ, K => wp T a e σ (thenK (fun _ e σ => wp T b e σ K) K)
 | .cond c a b, e, σ, K => bindB (c.ev e) (fun _ => wp T a e σ K) (fun _ => wp T b e σ K)
 | .block id b, e, σ, K => wp T b e σ (blockK id K)
 | .jump j, e, σ, K => K (some j) e σ
 | .scope b, e, σ, K => wp T b e σ K
 | c, e, σ, K => RunK T c e σ K
@[congr] theorem wp_congr {c : ACode} {e e' : Env} {σ σ' : St} {K : KJ} (h2 : e = e') (h3 : σ = σ') : wp T c e σ K = wp T c e' σ' K := by rw [h2, h3]
theorem run_wp {Q : Out → Prop} : ∀ {c : ACode} {e : Env} {σ : St} {K : KJ}, wp T c e σ K → (∀ o, K o.j o.env o.σ → Q o) → Run T (.code c e σ) Q := by
 intro c
 induction c generalizing Q with
 | skip => intro e σ K h hq; exact .skip (hq ⟨none, e, σ, .undef⟩ h)
 | reg os => intro e σ K h hq; exact .reg (run_wpOps h fun e σ hk => hq ⟨none, e, σ, .undef⟩ hk)
 | dreg ds => intro e σ K h hq; exact .mono h hq
 | seq a b iha ihb =>
  intro e σ K h hq
  refine .seq (iha h fun o ho => ho) (fun o ho hj => ?_) fun o ho hj => ?_
  ·simp only [hj, thenK] at ho
   exact ihb ho hq
  ·refine hq o ?_
   cases hj' : o.j with
   | none => exact absurd hj' hj
   | some j => simp only [hj', thenK] at ho; exact ho
 | cond c a b iha ihb =>
  intro e σ K h hq
  simp only [wp, bindB] at h
  split at h
  ·rename_i h1; exact .cond true h1 (iha h hq)
  ·rename_i h1; exact .cond false h1 (ihb h hq)
  ·exact h.elim
 | block id b ih =>
  intro e σ K h hq
  refine .block (ih h fun o ho => ho) fun o ho => hq _ ?_
  unfold blockK at ho
  split at ho
  ·rename_i i hj
   split at ho
   ·rename_i hi; subst hi; rw [if_pos hj]; exact ho
   ·rename_i hi; rw [if_neg (by rw [hj]; simpa using hi), hj]; exact ho
  ·rename_i hj
   rw [if_neg (fun e => hj _ e)]
   exact ho
 | loop b ih => intro e σ K h hq; exact .mono h hq
 | rangeFunc f ps a b _ _ => intro e σ K h hq; exact .mono h hq
 | jump j => intro e σ K h hq; exact .jump (hq ⟨some j, e, σ, .undef⟩ h)
 | scope b ih => intro e σ K h hq; exact .scope (ih h hq)
def Pure (T : FuncId → Option AFunc) (f : FuncId) (args : List AV) (v : AV) : Prop := ∀ σ, Run T (.call f args σ) fun o => o.v = v ∧ o.σ = σ
theorem st_get (σ τ : St) (k : Nat) : (σ ++ τ)[σ.length + k]? = τ[k]? := by rw [List.getElem?_append_right (by omega)]; congr 1; omega
theorem st_set (σ τ : St) (k : Nat) (x : ABlk) : (σ ++ τ).set (σ.length + k) x = σ ++ τ.set k x := by rw [List.set_append_right _ _ (by omega)]; congr 2; omega
theorem st_set0 (σ τ : St) (x : ABlk) : (σ ++ τ).set σ.length x = σ ++ τ.set 0 x := st_set σ τ 0 x
end Go.Am
namespace Go.Am
variable {T : FuncId → Option AFunc}
theorem q_put (e : Env) (d : Nat) (v : AV) : Env.put e (some d) v = (d, v) :: e := by simp only [Env.put]
theorem q_put0 (e : Env) (v : AV) : Env.put e none v = e := by simp only [Env.put]
theorem q_get (k : Nat) (v : AV) (e : Env) (t : Nat) : Env.get ((k, v) :: e) t = if k = t then v else Env.get e t := by simp only [Env.get]
theorem q_evt (e : Env) (t : Nat) : AOpd.ev e (.t t) = Env.get e t := by simp only [AOpd.ev]
theorem q_evc (e : Env) (v : AV) : AOpd.ev e (.c v) = v := by simp only [AOpd.ev]
theorem q_reg (os : List AOper) (e : Env) (σ : St) (K : KJ) : wp T (.reg os) e σ K = wpOps T os e σ fun e σ => K none e σ := by simp only [wp]
theorem q_seq (a b : ACode) (e : Env) (σ : St) (K : KJ) : wp T (.seq a b) e σ K = wp T a e σ (thenK (fun _ e σ => wp T b e σ K) K) := by simp only [wp]
theorem q_jump (j : AJump) (e : Env) (σ : St) (K : KJ) : wp T (.jump j) e σ K = K (some j) e σ := by simp only [wp]
theorem q_then (A K : KJ) (e : Env) (σ : St) : thenK A K none e σ = A none e σ := by simp only [thenK]
theorem q_nil (e : Env) (σ : St) (K : Env → St → Prop) : wpOps T [] e σ K = K e σ := by simp only [wpOps]
def optV (r : Option AV) (σ : St) (K : AV → St → Prop) : Prop := match r with | some v => K v σ | none => False
@[congr] theorem optV_congr {r r' : Option AV} {σ σ' : St} {K : AV → St → Prop} (h : r = r') (h2 : σ = σ') : optV r σ K = optV r' σ' K := by rw [h, h2]
def optC (r : Option (List AV)) (σ : St) (K : AV → St → Prop) : Prop := match r with | some cs => K (.agg cs) σ | none => False
@[congr] theorem optC_congr {r r' : Option (List AV)} {σ σ' : St} {K : AV → St → Prop} (h : r = r') (h2 : σ = σ') : optC r σ K = optC r' σ' K := by rw [h, h2]
def optS (r : Option St) (K : AV → St → Prop) : Prop := match r with | some σ => K (.tuple []) σ | none => False
@[congr] theorem optS_congr {r r' : Option St} {K : AV → St → Prop} (h : r = r') : optS r K = optS r' K := by rw [h]
def vCells (n : Nat) (v : AV) : Option (List AV) := if (v.cells.length == n && v.cells.all (·.cell)) = true then some v.cells else none
def vFaddr (off : Nat) : AV → Option AV
 | .ptr id o => some (.ptr id (o + off))
 | .lptr xs i o t => some (.lptr xs i (o + off) t)
 | _ => none
theorem q_faddrP (off id o : Nat) : vFaddr off (.ptr id o) = some (.ptr id (o + off)) := by simp [vFaddr]
theorem q_faddrL (off : Nat) (xs : List AV) (i o : Nat) (t : Option Nat) : vFaddr off (.lptr xs i o t) = some (.lptr xs i (o + off) t) := by simp [vFaddr]
def optN (r : Option (List AV)) (σ : St) (K : AV → St → Prop) : Prop := match r with | some cs => K (.ptr σ.length 0) (σ ++ [.cells cs]) | none => False
@[congr] theorem optN_congr {r r' : Option (List AV)} {σ σ' : St} {K : AV → St → Prop} (h : r = r') (h2 : σ = σ') : optN r σ K = optN r' σ' K := by rw [h, h2]
def vExt (i : Nat) : AV → Option AV
 | .tuple vs => vs[i]?
 | _ => none
theorem q_extT (i : Nat) (vs : List AV) : vExt i (.tuple vs) = vs[i]? := by simp [vExt]
def vNot : AV → Option AV
 | .bool b => some (.bool !b)
 | _ => none
theorem q_notB (b : Bool) : vNot (.bool b) = some (.bool !b) := by simp [vNot]
def vEql (sh : EqTy) (neg : Bool) (x y : AV) : Option AV := (eqSh sh x y).map fun b => .bool (if neg then !b else b)
theorem q_skip (e : Env) (σ : St) (K : KJ) : wp T .skip e σ K = K none e σ := by simp only [wp]
theorem q_block (id : Nat) (b : ACode) (e : Env) (σ : St) (K : KJ) : wp T (.block id b) e σ K = wp T b e σ (blockK id K) := by simp only [wp]
theorem q_scope (b : ACode) (e : Env) (σ : St) (K : KJ) : wp T (.scope b) e σ K = wp T b e σ K := by simp only [wp]
theorem q_thenJ (A K : KJ) (j : AJump) (e : Env) (σ : St) : thenK A K (some j) e σ = K (some j) e σ := by simp only [thenK]
theorem q_arg0 (k : Nat) : argsEnv k [] = [] := by simp only [argsEnv]
theorem q_arg (k : Nat) (v : AV) (vs : List AV) : argsEnv k (v :: vs) = (k, v) :: argsEnv (k + 1) vs := by simp only [argsEnv]
theorem q_bcI (e : Env) (cs : List AV) (off n : Nat) (x : AOpd) (rest : List (Nat × Nat × AOpd)) :
  buildCells e cs ((off, n, x) :: rest) = ((vCells n (x.ev e)).bind fun us => setCells cs off us).bind fun cs => buildCells e cs rest := by
 simp only [buildCells, vCells]; split
 ·simp only [Option.bind_some]; cases setCells cs off (x.ev e).cells <;> simp
 ·simp
end Go.Am
namespace Go.Am
variable {T : FuncId → Option AFunc}
def readP (r : ARead) : List St → Nat → Prop
 | [], _ => True
 | s :: ss, j => (if r.lo ≤ j ∧ j ≤ r.hi then aop r.op r.env s = some (r.v, s) else True) ∧ readP r ss (j + 1)
theorem readP_ok {r : ARead} : ∀ {hist : List St} {k : Nat}, readP r hist k → ∀ j s, r.lo ≤ k + j → k + j ≤ r.hi → hist[j]? = some s → aop r.op r.env s = some (r.v, s)
 | [], k, _, j, s, _, _, h => by simp at h
 | t :: ss, k, h, j, s, h1, h2, h3 => by
  obtain ⟨q1, q2⟩ := h
  cases j with
  | zero => simp at h3; subst h3; rw [if_pos ⟨by omega, by omega⟩] at q1; exact q1
  | succ j => exact readP_ok q2 j s (by omega) (by omega) (by simpa using h3)
def readsP : List ARead → List St → Prop
 | [], _ => True
 | r :: rs, hist => readP r hist 0 ∧ readsP rs hist
theorem readsP_ok : ∀ {rs : List ARead} {hist : List St}, readsP rs hist → ∀ r ∈ rs, ARead.ok r hist
 | [], _, _, r, h => by cases h
 | r :: rs, hist, h, q, hq => by
  rcases List.mem_cons.1 hq with rfl | hq
  ·intro j s h1 h2 h3
   exact readP_ok h.1 j s (by omega) (by omega) h3
  ·exact readsP_ok h.2 q hq
def CallD (T : FuncId → Option AFunc) (f : AV) (args : List AV) (σ : St) (K : AV → St → Prop) : Prop := ∃ v σ', Run T (.callv f args σ) (fun r => r.v = v ∧ r.σ = σ') ∧ K v σ'
@[congr] theorem CallD_congr {f f' : AV} {args args' : List AV} {σ σ' : St} {K : AV → St → Prop} (h1 : f = f') (h2 : args = args') (h3 : σ = σ') : CallD T f args σ K = CallD T f' args' σ' K := by rw [h1, h2, h3]
def wpD (T : FuncId → Option AFunc) : List ADOper → Env → St → Nat → List St → List ARead → (Env → St → Prop) → Prop
 | [], e, σ, _, hist, reads, K => readsP reads hist ∧ K e σ
 | ⟨⟨dst, .call f args, none⟩, _, _⟩ :: ds, e, σ, next, hist, reads, K => CallD T (f.ev e) (args.map (·.ev e)) σ fun v σ' => wpD T ds (Env.put e dst v) σ' next (hist ++ [σ']) reads K
 | ⟨⟨dst, .alloc _, none⟩, _, _⟩ :: ds, e, σ, next, hist, reads, K => wpD T ds (Env.put e dst (.ptr next 0)) σ (next + 1) hist reads K
 | ⟨⟨dst, q, none⟩, lo, hi⟩ :: ds, e, σ, next, hist, reads, K =>
  bindO (aop q e σ) fun v σ' =>
   if q.acts = true then wpD T ds (Env.put e dst v) σ' next (hist ++ [σ']) reads K
   else σ' = σ ∧ if q.reads = true then wpD T ds (Env.put e dst v) σ next hist (⟨lo, hi, q, e, v⟩ :: reads) K else wpD T ds (Env.put e dst v) σ next hist reads K
 | ⟨⟨dst, .call f args, some (t, want)⟩, _, _⟩ :: ds, e, σ, next, hist, reads, K =>
  bindG (Env.get e t) want (fun _ => CallD T (f.ev e) (args.map (·.ev e)) σ fun v σ' => wpD T ds (Env.put e dst v) σ' next (hist ++ [σ']) reads K)
   (fun _ => wpD T ds (Env.put e dst (.tuple [])) σ next (hist ++ [σ]) reads K)
 | ⟨⟨dst, q, some (t, want)⟩, lo, hi⟩ :: ds, e, σ, next, hist, reads, K =>
  bindG (Env.get e t) want
   (fun _ => q.allocs = false ∧ bindO (aop q e σ) fun v σ' =>
    if q.acts = true then wpD T ds (Env.put e dst v) σ' next (hist ++ [σ']) reads K
    else σ' = σ ∧ if q.reads = true then wpD T ds (Env.put e dst v) σ next hist (⟨lo, hi, q, e, v⟩ :: reads) K else wpD T ds (Env.put e dst v) σ next hist reads K)
   (fun _ => wpD T ds (Env.put e dst (.tuple [])) σ (if q.allocs then next + 1 else next) (if q.acts then hist ++ [σ] else hist) reads K)
theorem run_wpD {Q : Out → Prop} : ∀ {ds : List ADOper} {e : Env} {σ : St} {next : Nat} {hist : List St} {reads : List ARead} {K : Env → St → Prop}, wpD T ds e σ next hist reads K →
  (∀ e σ, K e σ → Q ⟨none, e, σ, .undef⟩) → Run T (.dops ds e σ next hist reads) Q
 | [], e, σ, next, hist, reads, K, h, hq => .dnil (readsP_ok h.1) (hq _ _ h.2)
 | ⟨⟨dst, q, g⟩, lo, hi⟩ :: ds, e, σ, next, hist, reads, K, h, hq => by
  -- an operation that is neither a call nor a new variable
  have key : AOper.wanted ⟨dst, q, g⟩ e = some true → q.allocs = false → (bindO (aop q e σ) fun v σ' =>
    if q.acts = true then wpD T ds (Env.put e dst v) σ' next (hist ++ [σ']) reads K
    else σ' = σ ∧ if q.reads = true then wpD T ds (Env.put e dst v) σ next hist (⟨lo, hi, q, e, v⟩ :: reads) K else wpD T ds (Env.put e dst v) σ next hist reads K) →
    Run T (.dops (⟨⟨dst, q, g⟩, lo, hi⟩ :: ds) e σ next hist reads) Q := by
   intro hw hal h
   unfold bindO at h
   split at h
   ·rename_i v σ' hv
    split at h
    ·rename_i ha; exact .dact hw ha hv (run_wpD h hq)
    ·rename_i ha
     obtain ⟨rfl, h⟩ := h
     split at h
     ·rename_i hr; exact .dread hw hr hv (run_wpD h hq)
     ·rename_i hr; exact .dpure hw (by simp [hal]; exact ⟨by simpa using ha, by simpa using hr⟩) hv (run_wpD h hq)
   ·exact h.elim
  by_cases hc : ∃ f args, q = .call f args
  ·obtain ⟨f, args, rfl⟩ := hc
   cases g with
   | none =>
    simp only [wpD, CallD] at h
    obtain ⟨v, σ', h1, h2⟩ := h
    exact .dcall rfl rfl h1 (run_wpD h2 hq)
   | some g =>
    obtain ⟨t, want⟩ := g
    simp only [wpD, bindG] at h
    split at h
    ·rename_i b h1
     split at h
     ·rename_i hb
      obtain ⟨v, σ', h3, h4⟩ := h
      exact .dcall (by simp [AOper.wanted, h1, hb]) rfl h3 (run_wpD h4 hq)
     ·rename_i hb
      exact .doff (by simp [AOper.wanted, h1]; simpa using hb) (by simpa [AOp.allocs, AOp.acts] using run_wpD h hq)
    ·rename_i h1
     exact .doff (by simp [AOper.wanted, h1]) (by simpa [AOp.allocs, AOp.acts] using run_wpD h hq)
    ·exact h.elim
  ·cases g with
   | none =>
    by_cases hal : ∃ z, q = .alloc z
    ·obtain ⟨z, rfl⟩ := hal
     simp only [wpD] at h
     exact .dalloc rfl rfl (run_wpD h hq)
    ·refine key rfl ?_ ?_
     ·cases q <;> first | rfl | exact absurd ⟨_, rfl⟩ hal
     ·cases q <;> first | exact h | exact absurd ⟨_, _, rfl⟩ hc | exact absurd ⟨_, rfl⟩ hal
   | some g =>
    obtain ⟨t, want⟩ := g
    have h : bindG (Env.get e t) want (fun _ => q.allocs = false ∧ bindO (aop q e σ) fun v σ' =>
      if q.acts = true then wpD T ds (Env.put e dst v) σ' next (hist ++ [σ']) reads K
      else σ' = σ ∧ if q.reads = true then wpD T ds (Env.put e dst v) σ next hist (⟨lo, hi, q, e, v⟩ :: reads) K else wpD T ds (Env.put e dst v) σ next hist reads K)
      (fun _ => wpD T ds (Env.put e dst (.tuple [])) σ (if q.allocs then next + 1 else next) (if q.acts then hist ++ [σ] else hist) reads K) := by
     cases q <;> first | exact h | exact absurd ⟨_, _, rfl⟩ hc
    simp only [bindG] at h
    split at h
    ·rename_i b h1
     split at h
     ·rename_i hb
      exact key (by simp [AOper.wanted, h1, hb]) h.1 h.2
     ·rename_i hb
      exact .doff (by simp [AOper.wanted, h1]; simpa using hb) (run_wpD h hq)
    ·rename_i h1
     exact .doff (by simp [AOper.wanted, h1]) (run_wpD h hq)
    ·exact h.elim
end Go.Am
namespace Go.Am
variable {T : FuncId → Option AFunc}
class HP (α : Type) where
 out : α
def bO (r : Option (AV × St)) [K : HP (AV → St → Prop)] : Prop := bindO r K.out
theorem B_some (v : AV) (σ : St) (K : AV → St → Prop) : bO (K := ⟨K⟩) (some (v, σ)) = K v σ := by simp only [bO, bindO]
def cK (T : FuncId → Option AFunc) (f : AV) (args : List AV) (σ : St) [K : HP (AV → St → Prop)] : Prop := CallK T f args σ K.out
def cD (T : FuncId → Option AFunc) (f : AV) (args : List AV) (σ : St) [K : HP (AV → St → Prop)] : Prop := CallD T f args σ K.out
def rK (T : FuncId → Option AFunc) (c : ACode) (e : Env) (σ : St) [K : HP KJ] : Prop := RunK T c e σ K.out
def iteP (b : Bool) [A : HP Prop] [B : HP Prop] : Prop := if b = true then A.out else B.out
theorem iteP_true (A : Prop) (B : HP Prop) : iteP (A := ⟨A⟩) true = A := by simp [iteP]
theorem iteP_false (A : HP Prop) (B : Prop) : iteP (B := ⟨B⟩) false = B := by simp [iteP]
theorem iteP_intro {b : Bool} {A B : Prop} (h1 : b = true → A) (h2 : b = false → B) : iteP (A := ⟨A⟩) (B := ⟨B⟩) b := by cases b <;> simp [iteP] <;> first | exact h1 rfl | exact h2 rfl
def bB (v : AV) [A : HP Prop] [B : HP Prop] : Prop := bindB v (fun _ => A.out) (fun _ => B.out)
def bG (v : AV) (want : Bool) [A : HP Prop] [B : HP Prop] : Prop := bindG v want (fun _ => A.out) (fun _ => B.out)
theorem W_loop (b : ACode) (e : Env) (σ : St) (K : KJ) : wp T (.loop b) e σ K = rK (K := ⟨K⟩) T (.loop b) e σ := by simp only [wp, rK]
theorem W_range (f : AOpd) (ps : List Nat) (a b : ACode) (e : Env) (σ : St) (K : KJ) : wp T (.rangeFunc f ps a b) e σ K = rK (K := ⟨K⟩) T (.rangeFunc f ps a b) e σ := by simp only [wp, rK]
theorem W_cond (c : AOpd) (a b : ACode) (e : Env) (σ : St) (K : KJ) : wp T (.cond c a b) e σ K = bB (A := ⟨wp T a e σ K⟩) (B := ⟨wp T b e σ K⟩) (c.ev e) := by simp only [wp, bB]
def evs (e : Env) : List AOpd → List AV
 | [] => []
 | x :: xs => x.ev e :: evs e xs
theorem evs_map (e : Env) : ∀ xs : List AOpd, xs.map (·.ev e) = evs e xs
 | [] => rfl
 | x :: xs => by simp [evs, evs_map e xs]
def ovs (e : Env) : Option AOpd → Option AV
 | none => none
 | some x => some (x.ev e)
def vPick : AV → AV → AV → Option AV
 | .bool true, x, _ => some x
 | .bool false, _, y => some y
 | _, _, _ => none
def vLit (n : Nat) (xs : List AV) : Option AV := if allCells n xs = true then some (.lit xs true none) else none
def vNil : AV → Option AV
 | .ptr i o => some (.ptr i o)
 | .lptr xs i o t => some (.lptr xs i o t)
 | .func f a b => some (.func f a b)
 | .yield i => some (.yield i)
 | _ => none
def vNeg : AV → Option AV
 | .int k n => some (.int k (k.wrap (0 - n)))
 | _ => none
def vConv (k : IntKind) : AV → Option AV
 | .int _ n => some (.int k (k.wrap n))
 | _ => none
def vStr : AV → Option ByteArray
 | .str s => some s
 | _ => none
def vSnext (σ : St) : AV → Option (AV × St)
 | .ptr id 0 =>
  match σ[id]? with
  | some (.siter s pos) =>
   if pos < s.size then some (.tuple [.bool true, .int .i64 pos, .int .i32 (Utf8.decode s pos).1], σ.set id (.siter s (pos + (Utf8.decode s pos).2)))
   else some (.tuple [.bool false], σ)
  | _ => none
 | _ => none
def vMkslice (bytes : Nat) (l c : AV) : Option Nat :=
 match l, c with
 | .int _ n, .int _ m => if 0 ≤ n ∧ n = m ∧ n * bytes ≤ room ∧ n ≤ room then some n.toNat else none
 | _, _ => none
def vBound (d : Nat) : Option AV → Option Int
 | none => some d
 | some x => intOf x
def vSlicev (sz : Nat) (σ : St) (x : AV) (lo hi mx : Option AV) : Option AV :=
 match lenAV 1 σ x with
 | none => none
 | some n =>
  match vBound 0 lo, vBound n hi, mx.map intOf with
  | some l, some h, none => sliceAV sz x l h false
  | some l, some h, some (some m) => if m = h ∧ hi.isSome = true then sliceAV sz x l h true else none
  | _, _, _ => none
def vSlicea (n sz : Nat) (x : AV) (lo hi : Option AV) : Option AV :=
 match x, vBound 0 lo, vBound n hi with
 | .ptr id off, some l, some h => if 0 ≤ l ∧ l ≤ h ∧ h ≤ n then some (.ref id (off + l.toNat * sz) (h.toNat - l.toNat) sz) else none
 | _, _, _ => none
def vField (off : Nat) (sh : Option Nat) : AV → Option AV
 | .agg cs => shaped sh cs off
 | _ => none
def vIaddr (arr : Option Nat) (sz : Nat) (x i : AV) : Option AV :=
 match intOf i, arr, x with
 | some j, some n, .ptr id off => if 0 ≤ j ∧ j < n then some (.ptr id (off + j.toNat * sz)) else none
 | some j, some n, .lptr xs q off t => if 0 ≤ j ∧ j < n then some (.lptr xs q (off + j.toNat * sz) t) else none
 | some j, none, .lit xs _ t =>
  match xs[j.toNat]? with
  | some y => if 0 ≤ j ∧ y.cells.length = sz then some (.lptr xs j.toNat 0 t) else none
  | none => none
 | some j, none, .ref id off len sz' => if 0 ≤ j ∧ j < len ∧ sz' = sz then some (.ptr id (off + j.toNat * sz)) else none
 | _, _, _ => none
def vIndex (n sz : Nat) (sh : Option Nat) (x i : AV) : Option AV :=
 match intOf i, x with
 | some j, .agg cs => if 0 ≤ j ∧ j < n then shaped sh cs (j.toNat * sz) else none
 | _, _ => none
def vSindex (x i : AV) : Option AV :=
 match intOf i, x with
 | some j, .str s => if 0 ≤ j then (s[j.toNat]?).map fun b => .int .u8 b.toNat else none
 | _, _ => none
def vLook (ok : Bool) (zero : AV) : Option (Option AV) → Option AV
 | some (some v) => some (if ok then .tuple [v, .bool true] else v)
 | some none => some (if ok then .tuple [zero, .bool false] else zero)
 | none => none
def vMapset (sh : EqTy) (σ : St) (m k v : AV) : Option St :=
 match m with
 | .map id =>
  if (eqSh sh k k).isSome = false then none else
  match σ[id]? with
  | some (.map es) => (setKey sh k v es).map fun es' => σ.set id (.map es')
  | _ => none
 | _ => none
theorem A_mov (x : AOpd) (e : Env) (σ : St) : aop (.mov x) e σ = some (x.ev e, σ) := by
 simp only [aop]
theorem A_alloc (z : List AV) (e : Env) (σ : St) : aop (.alloc z) e σ = some (.ptr σ.length 0, σ ++ [.cells z]) := by
 simp only [aop]
theorem A_pick (c x y : AOpd) (e : Env) (σ : St) : aop (.pick c x y) e σ = (vPick (c.ev e) (x.ev e) (y.ev e)).map (·, σ) := by
 simp only [aop, vPick]; repeat' split
 all_goals simp_all
theorem A_box (n : Nat) (x : AOpd) (e : Env) (σ : St) : aop (.box n x) e σ = (vCells n (x.ev e)).map fun cs => (.ptr σ.length 0, σ ++ [.cells cs]) := by
 simp only [aop, vCells]; split <;> simp_all
theorem A_build (z : List AV) (ps : List (Nat × Nat × AOpd)) (e : Env) (σ : St) : aop (.build z ps) e σ = (buildCells e z ps).map fun cs => (.agg cs, σ) := by
 simp only [aop]; cases buildCells e z ps <;> simp
theorem A_mklit (n : Nat) (xs : List AOpd) (e : Env) (σ : St) : aop (.mklit n xs) e σ = (vLit n (evs e xs)).map (·, σ) := by
 simp only [aop, vLit, evs_map]; split <;> simp_all
theorem A_mkref (n : Nat) (xs : List AOpd) (e : Env) (σ : St) : aop (.mkref n xs) e σ = (vLit n (evs e xs)).map fun _ => (.ref σ.length 0 (evs e xs).length n, σ ++ [.cells ((evs e xs).flatMap AV.cells)]) := by
 simp only [aop, vLit, evs_map]; have := congrArg List.length (evs_map e xs); split <;> simp_all
theorem A_load (sh : Option Nat) (x : AOpd) (e : Env) (σ : St) : aop (.load sh x) e σ = (loadAV sh σ (x.ev e)).map (·, σ) := by
 simp only [aop]; cases loadAV sh σ (x.ev e) <;> simp
theorem A_store (n : Nat) (x y : AOpd) (e : Env) (σ : St) : aop (.store n x y) e σ = (storeAV n σ (x.ev e) (y.ev e)).map (.tuple [], ·) := by
 simp only [aop]; cases storeAV n σ (x.ev e) (y.ev e) <;> simp
theorem A_nilCheck (x : AOpd) (e : Env) (σ : St) : aop (.nilCheck x) e σ = (vNil (x.ev e)).map (·, σ) := by
 simp only [aop, vNil]; cases x.ev e <;> simp
theorem A_bin (op : BinOp) (x y : AOpd) (e : Env) (σ : St) : aop (.bin op x y) e σ = (binAV op (x.ev e) (y.ev e)).map (·, σ) := by
 simp only [aop]; cases binAV op (x.ev e) (y.ev e) <;> simp
theorem A_eql (sh : EqTy) (n : Bool) (x y : AOpd) (e : Env) (σ : St) : aop (.eql sh n x y) e σ = (vEql sh n (x.ev e) (y.ev e)).map (·, σ) := by
 simp only [aop, vEql]; cases eqSh sh (x.ev e) (y.ev e) <;> simp
theorem A_not (x : AOpd) (e : Env) (σ : St) : aop (.not x) e σ = (vNot (x.ev e)).map (·, σ) := by
 simp only [aop, vNot]; cases x.ev e <;> simp
theorem A_neg (x : AOpd) (e : Env) (σ : St) : aop (.neg x) e σ = (vNeg (x.ev e)).map (·, σ) := by
 simp only [aop, vNeg]; cases x.ev e <;> simp
theorem A_conv (k : IntKind) (x : AOpd) (e : Env) (σ : St) : aop (.conv k x) e σ = (vConv k (x.ev e)).map (·, σ) := by
 simp only [aop, vConv]; cases x.ev e <;> simp
theorem A_mkfun (f : FuncId) (xs ys : List AOpd) (e : Env) (σ : St) : aop (.mkfun f xs ys) e σ = some (.func f (evs e xs) (evs e ys), σ) := by
 simp only [aop, evs_map]
theorem A_mkmap  (e : Env) (σ : St) : aop (.mkmap) e σ = some (.map σ.length, σ ++ [.map []]) := by
 simp only [aop]
theorem A_mkslice (z : List AV) (b : Nat) (x y : AOpd) (e : Env) (σ : St) : aop (.mkslice z b x y) e σ = (vMkslice b (x.ev e) (y.ev e)).map fun n => (.ref σ.length 0 n z.length, σ ++ [.cells (List.replicate n z).flatten]) := by
 simp only [aop, vMkslice]; generalize x.ev e = u; generalize y.ev e = v; cases u <;> cases v <;> first | rfl | (dsimp only; split <;> first | rfl | simp_all | (split <;> simp_all))
theorem A_slicev (n : Nat) (x : AOpd) (lo hi mx : Option AOpd) (e : Env) (σ : St) : aop (.slicev n x lo hi mx) e σ = (vSlicev n σ (x.ev e) (ovs e lo) (ovs e hi) (ovs e mx)).map (·, σ) := by
 simp only [aop, vSlicev]; cases lenAV 1 σ (x.ev e) <;> cases lo <;> cases hi <;> cases mx <;> simp only [boundOr, vBound, ovs, Option.map_none, Option.map_some] <;> repeat' split
 all_goals simp_all
theorem A_slicea (n s : Nat) (x : AOpd) (lo hi : Option AOpd) (e : Env) (σ : St) : aop (.slicea n s x lo hi) e σ = (vSlicea n s (x.ev e) (ovs e lo) (ovs e hi)).map (·, σ) := by
 simp only [aop, vSlicea]; generalize x.ev e = u; cases lo with
 | none => cases hi with
  | none => simp only [boundOr, vBound, ovs]; cases u <;> first | rfl | (dsimp only; split <;> first | rfl | simp_all | (split <;> simp_all))
  | some h => simp only [boundOr, vBound, ovs]; generalize intOf (h.ev e) = p; cases u <;> cases p <;> first | rfl | (dsimp only; split <;> first | rfl | simp_all | (split <;> simp_all))
 | some l => cases hi with
  | none => simp only [boundOr, vBound, ovs]; generalize intOf (l.ev e) = p; cases u <;> cases p <;> first | rfl | (dsimp only; split <;> first | rfl | simp_all | (split <;> simp_all))
  | some h => simp only [boundOr, vBound, ovs]; generalize intOf (l.ev e) = p; generalize intOf (h.ev e) = q; cases u <;> cases p <;> cases q <;> first | rfl | (dsimp only; split <;> first | rfl | simp_all | (split <;> simp_all))
theorem A_faddr (x : AOpd) (o : Nat) (e : Env) (σ : St) : aop (.faddr x o) e σ = (vFaddr o (x.ev e)).map (·, σ) := by
 simp only [aop, vFaddr]; cases x.ev e <;> simp
theorem A_field (x : AOpd) (o : Nat) (sh : Option Nat) (e : Env) (σ : St) : aop (.field x o sh) e σ = (vField o sh (x.ev e)).map (·, σ) := by
 simp only [aop, vField]; cases x.ev e <;> simp <;> (rename_i cs; cases shaped sh cs o <;> simp)
theorem A_iaddr (a : Option Nat) (s : Nat) (x i : AOpd) (e : Env) (σ : St) : aop (.iaddr a s x i) e σ = (vIaddr a s (x.ev e) (i.ev e)).map (·, σ) := by
 simp only [aop, vIaddr]; generalize intOf (i.ev e) = q; generalize x.ev e = u; cases q <;> cases a <;> cases u <;> first | rfl | (dsimp only; split <;> first | rfl | simp_all | (split <;> simp_all))
theorem A_index (n s : Nat) (sh : Option Nat) (x i : AOpd) (e : Env) (σ : St) : aop (.index n s sh x i) e σ = (vIndex n s sh (x.ev e) (i.ev e)).map (·, σ) := by
 simp only [aop, vIndex]; generalize intOf (i.ev e) = q; generalize x.ev e = u; cases q <;> cases u <;> first | rfl | (dsimp only; split <;> first | rfl | simp_all | (split <;> simp_all))
theorem A_sindex (x i : AOpd) (e : Env) (σ : St) : aop (.sindex x i) e σ = (vSindex (x.ev e) (i.ev e)).map (·, σ) := by
 simp only [aop, vSindex]; generalize intOf (i.ev e) = q; generalize x.ev e = u; cases q <;> cases u <;> first | rfl | (dsimp only; split <;> first | rfl | (rename_i k b h; cases b[k.toNat]? <;> rfl))
theorem A_lookup (sh : EqTy) (ok : Bool) (z : AV) (m k : AOpd) (e : Env) (σ : St) : aop (.lookup sh ok z m k) e σ = (vLook ok z (lookAV sh σ (m.ev e) (k.ev e))).map (·, σ) := by
 simp only [aop, vLook]; cases lookAV sh σ (m.ev e) (k.ev e) with
 | none => rfl
 | some o => cases o <;> rfl
theorem A_mapset (sh : EqTy) (m k v : AOpd) (e : Env) (σ : St) : aop (.mapset sh m k v) e σ = (vMapset sh σ (m.ev e) (k.ev e) (v.ev e)).map (.tuple [], ·) := by
 simp only [aop, vMapset]; repeat' split
 all_goals simp_all
theorem A_ext (x : AOpd) (i : Nat) (e : Env) (σ : St) : aop (.ext x i) e σ = (vExt i (x.ev e)).map (·, σ) := by
 simp only [aop, vExt]; cases x.ev e <;> simp <;> (rename_i vs; cases vs[i]? <;> simp)
theorem A_len (k : Nat) (x : AOpd) (e : Env) (σ : St) : aop (.len k x) e σ = (lenAV k σ (x.ev e)).map fun n => (.int .i64 n, σ) := by
 simp only [aop]; cases lenAV k σ (x.ev e) <;> simp
theorem A_append (n b : Nat) (x y : AOpd) (e : Env) (σ : St) : aop (.append n b x y) e σ = appendAV n b σ (x.ev e) (y.ev e) := by
 simp only [aop]
theorem A_apref (n b : Nat) (x y : AOpd) (e : Env) (σ : St) : aop (.apref n b x y) e σ = aprefAV n b σ (x.ev e) (y.ev e) := by
 simp only [aop]
theorem A_copy (n : Nat) (x y : AOpd) (e : Env) (σ : St) : aop (.copy n x y) e σ = copyAV n σ (x.ev e) (y.ev e) := by
 simp only [aop]
theorem A_min (xs : List AOpd) (e : Env) (σ : St) : aop (.min xs) e σ = (minAV (evs e xs)).map (·, σ) := by
 simp only [aop, evs_map]; cases minAV (evs e xs) <;> simp
theorem A_max (xs : List AOpd) (e : Env) (σ : St) : aop (.max xs) e σ = (maxAV (evs e xs)).map (·, σ) := by
 simp only [aop, evs_map]; cases maxAV (evs e xs) <;> simp
theorem A_srange (x : AOpd) (e : Env) (σ : St) : aop (.srange x) e σ = (vStr (x.ev e)).map fun s => (.ptr σ.length 0, σ ++ [.siter s 0]) := by
 simp only [aop, vStr]; cases x.ev e <;> simp
theorem A_snext (x : AOpd) (e : Env) (σ : St) : aop (.snext x) e σ = vSnext σ (x.ev e) := by
 simp only [aop, vSnext]; cases x.ev e <;> rfl
theorem W_mov (x : AOpd) (d : Option Nat) (os : List AOper) (e : Env) (σ : St) (K : Env → St → Prop) : wpOps T (⟨d, .mov x, none⟩ :: os) e σ K = bO (K := ⟨fun v σ' => wpOps T os (Env.put e d v) σ' K⟩) (aop (.mov x) e σ) := by simp only [wpOps, wpOp, bO]
theorem W_alloc (z : List AV) (d : Option Nat) (os : List AOper) (e : Env) (σ : St) (K : Env → St → Prop) : wpOps T (⟨d, .alloc z, none⟩ :: os) e σ K = bO (K := ⟨fun v σ' => wpOps T os (Env.put e d v) σ' K⟩) (aop (.alloc z) e σ) := by simp only [wpOps, wpOp, bO]
theorem W_pick (c x y : AOpd) (d : Option Nat) (os : List AOper) (e : Env) (σ : St) (K : Env → St → Prop) : wpOps T (⟨d, .pick c x y, none⟩ :: os) e σ K = bO (K := ⟨fun v σ' => wpOps T os (Env.put e d v) σ' K⟩) (aop (.pick c x y) e σ) := by simp only [wpOps, wpOp, bO]
theorem W_box (n : Nat) (x : AOpd) (d : Option Nat) (os : List AOper) (e : Env) (σ : St) (K : Env → St → Prop) : wpOps T (⟨d, .box n x, none⟩ :: os) e σ K = bO (K := ⟨fun v σ' => wpOps T os (Env.put e d v) σ' K⟩) (aop (.box n x) e σ) := by simp only [wpOps, wpOp, bO]
theorem W_build (z : List AV) (ps : List (Nat × Nat × AOpd)) (d : Option Nat) (os : List AOper) (e : Env) (σ : St) (K : Env → St → Prop) : wpOps T (⟨d, .build z ps, none⟩ :: os) e σ K = bO (K := ⟨fun v σ' => wpOps T os (Env.put e d v) σ' K⟩) (aop (.build z ps) e σ) := by simp only [wpOps, wpOp, bO]
theorem W_mklit (n : Nat) (xs : List AOpd) (d : Option Nat) (os : List AOper) (e : Env) (σ : St) (K : Env → St → Prop) : wpOps T (⟨d, .mklit n xs, none⟩ :: os) e σ K = bO (K := ⟨fun v σ' => wpOps T os (Env.put e d v) σ' K⟩) (aop (.mklit n xs) e σ) := by simp only [wpOps, wpOp, bO]
theorem W_mkref (n : Nat) (xs : List AOpd) (d : Option Nat) (os : List AOper) (e : Env) (σ : St) (K : Env → St → Prop) : wpOps T (⟨d, .mkref n xs, none⟩ :: os) e σ K = bO (K := ⟨fun v σ' => wpOps T os (Env.put e d v) σ' K⟩) (aop (.mkref n xs) e σ) := by simp only [wpOps, wpOp, bO]
theorem W_load (sh : Option Nat) (x : AOpd) (d : Option Nat) (os : List AOper) (e : Env) (σ : St) (K : Env → St → Prop) : wpOps T (⟨d, .load sh x, none⟩ :: os) e σ K = bO (K := ⟨fun v σ' => wpOps T os (Env.put e d v) σ' K⟩) (aop (.load sh x) e σ) := by simp only [wpOps, wpOp, bO]
theorem W_store (n : Nat) (x y : AOpd) (d : Option Nat) (os : List AOper) (e : Env) (σ : St) (K : Env → St → Prop) : wpOps T (⟨d, .store n x y, none⟩ :: os) e σ K = bO (K := ⟨fun v σ' => wpOps T os (Env.put e d v) σ' K⟩) (aop (.store n x y) e σ) := by simp only [wpOps, wpOp, bO]
theorem W_nilCheck (x : AOpd) (d : Option Nat) (os : List AOper) (e : Env) (σ : St) (K : Env → St → Prop) : wpOps T (⟨d, .nilCheck x, none⟩ :: os) e σ K = bO (K := ⟨fun v σ' => wpOps T os (Env.put e d v) σ' K⟩) (aop (.nilCheck x) e σ) := by simp only [wpOps, wpOp, bO]
theorem W_bin (op : BinOp) (x y : AOpd) (d : Option Nat) (os : List AOper) (e : Env) (σ : St) (K : Env → St → Prop) : wpOps T (⟨d, .bin op x y, none⟩ :: os) e σ K = bO (K := ⟨fun v σ' => wpOps T os (Env.put e d v) σ' K⟩) (aop (.bin op x y) e σ) := by simp only [wpOps, wpOp, bO]
theorem W_eql (sh : EqTy) (n : Bool) (x y : AOpd) (d : Option Nat) (os : List AOper) (e : Env) (σ : St) (K : Env → St → Prop) : wpOps T (⟨d, .eql sh n x y, none⟩ :: os) e σ K = bO (K := ⟨fun v σ' => wpOps T os (Env.put e d v) σ' K⟩) (aop (.eql sh n x y) e σ) := by simp only [wpOps, wpOp, bO]
theorem W_not (x : AOpd) (d : Option Nat) (os : List AOper) (e : Env) (σ : St) (K : Env → St → Prop) : wpOps T (⟨d, .not x, none⟩ :: os) e σ K = bO (K := ⟨fun v σ' => wpOps T os (Env.put e d v) σ' K⟩) (aop (.not x) e σ) := by simp only [wpOps, wpOp, bO]
theorem W_neg (x : AOpd) (d : Option Nat) (os : List AOper) (e : Env) (σ : St) (K : Env → St → Prop) : wpOps T (⟨d, .neg x, none⟩ :: os) e σ K = bO (K := ⟨fun v σ' => wpOps T os (Env.put e d v) σ' K⟩) (aop (.neg x) e σ) := by simp only [wpOps, wpOp, bO]
theorem W_conv (k : IntKind) (x : AOpd) (d : Option Nat) (os : List AOper) (e : Env) (σ : St) (K : Env → St → Prop) : wpOps T (⟨d, .conv k x, none⟩ :: os) e σ K = bO (K := ⟨fun v σ' => wpOps T os (Env.put e d v) σ' K⟩) (aop (.conv k x) e σ) := by simp only [wpOps, wpOp, bO]
theorem W_mkfun (f : FuncId) (xs ys : List AOpd) (d : Option Nat) (os : List AOper) (e : Env) (σ : St) (K : Env → St → Prop) : wpOps T (⟨d, .mkfun f xs ys, none⟩ :: os) e σ K = bO (K := ⟨fun v σ' => wpOps T os (Env.put e d v) σ' K⟩) (aop (.mkfun f xs ys) e σ) := by simp only [wpOps, wpOp, bO]
theorem W_mkmap  (d : Option Nat) (os : List AOper) (e : Env) (σ : St) (K : Env → St → Prop) : wpOps T (⟨d, .mkmap, none⟩ :: os) e σ K = bO (K := ⟨fun v σ' => wpOps T os (Env.put e d v) σ' K⟩) (aop (.mkmap) e σ) := by simp only [wpOps, wpOp, bO]
theorem W_mkslice (z : List AV) (b : Nat) (x y : AOpd) (d : Option Nat) (os : List AOper) (e : Env) (σ : St) (K : Env → St → Prop) : wpOps T (⟨d, .mkslice z b x y, none⟩ :: os) e σ K = bO (K := ⟨fun v σ' => wpOps T os (Env.put e d v) σ' K⟩) (aop (.mkslice z b x y) e σ) := by simp only [wpOps, wpOp, bO]
theorem W_slicev (n : Nat) (x : AOpd) (lo hi mx : Option AOpd) (d : Option Nat) (os : List AOper) (e : Env) (σ : St) (K : Env → St → Prop) : wpOps T (⟨d, .slicev n x lo hi mx, none⟩ :: os) e σ K = bO (K := ⟨fun v σ' => wpOps T os (Env.put e d v) σ' K⟩) (aop (.slicev n x lo hi mx) e σ) := by simp only [wpOps, wpOp, bO]
theorem W_slicea (n s : Nat) (x : AOpd) (lo hi : Option AOpd) (d : Option Nat) (os : List AOper) (e : Env) (σ : St) (K : Env → St → Prop) : wpOps T (⟨d, .slicea n s x lo hi, none⟩ :: os) e σ K = bO (K := ⟨fun v σ' => wpOps T os (Env.put e d v) σ' K⟩) (aop (.slicea n s x lo hi) e σ) := by simp only [wpOps, wpOp, bO]
theorem W_faddr (x : AOpd) (o : Nat) (d : Option Nat) (os : List AOper) (e : Env) (σ : St) (K : Env → St → Prop) : wpOps T (⟨d, .faddr x o, none⟩ :: os) e σ K = bO (K := ⟨fun v σ' => wpOps T os (Env.put e d v) σ' K⟩) (aop (.faddr x o) e σ) := by simp only [wpOps, wpOp, bO]
theorem W_field (x : AOpd) (o : Nat) (sh : Option Nat) (d : Option Nat) (os : List AOper) (e : Env) (σ : St) (K : Env → St → Prop) : wpOps T (⟨d, .field x o sh, none⟩ :: os) e σ K = bO (K := ⟨fun v σ' => wpOps T os (Env.put e d v) σ' K⟩) (aop (.field x o sh) e σ) := by simp only [wpOps, wpOp, bO]
theorem W_iaddr (a : Option Nat) (s : Nat) (x i : AOpd) (d : Option Nat) (os : List AOper) (e : Env) (σ : St) (K : Env → St → Prop) : wpOps T (⟨d, .iaddr a s x i, none⟩ :: os) e σ K = bO (K := ⟨fun v σ' => wpOps T os (Env.put e d v) σ' K⟩) (aop (.iaddr a s x i) e σ) := by simp only [wpOps, wpOp, bO]
theorem W_index (n s : Nat) (sh : Option Nat) (x i : AOpd) (d : Option Nat) (os : List AOper) (e : Env) (σ : St) (K : Env → St → Prop) : wpOps T (⟨d, .index n s sh x i, none⟩ :: os) e σ K = bO (K := ⟨fun v σ' => wpOps T os (Env.put e d v) σ' K⟩) (aop (.index n s sh x i) e σ) := by simp only [wpOps, wpOp, bO]
theorem W_sindex (x i : AOpd) (d : Option Nat) (os : List AOper) (e : Env) (σ : St) (K : Env → St → Prop) : wpOps T (⟨d, .sindex x i, none⟩ :: os) e σ K = bO (K := ⟨fun v σ' => wpOps T os (Env.put e d v) σ' K⟩) (aop (.sindex x i) e σ) := by simp only [wpOps, wpOp, bO]
theorem W_lookup (sh : EqTy) (ok : Bool) (z : AV) (m k : AOpd) (d : Option Nat) (os : List AOper) (e : Env) (σ : St) (K : Env → St → Prop) : wpOps T (⟨d, .lookup sh ok z m k, none⟩ :: os) e σ K = bO (K := ⟨fun v σ' => wpOps T os (Env.put e d v) σ' K⟩) (aop (.lookup sh ok z m k) e σ) := by simp only [wpOps, wpOp, bO]
theorem W_mapset (sh : EqTy) (m k v : AOpd) (d : Option Nat) (os : List AOper) (e : Env) (σ : St) (K : Env → St → Prop) : wpOps T (⟨d, .mapset sh m k v, none⟩ :: os) e σ K = bO (K := ⟨fun v σ' => wpOps T os (Env.put e d v) σ' K⟩) (aop (.mapset sh m k v) e σ) := by simp only [wpOps, wpOp, bO]
theorem W_ext (x : AOpd) (i : Nat) (d : Option Nat) (os : List AOper) (e : Env) (σ : St) (K : Env → St → Prop) : wpOps T (⟨d, .ext x i, none⟩ :: os) e σ K = bO (K := ⟨fun v σ' => wpOps T os (Env.put e d v) σ' K⟩) (aop (.ext x i) e σ) := by simp only [wpOps, wpOp, bO]
theorem W_len (k : Nat) (x : AOpd) (d : Option Nat) (os : List AOper) (e : Env) (σ : St) (K : Env → St → Prop) : wpOps T (⟨d, .len k x, none⟩ :: os) e σ K = bO (K := ⟨fun v σ' => wpOps T os (Env.put e d v) σ' K⟩) (aop (.len k x) e σ) := by simp only [wpOps, wpOp, bO]
theorem W_append (n b : Nat) (x y : AOpd) (d : Option Nat) (os : List AOper) (e : Env) (σ : St) (K : Env → St → Prop) : wpOps T (⟨d, .append n b x y, none⟩ :: os) e σ K = bO (K := ⟨fun v σ' => wpOps T os (Env.put e d v) σ' K⟩) (aop (.append n b x y) e σ) := by simp only [wpOps, wpOp, bO]
theorem W_apref (n b : Nat) (x y : AOpd) (d : Option Nat) (os : List AOper) (e : Env) (σ : St) (K : Env → St → Prop) : wpOps T (⟨d, .apref n b x y, none⟩ :: os) e σ K = bO (K := ⟨fun v σ' => wpOps T os (Env.put e d v) σ' K⟩) (aop (.apref n b x y) e σ) := by simp only [wpOps, wpOp, bO]
theorem W_copy (n : Nat) (x y : AOpd) (d : Option Nat) (os : List AOper) (e : Env) (σ : St) (K : Env → St → Prop) : wpOps T (⟨d, .copy n x y, none⟩ :: os) e σ K = bO (K := ⟨fun v σ' => wpOps T os (Env.put e d v) σ' K⟩) (aop (.copy n x y) e σ) := by simp only [wpOps, wpOp, bO]
theorem W_min (xs : List AOpd) (d : Option Nat) (os : List AOper) (e : Env) (σ : St) (K : Env → St → Prop) : wpOps T (⟨d, .min xs, none⟩ :: os) e σ K = bO (K := ⟨fun v σ' => wpOps T os (Env.put e d v) σ' K⟩) (aop (.min xs) e σ) := by simp only [wpOps, wpOp, bO]
theorem W_max (xs : List AOpd) (d : Option Nat) (os : List AOper) (e : Env) (σ : St) (K : Env → St → Prop) : wpOps T (⟨d, .max xs, none⟩ :: os) e σ K = bO (K := ⟨fun v σ' => wpOps T os (Env.put e d v) σ' K⟩) (aop (.max xs) e σ) := by simp only [wpOps, wpOp, bO]
theorem W_srange (x : AOpd) (d : Option Nat) (os : List AOper) (e : Env) (σ : St) (K : Env → St → Prop) : wpOps T (⟨d, .srange x, none⟩ :: os) e σ K = bO (K := ⟨fun v σ' => wpOps T os (Env.put e d v) σ' K⟩) (aop (.srange x) e σ) := by simp only [wpOps, wpOp, bO]
theorem W_snext (x : AOpd) (d : Option Nat) (os : List AOper) (e : Env) (σ : St) (K : Env → St → Prop) : wpOps T (⟨d, .snext x, none⟩ :: os) e σ K = bO (K := ⟨fun v σ' => wpOps T os (Env.put e d v) σ' K⟩) (aop (.snext x) e σ) := by simp only [wpOps, wpOp, bO]
theorem W_call (f : AOpd) (xs : List AOpd) (d : Option Nat) (os : List AOper) (e : Env) (σ : St) (K : Env → St → Prop) : wpOps T (⟨d, .call f xs, none⟩ :: os) e σ K = cK (K := ⟨fun v σ' => wpOps T os (Env.put e d v) σ' K⟩) T (f.ev e) (evs e xs) σ := by simp only [wpOps, wpOp, evs_map, cK]
theorem W_bindB (b : Bool) (A B : HP Prop) : bB (.bool b) (A := A) (B := B) = iteP (A := A) (B := B) b := by cases b <;> simp [bB, bindB, iteP]
theorem W_bindG1 (b : Bool) (A B : HP Prop) : bG (.bool b) true (A := A) (B := B) = iteP (A := A) (B := B) b := by cases b <;> simp [bG, bindG, iteP]
theorem W_bindG0 (b : Bool) (A B : HP Prop) : bG (.bool b) false (A := A) (B := B) = iteP (A := B) (B := A) b := by cases b <;> simp [bG, bindG, iteP]
theorem W_bindGT (w : Bool) (A : HP Prop) (B : Prop) : bG (.tuple []) w (A := A) (B := ⟨B⟩) = B := by simp [bG, bindG]
theorem W_guard (d : Option Nat) (q : AOp) (t : Nat) (want : Bool) (os : List AOper) (e : Env) (σ : St) (K : Env → St → Prop) : wpOps T (⟨d, q, some (t, want)⟩ :: os) e σ K =
  bG (A := ⟨wpOps T (⟨d, q, none⟩ :: os) e σ K⟩) (B := ⟨wpOps T os (Env.put e d (.tuple [])) σ K⟩) (Env.get e t) want := by simp only [wpOps, bG]
theorem D_reg (ds : List ADOper) (e : Env) (σ : St) (K : KJ) : wp T (.dreg ds) e σ K = rK (K := ⟨K⟩) T (.dreg ds) e σ := by simp only [wp, rK]
theorem rK_dreg {ds : List ADOper} {e : Env} {σ : St} {K : KJ} (h : wpD T ds e (σ ++ allocsOf ds) σ.length [σ ++ allocsOf ds] [] fun e σ => K none e σ) : rK (K := ⟨K⟩) T (.dreg ds) e σ := .dreg (run_wpD h fun e σ hk => hk)
theorem D_nil (e : Env) (σ : St) (next : Nat) (hist : List St) (reads : List ARead) (K : Env → St → Prop) : wpD T [] e σ next hist reads K = (readsP reads hist ∧ K e σ) := by simp only [wpD]
theorem D_call (f : AOpd) (xs : List AOpd) (d : Option Nat) (lo hi : Nat) (ds : List ADOper) (e : Env) (σ : St) (next : Nat) (hist : List St) (reads : List ARead) (K : Env → St → Prop) :
  wpD T (⟨⟨d, .call f xs, none⟩, lo, hi⟩ :: ds) e σ next hist reads K = cD (K := ⟨fun v σ' => wpD T ds (Env.put e d v) σ' next (hist ++ [σ']) reads K⟩) T (f.ev e) (evs e xs) σ := by simp only [wpD, evs_map, cD]
theorem D_alloc (z : List AV) (d : Option Nat) (lo hi : Nat) (ds : List ADOper) (e : Env) (σ : St) (next : Nat) (hist : List St) (reads : List ARead) (K : Env → St → Prop) :
  wpD T (⟨⟨d, .alloc z, none⟩, lo, hi⟩ :: ds) e σ next hist reads K = wpD T ds (Env.put e d (.ptr next 0)) σ (next + 1) hist reads K := by simp only [wpD]
def readQ (lo hi : Nat) (q : AOp) (e : Env) (v : AV) : List St → Nat → Prop
 | [], _ => True
 | s :: ss, j => (if lo ≤ j ∧ j ≤ hi then aop q e s = some (v, s) else True) ∧ readQ lo hi q e v ss (j + 1)
theorem readQ_eq (r : ARead) : ∀ (ss : List St) (j : Nat), readQ r.lo r.hi r.op r.env r.v ss j = readP r ss j
 | [], j => by simp only [readQ, readP]
 | s :: ss, j => by simp only [readQ, readP, readQ_eq r ss (j + 1)]
theorem D_readsN (hist : List St) : readsP [] hist = True := by simp only [readsP]
theorem D_readsC (lo hi : Nat) (q : AOp) (e : Env) (v : AV) (rs : List ARead) (hist : List St) : readsP (⟨lo, hi, q, e, v⟩ :: rs) hist = (readQ lo hi q e v hist 0 ∧ readsP rs hist) := by
 simp only [readsP]; rw [← readQ_eq]
theorem D_readN (lo hi : Nat) (q : AOp) (e : Env) (v : AV) (j : Nat) : readQ lo hi q e v [] j = True := by simp only [readQ]
theorem D_readC (lo hi : Nat) (q : AOp) (e : Env) (v : AV) (s : St) (ss : List St) (j : Nat) : readQ lo hi q e v (s :: ss) j = ((if lo ≤ j ∧ j ≤ hi then aop q e s = some (v, s) else True) ∧ readQ lo hi q e v ss (j + 1)) := by simp only [readQ]
theorem D_mov (x : AOpd) (d : Option Nat) (wl wh : Nat) (ds : List ADOper) (e : Env) (σ : St) (next : Nat) (hist : List St) (reads : List ARead) (K : Env → St → Prop) : wpD T (⟨⟨d, .mov x, none⟩, wl, wh⟩ :: ds) e σ next hist reads K = bO (K := ⟨fun v σ' => σ' = σ ∧ wpD T ds (Env.put e d v) σ next hist reads K⟩) (aop (.mov x) e σ) := by
 simp only [wpD, bO, AOp.acts, AOp.reads, if_true, Bool.false_eq_true, if_false]
theorem D_pick (c x y : AOpd) (d : Option Nat) (wl wh : Nat) (ds : List ADOper) (e : Env) (σ : St) (next : Nat) (hist : List St) (reads : List ARead) (K : Env → St → Prop) : wpD T (⟨⟨d, .pick c x y, none⟩, wl, wh⟩ :: ds) e σ next hist reads K = bO (K := ⟨fun v σ' => σ' = σ ∧ wpD T ds (Env.put e d v) σ next hist reads K⟩) (aop (.pick c x y) e σ) := by
 simp only [wpD, bO, AOp.acts, AOp.reads, if_true, Bool.false_eq_true, if_false]
theorem D_box (n : Nat) (x : AOpd) (d : Option Nat) (wl wh : Nat) (ds : List ADOper) (e : Env) (σ : St) (next : Nat) (hist : List St) (reads : List ARead) (K : Env → St → Prop) : wpD T (⟨⟨d, .box n x, none⟩, wl, wh⟩ :: ds) e σ next hist reads K = bO (K := ⟨fun v σ' => wpD T ds (Env.put e d v) σ' next (hist ++ [σ']) reads K⟩) (aop (.box n x) e σ) := by
 simp only [wpD, bO, AOp.acts, AOp.reads, if_true, Bool.false_eq_true, if_false]
theorem D_build (z : List AV) (ps : List (Nat × Nat × AOpd)) (d : Option Nat) (wl wh : Nat) (ds : List ADOper) (e : Env) (σ : St) (next : Nat) (hist : List St) (reads : List ARead) (K : Env → St → Prop) : wpD T (⟨⟨d, .build z ps, none⟩, wl, wh⟩ :: ds) e σ next hist reads K = bO (K := ⟨fun v σ' => σ' = σ ∧ wpD T ds (Env.put e d v) σ next hist reads K⟩) (aop (.build z ps) e σ) := by
 simp only [wpD, bO, AOp.acts, AOp.reads, if_true, Bool.false_eq_true, if_false]
theorem D_mklit (n : Nat) (xs : List AOpd) (d : Option Nat) (wl wh : Nat) (ds : List ADOper) (e : Env) (σ : St) (next : Nat) (hist : List St) (reads : List ARead) (K : Env → St → Prop) : wpD T (⟨⟨d, .mklit n xs, none⟩, wl, wh⟩ :: ds) e σ next hist reads K = bO (K := ⟨fun v σ' => σ' = σ ∧ wpD T ds (Env.put e d v) σ next hist reads K⟩) (aop (.mklit n xs) e σ) := by
 simp only [wpD, bO, AOp.acts, AOp.reads, if_true, Bool.false_eq_true, if_false]
theorem D_mkref (n : Nat) (xs : List AOpd) (d : Option Nat) (wl wh : Nat) (ds : List ADOper) (e : Env) (σ : St) (next : Nat) (hist : List St) (reads : List ARead) (K : Env → St → Prop) : wpD T (⟨⟨d, .mkref n xs, none⟩, wl, wh⟩ :: ds) e σ next hist reads K = bO (K := ⟨fun v σ' => wpD T ds (Env.put e d v) σ' next (hist ++ [σ']) reads K⟩) (aop (.mkref n xs) e σ) := by
 simp only [wpD, bO, AOp.acts, AOp.reads, if_true, Bool.false_eq_true, if_false]
theorem D_load (sh : Option Nat) (x : AOpd) (d : Option Nat) (wl wh : Nat) (ds : List ADOper) (e : Env) (σ : St) (next : Nat) (hist : List St) (reads : List ARead) (K : Env → St → Prop) : wpD T (⟨⟨d, .load sh x, none⟩, wl, wh⟩ :: ds) e σ next hist reads K = bO (K := ⟨fun v σ' => σ' = σ ∧ wpD T ds (Env.put e d v) σ next hist (⟨wl, wh, .load sh x, e, v⟩ :: reads) K⟩) (aop (.load sh x) e σ) := by
 simp only [wpD, bO, AOp.acts, AOp.reads, if_true, Bool.false_eq_true, if_false]
theorem D_store (n : Nat) (x y : AOpd) (d : Option Nat) (wl wh : Nat) (ds : List ADOper) (e : Env) (σ : St) (next : Nat) (hist : List St) (reads : List ARead) (K : Env → St → Prop) : wpD T (⟨⟨d, .store n x y, none⟩, wl, wh⟩ :: ds) e σ next hist reads K = bO (K := ⟨fun v σ' => wpD T ds (Env.put e d v) σ' next (hist ++ [σ']) reads K⟩) (aop (.store n x y) e σ) := by
 simp only [wpD, bO, AOp.acts, AOp.reads, if_true, Bool.false_eq_true, if_false]
theorem D_nilCheck (x : AOpd) (d : Option Nat) (wl wh : Nat) (ds : List ADOper) (e : Env) (σ : St) (next : Nat) (hist : List St) (reads : List ARead) (K : Env → St → Prop) : wpD T (⟨⟨d, .nilCheck x, none⟩, wl, wh⟩ :: ds) e σ next hist reads K = bO (K := ⟨fun v σ' => σ' = σ ∧ wpD T ds (Env.put e d v) σ next hist reads K⟩) (aop (.nilCheck x) e σ) := by
 simp only [wpD, bO, AOp.acts, AOp.reads, if_true, Bool.false_eq_true, if_false]
theorem D_bin (op : BinOp) (x y : AOpd) (d : Option Nat) (wl wh : Nat) (ds : List ADOper) (e : Env) (σ : St) (next : Nat) (hist : List St) (reads : List ARead) (K : Env → St → Prop) : wpD T (⟨⟨d, .bin op x y, none⟩, wl, wh⟩ :: ds) e σ next hist reads K = bO (K := ⟨fun v σ' => σ' = σ ∧ wpD T ds (Env.put e d v) σ next hist reads K⟩) (aop (.bin op x y) e σ) := by
 simp only [wpD, bO, AOp.acts, AOp.reads, if_true, Bool.false_eq_true, if_false]
theorem D_eql (sh : EqTy) (n : Bool) (x y : AOpd) (d : Option Nat) (wl wh : Nat) (ds : List ADOper) (e : Env) (σ : St) (next : Nat) (hist : List St) (reads : List ARead) (K : Env → St → Prop) : wpD T (⟨⟨d, .eql sh n x y, none⟩, wl, wh⟩ :: ds) e σ next hist reads K = bO (K := ⟨fun v σ' => σ' = σ ∧ wpD T ds (Env.put e d v) σ next hist reads K⟩) (aop (.eql sh n x y) e σ) := by
 simp only [wpD, bO, AOp.acts, AOp.reads, if_true, Bool.false_eq_true, if_false]
theorem D_not (x : AOpd) (d : Option Nat) (wl wh : Nat) (ds : List ADOper) (e : Env) (σ : St) (next : Nat) (hist : List St) (reads : List ARead) (K : Env → St → Prop) : wpD T (⟨⟨d, .not x, none⟩, wl, wh⟩ :: ds) e σ next hist reads K = bO (K := ⟨fun v σ' => σ' = σ ∧ wpD T ds (Env.put e d v) σ next hist reads K⟩) (aop (.not x) e σ) := by
 simp only [wpD, bO, AOp.acts, AOp.reads, if_true, Bool.false_eq_true, if_false]
theorem D_neg (x : AOpd) (d : Option Nat) (wl wh : Nat) (ds : List ADOper) (e : Env) (σ : St) (next : Nat) (hist : List St) (reads : List ARead) (K : Env → St → Prop) : wpD T (⟨⟨d, .neg x, none⟩, wl, wh⟩ :: ds) e σ next hist reads K = bO (K := ⟨fun v σ' => σ' = σ ∧ wpD T ds (Env.put e d v) σ next hist reads K⟩) (aop (.neg x) e σ) := by
 simp only [wpD, bO, AOp.acts, AOp.reads, if_true, Bool.false_eq_true, if_false]
theorem D_conv (k : IntKind) (x : AOpd) (d : Option Nat) (wl wh : Nat) (ds : List ADOper) (e : Env) (σ : St) (next : Nat) (hist : List St) (reads : List ARead) (K : Env → St → Prop) : wpD T (⟨⟨d, .conv k x, none⟩, wl, wh⟩ :: ds) e σ next hist reads K = bO (K := ⟨fun v σ' => σ' = σ ∧ wpD T ds (Env.put e d v) σ next hist reads K⟩) (aop (.conv k x) e σ) := by
 simp only [wpD, bO, AOp.acts, AOp.reads, if_true, Bool.false_eq_true, if_false]
theorem D_mkfun (f : FuncId) (xs ys : List AOpd) (d : Option Nat) (wl wh : Nat) (ds : List ADOper) (e : Env) (σ : St) (next : Nat) (hist : List St) (reads : List ARead) (K : Env → St → Prop) : wpD T (⟨⟨d, .mkfun f xs ys, none⟩, wl, wh⟩ :: ds) e σ next hist reads K = bO (K := ⟨fun v σ' => σ' = σ ∧ wpD T ds (Env.put e d v) σ next hist reads K⟩) (aop (.mkfun f xs ys) e σ) := by
 simp only [wpD, bO, AOp.acts, AOp.reads, if_true, Bool.false_eq_true, if_false]
theorem D_mkmap  (d : Option Nat) (wl wh : Nat) (ds : List ADOper) (e : Env) (σ : St) (next : Nat) (hist : List St) (reads : List ARead) (K : Env → St → Prop) : wpD T (⟨⟨d, .mkmap, none⟩, wl, wh⟩ :: ds) e σ next hist reads K = bO (K := ⟨fun v σ' => wpD T ds (Env.put e d v) σ' next (hist ++ [σ']) reads K⟩) (aop (.mkmap) e σ) := by
 simp only [wpD, bO, AOp.acts, AOp.reads, if_true, Bool.false_eq_true, if_false]
theorem D_mkslice (z : List AV) (b : Nat) (x y : AOpd) (d : Option Nat) (wl wh : Nat) (ds : List ADOper) (e : Env) (σ : St) (next : Nat) (hist : List St) (reads : List ARead) (K : Env → St → Prop) : wpD T (⟨⟨d, .mkslice z b x y, none⟩, wl, wh⟩ :: ds) e σ next hist reads K = bO (K := ⟨fun v σ' => wpD T ds (Env.put e d v) σ' next (hist ++ [σ']) reads K⟩) (aop (.mkslice z b x y) e σ) := by
 simp only [wpD, bO, AOp.acts, AOp.reads, if_true, Bool.false_eq_true, if_false]
theorem D_slicev (n : Nat) (x : AOpd) (lo hi mx : Option AOpd) (d : Option Nat) (wl wh : Nat) (ds : List ADOper) (e : Env) (σ : St) (next : Nat) (hist : List St) (reads : List ARead) (K : Env → St → Prop) : wpD T (⟨⟨d, .slicev n x lo hi mx, none⟩, wl, wh⟩ :: ds) e σ next hist reads K = bO (K := ⟨fun v σ' => σ' = σ ∧ wpD T ds (Env.put e d v) σ next hist (⟨wl, wh, .slicev n x lo hi mx, e, v⟩ :: reads) K⟩) (aop (.slicev n x lo hi mx) e σ) := by
 simp only [wpD, bO, AOp.acts, AOp.reads, if_true, Bool.false_eq_true, if_false]
theorem D_slicea (n s : Nat) (x : AOpd) (lo hi : Option AOpd) (d : Option Nat) (wl wh : Nat) (ds : List ADOper) (e : Env) (σ : St) (next : Nat) (hist : List St) (reads : List ARead) (K : Env → St → Prop) : wpD T (⟨⟨d, .slicea n s x lo hi, none⟩, wl, wh⟩ :: ds) e σ next hist reads K = bO (K := ⟨fun v σ' => σ' = σ ∧ wpD T ds (Env.put e d v) σ next hist reads K⟩) (aop (.slicea n s x lo hi) e σ) := by
 simp only [wpD, bO, AOp.acts, AOp.reads, if_true, Bool.false_eq_true, if_false]
theorem D_faddr (x : AOpd) (o : Nat) (d : Option Nat) (wl wh : Nat) (ds : List ADOper) (e : Env) (σ : St) (next : Nat) (hist : List St) (reads : List ARead) (K : Env → St → Prop) : wpD T (⟨⟨d, .faddr x o, none⟩, wl, wh⟩ :: ds) e σ next hist reads K = bO (K := ⟨fun v σ' => σ' = σ ∧ wpD T ds (Env.put e d v) σ next hist reads K⟩) (aop (.faddr x o) e σ) := by
 simp only [wpD, bO, AOp.acts, AOp.reads, if_true, Bool.false_eq_true, if_false]
theorem D_field (x : AOpd) (o : Nat) (sh : Option Nat) (d : Option Nat) (wl wh : Nat) (ds : List ADOper) (e : Env) (σ : St) (next : Nat) (hist : List St) (reads : List ARead) (K : Env → St → Prop) : wpD T (⟨⟨d, .field x o sh, none⟩, wl, wh⟩ :: ds) e σ next hist reads K = bO (K := ⟨fun v σ' => σ' = σ ∧ wpD T ds (Env.put e d v) σ next hist reads K⟩) (aop (.field x o sh) e σ) := by
 simp only [wpD, bO, AOp.acts, AOp.reads, if_true, Bool.false_eq_true, if_false]
theorem D_iaddr (a : Option Nat) (s : Nat) (x i : AOpd) (d : Option Nat) (wl wh : Nat) (ds : List ADOper) (e : Env) (σ : St) (next : Nat) (hist : List St) (reads : List ARead) (K : Env → St → Prop) : wpD T (⟨⟨d, .iaddr a s x i, none⟩, wl, wh⟩ :: ds) e σ next hist reads K = bO (K := ⟨fun v σ' => σ' = σ ∧ wpD T ds (Env.put e d v) σ next hist reads K⟩) (aop (.iaddr a s x i) e σ) := by
 simp only [wpD, bO, AOp.acts, AOp.reads, if_true, Bool.false_eq_true, if_false]
theorem D_index (n s : Nat) (sh : Option Nat) (x i : AOpd) (d : Option Nat) (wl wh : Nat) (ds : List ADOper) (e : Env) (σ : St) (next : Nat) (hist : List St) (reads : List ARead) (K : Env → St → Prop) : wpD T (⟨⟨d, .index n s sh x i, none⟩, wl, wh⟩ :: ds) e σ next hist reads K = bO (K := ⟨fun v σ' => σ' = σ ∧ wpD T ds (Env.put e d v) σ next hist reads K⟩) (aop (.index n s sh x i) e σ) := by
 simp only [wpD, bO, AOp.acts, AOp.reads, if_true, Bool.false_eq_true, if_false]
theorem D_sindex (x i : AOpd) (d : Option Nat) (wl wh : Nat) (ds : List ADOper) (e : Env) (σ : St) (next : Nat) (hist : List St) (reads : List ARead) (K : Env → St → Prop) : wpD T (⟨⟨d, .sindex x i, none⟩, wl, wh⟩ :: ds) e σ next hist reads K = bO (K := ⟨fun v σ' => σ' = σ ∧ wpD T ds (Env.put e d v) σ next hist reads K⟩) (aop (.sindex x i) e σ) := by
 simp only [wpD, bO, AOp.acts, AOp.reads, if_true, Bool.false_eq_true, if_false]
theorem D_lookup (sh : EqTy) (ok : Bool) (z : AV) (m k : AOpd) (d : Option Nat) (wl wh : Nat) (ds : List ADOper) (e : Env) (σ : St) (next : Nat) (hist : List St) (reads : List ARead) (K : Env → St → Prop) : wpD T (⟨⟨d, .lookup sh ok z m k, none⟩, wl, wh⟩ :: ds) e σ next hist reads K = bO (K := ⟨fun v σ' => σ' = σ ∧ wpD T ds (Env.put e d v) σ next hist (⟨wl, wh, .lookup sh ok z m k, e, v⟩ :: reads) K⟩) (aop (.lookup sh ok z m k) e σ) := by
 simp only [wpD, bO, AOp.acts, AOp.reads, if_true, Bool.false_eq_true, if_false]
theorem D_mapset (sh : EqTy) (m k v : AOpd) (d : Option Nat) (wl wh : Nat) (ds : List ADOper) (e : Env) (σ : St) (next : Nat) (hist : List St) (reads : List ARead) (K : Env → St → Prop) : wpD T (⟨⟨d, .mapset sh m k v, none⟩, wl, wh⟩ :: ds) e σ next hist reads K = bO (K := ⟨fun v σ' => wpD T ds (Env.put e d v) σ' next (hist ++ [σ']) reads K⟩) (aop (.mapset sh m k v) e σ) := by
 simp only [wpD, bO, AOp.acts, AOp.reads, if_true, Bool.false_eq_true, if_false]
theorem D_ext (x : AOpd) (i : Nat) (d : Option Nat) (wl wh : Nat) (ds : List ADOper) (e : Env) (σ : St) (next : Nat) (hist : List St) (reads : List ARead) (K : Env → St → Prop) : wpD T (⟨⟨d, .ext x i, none⟩, wl, wh⟩ :: ds) e σ next hist reads K = bO (K := ⟨fun v σ' => σ' = σ ∧ wpD T ds (Env.put e d v) σ next hist reads K⟩) (aop (.ext x i) e σ) := by
 simp only [wpD, bO, AOp.acts, AOp.reads, if_true, Bool.false_eq_true, if_false]
theorem D_len (k : Nat) (x : AOpd) (d : Option Nat) (wl wh : Nat) (ds : List ADOper) (e : Env) (σ : St) (next : Nat) (hist : List St) (reads : List ARead) (K : Env → St → Prop) : wpD T (⟨⟨d, .len k x, none⟩, wl, wh⟩ :: ds) e σ next hist reads K = bO (K := ⟨fun v σ' => σ' = σ ∧ wpD T ds (Env.put e d v) σ next hist (⟨wl, wh, .len k x, e, v⟩ :: reads) K⟩) (aop (.len k x) e σ) := by
 simp only [wpD, bO, AOp.acts, AOp.reads, if_true, Bool.false_eq_true, if_false]
theorem D_append (n b : Nat) (x y : AOpd) (d : Option Nat) (wl wh : Nat) (ds : List ADOper) (e : Env) (σ : St) (next : Nat) (hist : List St) (reads : List ARead) (K : Env → St → Prop) : wpD T (⟨⟨d, .append n b x y, none⟩, wl, wh⟩ :: ds) e σ next hist reads K = bO (K := ⟨fun v σ' => wpD T ds (Env.put e d v) σ' next (hist ++ [σ']) reads K⟩) (aop (.append n b x y) e σ) := by
 simp only [wpD, bO, AOp.acts, AOp.reads, if_true, Bool.false_eq_true, if_false]
theorem D_apref (n b : Nat) (x y : AOpd) (d : Option Nat) (wl wh : Nat) (ds : List ADOper) (e : Env) (σ : St) (next : Nat) (hist : List St) (reads : List ARead) (K : Env → St → Prop) : wpD T (⟨⟨d, .apref n b x y, none⟩, wl, wh⟩ :: ds) e σ next hist reads K = bO (K := ⟨fun v σ' => wpD T ds (Env.put e d v) σ' next (hist ++ [σ']) reads K⟩) (aop (.apref n b x y) e σ) := by
 simp only [wpD, bO, AOp.acts, AOp.reads, if_true, Bool.false_eq_true, if_false]
theorem D_copy (n : Nat) (x y : AOpd) (d : Option Nat) (wl wh : Nat) (ds : List ADOper) (e : Env) (σ : St) (next : Nat) (hist : List St) (reads : List ARead) (K : Env → St → Prop) : wpD T (⟨⟨d, .copy n x y, none⟩, wl, wh⟩ :: ds) e σ next hist reads K = bO (K := ⟨fun v σ' => wpD T ds (Env.put e d v) σ' next (hist ++ [σ']) reads K⟩) (aop (.copy n x y) e σ) := by
 simp only [wpD, bO, AOp.acts, AOp.reads, if_true, Bool.false_eq_true, if_false]
theorem D_min (xs : List AOpd) (d : Option Nat) (wl wh : Nat) (ds : List ADOper) (e : Env) (σ : St) (next : Nat) (hist : List St) (reads : List ARead) (K : Env → St → Prop) : wpD T (⟨⟨d, .min xs, none⟩, wl, wh⟩ :: ds) e σ next hist reads K = bO (K := ⟨fun v σ' => σ' = σ ∧ wpD T ds (Env.put e d v) σ next hist reads K⟩) (aop (.min xs) e σ) := by
 simp only [wpD, bO, AOp.acts, AOp.reads, if_true, Bool.false_eq_true, if_false]
theorem D_max (xs : List AOpd) (d : Option Nat) (wl wh : Nat) (ds : List ADOper) (e : Env) (σ : St) (next : Nat) (hist : List St) (reads : List ARead) (K : Env → St → Prop) : wpD T (⟨⟨d, .max xs, none⟩, wl, wh⟩ :: ds) e σ next hist reads K = bO (K := ⟨fun v σ' => σ' = σ ∧ wpD T ds (Env.put e d v) σ next hist reads K⟩) (aop (.max xs) e σ) := by
 simp only [wpD, bO, AOp.acts, AOp.reads, if_true, Bool.false_eq_true, if_false]
theorem D_srange (x : AOpd) (d : Option Nat) (wl wh : Nat) (ds : List ADOper) (e : Env) (σ : St) (next : Nat) (hist : List St) (reads : List ARead) (K : Env → St → Prop) : wpD T (⟨⟨d, .srange x, none⟩, wl, wh⟩ :: ds) e σ next hist reads K = bO (K := ⟨fun v σ' => wpD T ds (Env.put e d v) σ' next (hist ++ [σ']) reads K⟩) (aop (.srange x) e σ) := by
 simp only [wpD, bO, AOp.acts, AOp.reads, if_true, Bool.false_eq_true, if_false]
theorem D_snext (x : AOpd) (d : Option Nat) (wl wh : Nat) (ds : List ADOper) (e : Env) (σ : St) (next : Nat) (hist : List St) (reads : List ARead) (K : Env → St → Prop) : wpD T (⟨⟨d, .snext x, none⟩, wl, wh⟩ :: ds) e σ next hist reads K = bO (K := ⟨fun v σ' => wpD T ds (Env.put e d v) σ' next (hist ++ [σ']) reads K⟩) (aop (.snext x) e σ) := by
 simp only [wpD, bO, AOp.acts, AOp.reads, if_true, Bool.false_eq_true, if_false]
theorem D_guardC (f : AOpd) (xs : List AOpd) (t : Nat) (want : Bool) (d : Option Nat) (wl wh : Nat) (ds : List ADOper) (e : Env) (σ : St) (next : Nat) (hist : List St) (reads : List ARead) (K : Env → St → Prop) : wpD T (⟨⟨d, .call f xs, some (t, want)⟩, wl, wh⟩ :: ds) e σ next hist reads K =
  bG (A := ⟨wpD T (⟨⟨d, .call f xs, none⟩, wl, wh⟩ :: ds) e σ next hist reads K⟩) (B := ⟨wpD T ds (Env.put e d (.tuple [])) σ next (hist ++ [σ]) reads K⟩) (Env.get e t) want := by simp only [wpD, bG]
theorem G_mov (x : AOpd) (t : Nat) (want : Bool) (d : Option Nat) (wl wh : Nat) (ds : List ADOper) (e : Env) (σ : St) (next : Nat) (hist : List St) (reads : List ARead) (K : Env → St → Prop) : wpD T (⟨⟨d, .mov x, some (t, want)⟩, wl, wh⟩ :: ds) e σ next hist reads K =
  bG (A := ⟨wpD T (⟨⟨d, .mov x, none⟩, wl, wh⟩ :: ds) e σ next hist reads K⟩) (B := ⟨wpD T ds (Env.put e d (.tuple [])) σ next hist reads K⟩) (Env.get e t) want := by
 simp only [wpD, bG, AOp.allocs, AOp.acts, true_and, if_true, Bool.false_eq_true, if_false]
theorem G_pick (c x y : AOpd) (t : Nat) (want : Bool) (d : Option Nat) (wl wh : Nat) (ds : List ADOper) (e : Env) (σ : St) (next : Nat) (hist : List St) (reads : List ARead) (K : Env → St → Prop) : wpD T (⟨⟨d, .pick c x y, some (t, want)⟩, wl, wh⟩ :: ds) e σ next hist reads K =
  bG (A := ⟨wpD T (⟨⟨d, .pick c x y, none⟩, wl, wh⟩ :: ds) e σ next hist reads K⟩) (B := ⟨wpD T ds (Env.put e d (.tuple [])) σ next hist reads K⟩) (Env.get e t) want := by
 simp only [wpD, bG, AOp.allocs, AOp.acts, true_and, if_true, Bool.false_eq_true, if_false]
theorem G_box (n : Nat) (x : AOpd) (t : Nat) (want : Bool) (d : Option Nat) (wl wh : Nat) (ds : List ADOper) (e : Env) (σ : St) (next : Nat) (hist : List St) (reads : List ARead) (K : Env → St → Prop) : wpD T (⟨⟨d, .box n x, some (t, want)⟩, wl, wh⟩ :: ds) e σ next hist reads K =
  bG (A := ⟨wpD T (⟨⟨d, .box n x, none⟩, wl, wh⟩ :: ds) e σ next hist reads K⟩) (B := ⟨wpD T ds (Env.put e d (.tuple [])) σ next (hist ++ [σ]) reads K⟩) (Env.get e t) want := by
 simp only [wpD, bG, AOp.allocs, AOp.acts, true_and, if_true, Bool.false_eq_true, if_false]
theorem G_build (z : List AV) (ps : List (Nat × Nat × AOpd)) (t : Nat) (want : Bool) (d : Option Nat) (wl wh : Nat) (ds : List ADOper) (e : Env) (σ : St) (next : Nat) (hist : List St) (reads : List ARead) (K : Env → St → Prop) : wpD T (⟨⟨d, .build z ps, some (t, want)⟩, wl, wh⟩ :: ds) e σ next hist reads K =
  bG (A := ⟨wpD T (⟨⟨d, .build z ps, none⟩, wl, wh⟩ :: ds) e σ next hist reads K⟩) (B := ⟨wpD T ds (Env.put e d (.tuple [])) σ next hist reads K⟩) (Env.get e t) want := by
 simp only [wpD, bG, AOp.allocs, AOp.acts, true_and, if_true, Bool.false_eq_true, if_false]
theorem G_mklit (n : Nat) (xs : List AOpd) (t : Nat) (want : Bool) (d : Option Nat) (wl wh : Nat) (ds : List ADOper) (e : Env) (σ : St) (next : Nat) (hist : List St) (reads : List ARead) (K : Env → St → Prop) : wpD T (⟨⟨d, .mklit n xs, some (t, want)⟩, wl, wh⟩ :: ds) e σ next hist reads K =
  bG (A := ⟨wpD T (⟨⟨d, .mklit n xs, none⟩, wl, wh⟩ :: ds) e σ next hist reads K⟩) (B := ⟨wpD T ds (Env.put e d (.tuple [])) σ next hist reads K⟩) (Env.get e t) want := by
 simp only [wpD, bG, AOp.allocs, AOp.acts, true_and, if_true, Bool.false_eq_true, if_false]
theorem G_mkref (n : Nat) (xs : List AOpd) (t : Nat) (want : Bool) (d : Option Nat) (wl wh : Nat) (ds : List ADOper) (e : Env) (σ : St) (next : Nat) (hist : List St) (reads : List ARead) (K : Env → St → Prop) : wpD T (⟨⟨d, .mkref n xs, some (t, want)⟩, wl, wh⟩ :: ds) e σ next hist reads K =
  bG (A := ⟨wpD T (⟨⟨d, .mkref n xs, none⟩, wl, wh⟩ :: ds) e σ next hist reads K⟩) (B := ⟨wpD T ds (Env.put e d (.tuple [])) σ next (hist ++ [σ]) reads K⟩) (Env.get e t) want := by
 simp only [wpD, bG, AOp.allocs, AOp.acts, true_and, if_true, Bool.false_eq_true, if_false]
theorem G_load (sh : Option Nat) (x : AOpd) (t : Nat) (want : Bool) (d : Option Nat) (wl wh : Nat) (ds : List ADOper) (e : Env) (σ : St) (next : Nat) (hist : List St) (reads : List ARead) (K : Env → St → Prop) : wpD T (⟨⟨d, .load sh x, some (t, want)⟩, wl, wh⟩ :: ds) e σ next hist reads K =
  bG (A := ⟨wpD T (⟨⟨d, .load sh x, none⟩, wl, wh⟩ :: ds) e σ next hist reads K⟩) (B := ⟨wpD T ds (Env.put e d (.tuple [])) σ next hist reads K⟩) (Env.get e t) want := by
 simp only [wpD, bG, AOp.allocs, AOp.acts, true_and, if_true, Bool.false_eq_true, if_false]
theorem G_store (n : Nat) (x y : AOpd) (t : Nat) (want : Bool) (d : Option Nat) (wl wh : Nat) (ds : List ADOper) (e : Env) (σ : St) (next : Nat) (hist : List St) (reads : List ARead) (K : Env → St → Prop) : wpD T (⟨⟨d, .store n x y, some (t, want)⟩, wl, wh⟩ :: ds) e σ next hist reads K =
  bG (A := ⟨wpD T (⟨⟨d, .store n x y, none⟩, wl, wh⟩ :: ds) e σ next hist reads K⟩) (B := ⟨wpD T ds (Env.put e d (.tuple [])) σ next (hist ++ [σ]) reads K⟩) (Env.get e t) want := by
 simp only [wpD, bG, AOp.allocs, AOp.acts, true_and, if_true, Bool.false_eq_true, if_false]
theorem G_nilCheck (x : AOpd) (t : Nat) (want : Bool) (d : Option Nat) (wl wh : Nat) (ds : List ADOper) (e : Env) (σ : St) (next : Nat) (hist : List St) (reads : List ARead) (K : Env → St → Prop) : wpD T (⟨⟨d, .nilCheck x, some (t, want)⟩, wl, wh⟩ :: ds) e σ next hist reads K =
  bG (A := ⟨wpD T (⟨⟨d, .nilCheck x, none⟩, wl, wh⟩ :: ds) e σ next hist reads K⟩) (B := ⟨wpD T ds (Env.put e d (.tuple [])) σ next hist reads K⟩) (Env.get e t) want := by
 simp only [wpD, bG, AOp.allocs, AOp.acts, true_and, if_true, Bool.false_eq_true, if_false]
theorem G_bin (op : BinOp) (x y : AOpd) (t : Nat) (want : Bool) (d : Option Nat) (wl wh : Nat) (ds : List ADOper) (e : Env) (σ : St) (next : Nat) (hist : List St) (reads : List ARead) (K : Env → St → Prop) : wpD T (⟨⟨d, .bin op x y, some (t, want)⟩, wl, wh⟩ :: ds) e σ next hist reads K =
  bG (A := ⟨wpD T (⟨⟨d, .bin op x y, none⟩, wl, wh⟩ :: ds) e σ next hist reads K⟩) (B := ⟨wpD T ds (Env.put e d (.tuple [])) σ next hist reads K⟩) (Env.get e t) want := by
 simp only [wpD, bG, AOp.allocs, AOp.acts, true_and, if_true, Bool.false_eq_true, if_false]
theorem G_eql (sh : EqTy) (n : Bool) (x y : AOpd) (t : Nat) (want : Bool) (d : Option Nat) (wl wh : Nat) (ds : List ADOper) (e : Env) (σ : St) (next : Nat) (hist : List St) (reads : List ARead) (K : Env → St → Prop) : wpD T (⟨⟨d, .eql sh n x y, some (t, want)⟩, wl, wh⟩ :: ds) e σ next hist reads K =
  bG (A := ⟨wpD T (⟨⟨d, .eql sh n x y, none⟩, wl, wh⟩ :: ds) e σ next hist reads K⟩) (B := ⟨wpD T ds (Env.put e d (.tuple [])) σ next hist reads K⟩) (Env.get e t) want := by
 simp only [wpD, bG, AOp.allocs, AOp.acts, true_and, if_true, Bool.false_eq_true, if_false]
theorem G_not (x : AOpd) (t : Nat) (want : Bool) (d : Option Nat) (wl wh : Nat) (ds : List ADOper) (e : Env) (σ : St) (next : Nat) (hist : List St) (reads : List ARead) (K : Env → St → Prop) : wpD T (⟨⟨d, .not x, some (t, want)⟩, wl, wh⟩ :: ds) e σ next hist reads K =
  bG (A := ⟨wpD T (⟨⟨d, .not x, none⟩, wl, wh⟩ :: ds) e σ next hist reads K⟩) (B := ⟨wpD T ds (Env.put e d (.tuple [])) σ next hist reads K⟩) (Env.get e t) want := by
 simp only [wpD, bG, AOp.allocs, AOp.acts, true_and, if_true, Bool.false_eq_true, if_false]
theorem G_neg (x : AOpd) (t : Nat) (want : Bool) (d : Option Nat) (wl wh : Nat) (ds : List ADOper) (e : Env) (σ : St) (next : Nat) (hist : List St) (reads : List ARead) (K : Env → St → Prop) : wpD T (⟨⟨d, .neg x, some (t, want)⟩, wl, wh⟩ :: ds) e σ next hist reads K =
  bG (A := ⟨wpD T (⟨⟨d, .neg x, none⟩, wl, wh⟩ :: ds) e σ next hist reads K⟩) (B := ⟨wpD T ds (Env.put e d (.tuple [])) σ next hist reads K⟩) (Env.get e t) want := by
 simp only [wpD, bG, AOp.allocs, AOp.acts, true_and, if_true, Bool.false_eq_true, if_false]
theorem G_conv (k : IntKind) (x : AOpd) (t : Nat) (want : Bool) (d : Option Nat) (wl wh : Nat) (ds : List ADOper) (e : Env) (σ : St) (next : Nat) (hist : List St) (reads : List ARead) (K : Env → St → Prop) : wpD T (⟨⟨d, .conv k x, some (t, want)⟩, wl, wh⟩ :: ds) e σ next hist reads K =
  bG (A := ⟨wpD T (⟨⟨d, .conv k x, none⟩, wl, wh⟩ :: ds) e σ next hist reads K⟩) (B := ⟨wpD T ds (Env.put e d (.tuple [])) σ next hist reads K⟩) (Env.get e t) want := by
 simp only [wpD, bG, AOp.allocs, AOp.acts, true_and, if_true, Bool.false_eq_true, if_false]
theorem G_mkfun (f : FuncId) (xs ys : List AOpd) (t : Nat) (want : Bool) (d : Option Nat) (wl wh : Nat) (ds : List ADOper) (e : Env) (σ : St) (next : Nat) (hist : List St) (reads : List ARead) (K : Env → St → Prop) : wpD T (⟨⟨d, .mkfun f xs ys, some (t, want)⟩, wl, wh⟩ :: ds) e σ next hist reads K =
  bG (A := ⟨wpD T (⟨⟨d, .mkfun f xs ys, none⟩, wl, wh⟩ :: ds) e σ next hist reads K⟩) (B := ⟨wpD T ds (Env.put e d (.tuple [])) σ next hist reads K⟩) (Env.get e t) want := by
 simp only [wpD, bG, AOp.allocs, AOp.acts, true_and, if_true, Bool.false_eq_true, if_false]
theorem G_mkmap  (t : Nat) (want : Bool) (d : Option Nat) (wl wh : Nat) (ds : List ADOper) (e : Env) (σ : St) (next : Nat) (hist : List St) (reads : List ARead) (K : Env → St → Prop) : wpD T (⟨⟨d, .mkmap, some (t, want)⟩, wl, wh⟩ :: ds) e σ next hist reads K =
  bG (A := ⟨wpD T (⟨⟨d, .mkmap, none⟩, wl, wh⟩ :: ds) e σ next hist reads K⟩) (B := ⟨wpD T ds (Env.put e d (.tuple [])) σ next (hist ++ [σ]) reads K⟩) (Env.get e t) want := by
 simp only [wpD, bG, AOp.allocs, AOp.acts, true_and, if_true, Bool.false_eq_true, if_false]
theorem G_mkslice (z : List AV) (b : Nat) (x y : AOpd) (t : Nat) (want : Bool) (d : Option Nat) (wl wh : Nat) (ds : List ADOper) (e : Env) (σ : St) (next : Nat) (hist : List St) (reads : List ARead) (K : Env → St → Prop) : wpD T (⟨⟨d, .mkslice z b x y, some (t, want)⟩, wl, wh⟩ :: ds) e σ next hist reads K =
  bG (A := ⟨wpD T (⟨⟨d, .mkslice z b x y, none⟩, wl, wh⟩ :: ds) e σ next hist reads K⟩) (B := ⟨wpD T ds (Env.put e d (.tuple [])) σ next (hist ++ [σ]) reads K⟩) (Env.get e t) want := by
 simp only [wpD, bG, AOp.allocs, AOp.acts, true_and, if_true, Bool.false_eq_true, if_false]
theorem G_slicev (n : Nat) (x : AOpd) (lo hi mx : Option AOpd) (t : Nat) (want : Bool) (d : Option Nat) (wl wh : Nat) (ds : List ADOper) (e : Env) (σ : St) (next : Nat) (hist : List St) (reads : List ARead) (K : Env → St → Prop) : wpD T (⟨⟨d, .slicev n x lo hi mx, some (t, want)⟩, wl, wh⟩ :: ds) e σ next hist reads K =
  bG (A := ⟨wpD T (⟨⟨d, .slicev n x lo hi mx, none⟩, wl, wh⟩ :: ds) e σ next hist reads K⟩) (B := ⟨wpD T ds (Env.put e d (.tuple [])) σ next hist reads K⟩) (Env.get e t) want := by
 simp only [wpD, bG, AOp.allocs, AOp.acts, true_and, if_true, Bool.false_eq_true, if_false]
theorem G_slicea (n s : Nat) (x : AOpd) (lo hi : Option AOpd) (t : Nat) (want : Bool) (d : Option Nat) (wl wh : Nat) (ds : List ADOper) (e : Env) (σ : St) (next : Nat) (hist : List St) (reads : List ARead) (K : Env → St → Prop) : wpD T (⟨⟨d, .slicea n s x lo hi, some (t, want)⟩, wl, wh⟩ :: ds) e σ next hist reads K =
  bG (A := ⟨wpD T (⟨⟨d, .slicea n s x lo hi, none⟩, wl, wh⟩ :: ds) e σ next hist reads K⟩) (B := ⟨wpD T ds (Env.put e d (.tuple [])) σ next hist reads K⟩) (Env.get e t) want := by
 simp only [wpD, bG, AOp.allocs, AOp.acts, true_and, if_true, Bool.false_eq_true, if_false]
theorem G_faddr (x : AOpd) (o : Nat) (t : Nat) (want : Bool) (d : Option Nat) (wl wh : Nat) (ds : List ADOper) (e : Env) (σ : St) (next : Nat) (hist : List St) (reads : List ARead) (K : Env → St → Prop) : wpD T (⟨⟨d, .faddr x o, some (t, want)⟩, wl, wh⟩ :: ds) e σ next hist reads K =
  bG (A := ⟨wpD T (⟨⟨d, .faddr x o, none⟩, wl, wh⟩ :: ds) e σ next hist reads K⟩) (B := ⟨wpD T ds (Env.put e d (.tuple [])) σ next hist reads K⟩) (Env.get e t) want := by
 simp only [wpD, bG, AOp.allocs, AOp.acts, true_and, if_true, Bool.false_eq_true, if_false]
theorem G_field (x : AOpd) (o : Nat) (sh : Option Nat) (t : Nat) (want : Bool) (d : Option Nat) (wl wh : Nat) (ds : List ADOper) (e : Env) (σ : St) (next : Nat) (hist : List St) (reads : List ARead) (K : Env → St → Prop) : wpD T (⟨⟨d, .field x o sh, some (t, want)⟩, wl, wh⟩ :: ds) e σ next hist reads K =
  bG (A := ⟨wpD T (⟨⟨d, .field x o sh, none⟩, wl, wh⟩ :: ds) e σ next hist reads K⟩) (B := ⟨wpD T ds (Env.put e d (.tuple [])) σ next hist reads K⟩) (Env.get e t) want := by
 simp only [wpD, bG, AOp.allocs, AOp.acts, true_and, if_true, Bool.false_eq_true, if_false]
theorem G_iaddr (a : Option Nat) (s : Nat) (x i : AOpd) (t : Nat) (want : Bool) (d : Option Nat) (wl wh : Nat) (ds : List ADOper) (e : Env) (σ : St) (next : Nat) (hist : List St) (reads : List ARead) (K : Env → St → Prop) : wpD T (⟨⟨d, .iaddr a s x i, some (t, want)⟩, wl, wh⟩ :: ds) e σ next hist reads K =
  bG (A := ⟨wpD T (⟨⟨d, .iaddr a s x i, none⟩, wl, wh⟩ :: ds) e σ next hist reads K⟩) (B := ⟨wpD T ds (Env.put e d (.tuple [])) σ next hist reads K⟩) (Env.get e t) want := by
 simp only [wpD, bG, AOp.allocs, AOp.acts, true_and, if_true, Bool.false_eq_true, if_false]
theorem G_index (n s : Nat) (sh : Option Nat) (x i : AOpd) (t : Nat) (want : Bool) (d : Option Nat) (wl wh : Nat) (ds : List ADOper) (e : Env) (σ : St) (next : Nat) (hist : List St) (reads : List ARead) (K : Env → St → Prop) : wpD T (⟨⟨d, .index n s sh x i, some (t, want)⟩, wl, wh⟩ :: ds) e σ next hist reads K =
  bG (A := ⟨wpD T (⟨⟨d, .index n s sh x i, none⟩, wl, wh⟩ :: ds) e σ next hist reads K⟩) (B := ⟨wpD T ds (Env.put e d (.tuple [])) σ next hist reads K⟩) (Env.get e t) want := by
 simp only [wpD, bG, AOp.allocs, AOp.acts, true_and, if_true, Bool.false_eq_true, if_false]
theorem G_sindex (x i : AOpd) (t : Nat) (want : Bool) (d : Option Nat) (wl wh : Nat) (ds : List ADOper) (e : Env) (σ : St) (next : Nat) (hist : List St) (reads : List ARead) (K : Env → St → Prop) : wpD T (⟨⟨d, .sindex x i, some (t, want)⟩, wl, wh⟩ :: ds) e σ next hist reads K =
  bG (A := ⟨wpD T (⟨⟨d, .sindex x i, none⟩, wl, wh⟩ :: ds) e σ next hist reads K⟩) (B := ⟨wpD T ds (Env.put e d (.tuple [])) σ next hist reads K⟩) (Env.get e t) want := by
 simp only [wpD, bG, AOp.allocs, AOp.acts, true_and, if_true, Bool.false_eq_true, if_false]
theorem G_lookup (sh : EqTy) (ok : Bool) (z : AV) (m k : AOpd) (t : Nat) (want : Bool) (d : Option Nat) (wl wh : Nat) (ds : List ADOper) (e : Env) (σ : St) (next : Nat) (hist : List St) (reads : List ARead) (K : Env → St → Prop) : wpD T (⟨⟨d, .lookup sh ok z m k, some (t, want)⟩, wl, wh⟩ :: ds) e σ next hist reads K =
  bG (A := ⟨wpD T (⟨⟨d, .lookup sh ok z m k, none⟩, wl, wh⟩ :: ds) e σ next hist reads K⟩) (B := ⟨wpD T ds (Env.put e d (.tuple [])) σ next hist reads K⟩) (Env.get e t) want := by
 simp only [wpD, bG, AOp.allocs, AOp.acts, true_and, if_true, Bool.false_eq_true, if_false]
theorem G_mapset (sh : EqTy) (m k v : AOpd) (t : Nat) (want : Bool) (d : Option Nat) (wl wh : Nat) (ds : List ADOper) (e : Env) (σ : St) (next : Nat) (hist : List St) (reads : List ARead) (K : Env → St → Prop) : wpD T (⟨⟨d, .mapset sh m k v, some (t, want)⟩, wl, wh⟩ :: ds) e σ next hist reads K =
  bG (A := ⟨wpD T (⟨⟨d, .mapset sh m k v, none⟩, wl, wh⟩ :: ds) e σ next hist reads K⟩) (B := ⟨wpD T ds (Env.put e d (.tuple [])) σ next (hist ++ [σ]) reads K⟩) (Env.get e t) want := by
 simp only [wpD, bG, AOp.allocs, AOp.acts, true_and, if_true, Bool.false_eq_true, if_false]
theorem G_ext (x : AOpd) (i : Nat) (t : Nat) (want : Bool) (d : Option Nat) (wl wh : Nat) (ds : List ADOper) (e : Env) (σ : St) (next : Nat) (hist : List St) (reads : List ARead) (K : Env → St → Prop) : wpD T (⟨⟨d, .ext x i, some (t, want)⟩, wl, wh⟩ :: ds) e σ next hist reads K =
  bG (A := ⟨wpD T (⟨⟨d, .ext x i, none⟩, wl, wh⟩ :: ds) e σ next hist reads K⟩) (B := ⟨wpD T ds (Env.put e d (.tuple [])) σ next hist reads K⟩) (Env.get e t) want := by
 simp only [wpD, bG, AOp.allocs, AOp.acts, true_and, if_true, Bool.false_eq_true, if_false]
theorem G_len (k : Nat) (x : AOpd) (t : Nat) (want : Bool) (d : Option Nat) (wl wh : Nat) (ds : List ADOper) (e : Env) (σ : St) (next : Nat) (hist : List St) (reads : List ARead) (K : Env → St → Prop) : wpD T (⟨⟨d, .len k x, some (t, want)⟩, wl, wh⟩ :: ds) e σ next hist reads K =
  bG (A := ⟨wpD T (⟨⟨d, .len k x, none⟩, wl, wh⟩ :: ds) e σ next hist reads K⟩) (B := ⟨wpD T ds (Env.put e d (.tuple [])) σ next hist reads K⟩) (Env.get e t) want := by
 simp only [wpD, bG, AOp.allocs, AOp.acts, true_and, if_true, Bool.false_eq_true, if_false]
theorem G_append (n b : Nat) (x y : AOpd) (t : Nat) (want : Bool) (d : Option Nat) (wl wh : Nat) (ds : List ADOper) (e : Env) (σ : St) (next : Nat) (hist : List St) (reads : List ARead) (K : Env → St → Prop) : wpD T (⟨⟨d, .append n b x y, some (t, want)⟩, wl, wh⟩ :: ds) e σ next hist reads K =
  bG (A := ⟨wpD T (⟨⟨d, .append n b x y, none⟩, wl, wh⟩ :: ds) e σ next hist reads K⟩) (B := ⟨wpD T ds (Env.put e d (.tuple [])) σ next (hist ++ [σ]) reads K⟩) (Env.get e t) want := by
 simp only [wpD, bG, AOp.allocs, AOp.acts, true_and, if_true, Bool.false_eq_true, if_false]
theorem G_apref (n b : Nat) (x y : AOpd) (t : Nat) (want : Bool) (d : Option Nat) (wl wh : Nat) (ds : List ADOper) (e : Env) (σ : St) (next : Nat) (hist : List St) (reads : List ARead) (K : Env → St → Prop) : wpD T (⟨⟨d, .apref n b x y, some (t, want)⟩, wl, wh⟩ :: ds) e σ next hist reads K =
  bG (A := ⟨wpD T (⟨⟨d, .apref n b x y, none⟩, wl, wh⟩ :: ds) e σ next hist reads K⟩) (B := ⟨wpD T ds (Env.put e d (.tuple [])) σ next (hist ++ [σ]) reads K⟩) (Env.get e t) want := by
 simp only [wpD, bG, AOp.allocs, AOp.acts, true_and, if_true, Bool.false_eq_true, if_false]
theorem G_copy (n : Nat) (x y : AOpd) (t : Nat) (want : Bool) (d : Option Nat) (wl wh : Nat) (ds : List ADOper) (e : Env) (σ : St) (next : Nat) (hist : List St) (reads : List ARead) (K : Env → St → Prop) : wpD T (⟨⟨d, .copy n x y, some (t, want)⟩, wl, wh⟩ :: ds) e σ next hist reads K =
  bG (A := ⟨wpD T (⟨⟨d, .copy n x y, none⟩, wl, wh⟩ :: ds) e σ next hist reads K⟩) (B := ⟨wpD T ds (Env.put e d (.tuple [])) σ next (hist ++ [σ]) reads K⟩) (Env.get e t) want := by
 simp only [wpD, bG, AOp.allocs, AOp.acts, true_and, if_true, Bool.false_eq_true, if_false]
theorem G_min (xs : List AOpd) (t : Nat) (want : Bool) (d : Option Nat) (wl wh : Nat) (ds : List ADOper) (e : Env) (σ : St) (next : Nat) (hist : List St) (reads : List ARead) (K : Env → St → Prop) : wpD T (⟨⟨d, .min xs, some (t, want)⟩, wl, wh⟩ :: ds) e σ next hist reads K =
  bG (A := ⟨wpD T (⟨⟨d, .min xs, none⟩, wl, wh⟩ :: ds) e σ next hist reads K⟩) (B := ⟨wpD T ds (Env.put e d (.tuple [])) σ next hist reads K⟩) (Env.get e t) want := by
 simp only [wpD, bG, AOp.allocs, AOp.acts, true_and, if_true, Bool.false_eq_true, if_false]
theorem G_max (xs : List AOpd) (t : Nat) (want : Bool) (d : Option Nat) (wl wh : Nat) (ds : List ADOper) (e : Env) (σ : St) (next : Nat) (hist : List St) (reads : List ARead) (K : Env → St → Prop) : wpD T (⟨⟨d, .max xs, some (t, want)⟩, wl, wh⟩ :: ds) e σ next hist reads K =
  bG (A := ⟨wpD T (⟨⟨d, .max xs, none⟩, wl, wh⟩ :: ds) e σ next hist reads K⟩) (B := ⟨wpD T ds (Env.put e d (.tuple [])) σ next hist reads K⟩) (Env.get e t) want := by
 simp only [wpD, bG, AOp.allocs, AOp.acts, true_and, if_true, Bool.false_eq_true, if_false]
theorem G_srange (x : AOpd) (t : Nat) (want : Bool) (d : Option Nat) (wl wh : Nat) (ds : List ADOper) (e : Env) (σ : St) (next : Nat) (hist : List St) (reads : List ARead) (K : Env → St → Prop) : wpD T (⟨⟨d, .srange x, some (t, want)⟩, wl, wh⟩ :: ds) e σ next hist reads K =
  bG (A := ⟨wpD T (⟨⟨d, .srange x, none⟩, wl, wh⟩ :: ds) e σ next hist reads K⟩) (B := ⟨wpD T ds (Env.put e d (.tuple [])) σ next (hist ++ [σ]) reads K⟩) (Env.get e t) want := by
 simp only [wpD, bG, AOp.allocs, AOp.acts, true_and, if_true, Bool.false_eq_true, if_false]
theorem G_snext (x : AOpd) (t : Nat) (want : Bool) (d : Option Nat) (wl wh : Nat) (ds : List ADOper) (e : Env) (σ : St) (next : Nat) (hist : List St) (reads : List ARead) (K : Env → St → Prop) : wpD T (⟨⟨d, .snext x, some (t, want)⟩, wl, wh⟩ :: ds) e σ next hist reads K =
  bG (A := ⟨wpD T (⟨⟨d, .snext x, none⟩, wl, wh⟩ :: ds) e σ next hist reads K⟩) (B := ⟨wpD T ds (Env.put e d (.tuple [])) σ next (hist ++ [σ]) reads K⟩) (Env.get e t) want := by
 simp only [wpD, bG, AOp.allocs, AOp.acts, true_and, if_true, Bool.false_eq_true, if_false]
end Go.Am
namespace Go.Am
variable {T : FuncId → Option AFunc}
structure KeepS (σ σ' : St) (lo : Nat) : Prop where
 len : σ.length ≤ σ'.length
 low : ∀ i, i < lo → i < σ.length → σ'[i]? = σ[i]?
 loops : ∀ (i : Nat) (st : LS) (pe : Option AJump) (env : Env) (ps : List Nat) (a b : ACode), i < σ.length → σ'[i]? = some (.loop st pe env ps a b) → ∃ st' pe', σ[i]? = some (.loop st' pe' env ps a b)
theorem KeepS.refl (σ : St) (lo : Nat) : KeepS σ σ lo := ⟨Nat.le_refl _, fun _ _ _ => rfl, fun i st pe env ps a b _ h => ⟨st, pe, h⟩⟩
theorem KeepS.weak {σ σ' : St} {lo l : Nat} (h : KeepS σ σ' lo) (hl : l ≤ lo) : KeepS σ σ' l := ⟨h.len, fun i hi => h.low i (by omega), h.loops⟩
theorem KeepS.trans {σ σ1 σ2 : St} {l1 l2 : Nat} (h : KeepS σ σ1 l1) (k : KeepS σ1 σ2 l2) : KeepS σ σ2 (Nat.min l1 l2) where
 len := Nat.le_trans h.len k.len
 low i hi hlt := by
  have h1 : i < l1 := Nat.lt_of_lt_of_le hi (Nat.min_le_left _ _)
  have h2 : i < l2 := Nat.lt_of_lt_of_le hi (Nat.min_le_right _ _)
  rw [k.low i h2 (Nat.lt_of_lt_of_le hlt h.len), h.low i h1 hlt]
 loops i st pe env ps a b hlt e := by
  obtain ⟨st1, pe1, e1⟩ := k.loops i st pe env ps a b (Nat.lt_of_lt_of_le hlt h.len) e
  exact h.loops i st1 pe1 env ps a b hlt e1
theorem KeepS.app (σ : St) (τ : St) (lo : Nat) : KeepS σ (σ ++ τ) lo :=
 ⟨by simp, fun i _ hi => List.getElem?_append_left hi, fun i st pe env ps a b hi e => ⟨st, pe, by rw [← List.getElem?_append_left (l₂ := τ) hi]; exact e⟩⟩
theorem KeepS.set {σ : St} {i : Nat} {x : ABlk} (hx : ∀ st pe env ps a b, x ≠ .loop st pe env ps a b) : KeepS σ (σ.set i x) i where
 len := by simp
 low j hj _ := List.getElem?_set_ne (by omega)
 loops j st pe env ps a b hj e := by
  by_cases h : i = j
  ·subst h
   rw [List.getElem?_set_self hj] at e
   cases e
   exact absurd rfl (hx _ _ _ _ _ _)
  ·rw [List.getElem?_set_ne h] at e
   exact ⟨st, pe, e⟩
end Go.Am
namespace Go.Am
variable {T : FuncId → Option AFunc}
theorem KeepS.step {σ σ1 σ2 : St} {l lo lo' : Nat} (h : KeepS σ σ1 l) (k : lo' ≤ Nat.min lo l ∧ KeepS σ1 σ2 lo') : lo' ≤ lo ∧ KeepS σ σ2 lo' := by
 have h1 : lo' ≤ l := Nat.le_trans k.1 (Nat.min_le_right _ _)
 refine ⟨Nat.le_trans k.1 (Nat.min_le_left _ _), (h.trans k.2).weak ?_⟩
 exact Nat.le_min.2 ⟨h1, Nat.le_refl _⟩
end Go.Am
namespace Go.Am
variable {T : FuncId → Option AFunc}
theorem E_evs0 (e : Env) : evs e [] = [] := by simp only [evs]
theorem E_evs1 (e : Env) (x : AOpd) (xs : List AOpd) : evs e (x :: xs) = x.ev e :: evs e xs := by simp only [evs]
theorem E_ovs0 (e : Env) : ovs e none = none := by simp only [ovs]
theorem E_ovs1 (e : Env) (x : AOpd) : ovs e (some x) = some (x.ev e) := by simp only [ovs]
theorem O_map {α β : Type} (f : α → β) (a : α) : Option.map f (some a) = some (f a) := by simp
theorem O_bind {α β : Type} (f : α → Option β) (a : α) : (some a).bind f = f a := by simp
theorem V_nilP (i o : Nat) : vNil (.ptr i o) = some (.ptr i o) := by simp only [vNil]
theorem V_nilL (xs : List AV) (i o : Nat) (t : Option Nat) : vNil (.lptr xs i o t) = some (.lptr xs i o t) := by simp only [vNil]
theorem V_nilF (f : FuncId) (a b : List AV) : vNil (.func f a b) = some (.func f a b) := by simp only [vNil]
theorem V_field (o : Nat) (sh : Option Nat) (cs : List AV) : vField o sh (.agg cs) = shaped sh cs o := by simp only [vField]
theorem V_conv (k k' : IntKind) (n : Int) : vConv k (.int k' n) = some (.int k (k.wrap n)) := by simp only [vConv]
theorem V_neg (k : IntKind) (n : Int) : vNeg (.int k n) = some (.int k (k.wrap (0 - n))) := by simp only [vNeg]
theorem V_pickT (x y : AV) : vPick (.bool true) x y = some x := by simp only [vPick]
theorem V_pickF (x y : AV) : vPick (.bool false) x y = some y := by simp only [vPick]
theorem V_str (s : ByteArray) : vStr (.str s) = some s := by simp only [vStr]
theorem V_eqI (k : IntKind) (a b : Int) : eqCell .i (.int k a) (.int k b) = some (a == b) := by simp [eqCell]
theorem V_eqB (a b : Bool) : eqCell .b (.bool a) (.bool b) = some (a == b) := by simp [eqCell]
theorem V_eqS (a b : ByteArray) : eqCell .s (.str a) (.str b) = some (a.toList == b.toList) := by simp [eqCell]
def oand : Option Bool → Option Bool → Option Bool
 | some p, some q => some (p && q)
 | _, _ => none
theorem V_oand (p q : Bool) : oand (some p) (some q) = some (p && q) := by simp only [oand]
theorem V_eqC0 : eqCells [] [] [] = some true := by simp [eqCells]
theorem V_eqC1 (k : SK) (ks : List SK) (a b : AV) (x y : List AV) : eqCells (k :: ks) (a :: x) (b :: y) = oand (eqCell k a b) (eqCells ks x y) := by
 simp only [eqCells, oand]; cases eqCell k a b <;> cases eqCells ks x y <;> rfl
theorem V_eq1 (k : SK) (x y : AV) : vEql (.one k) false x y = (eqCell k x y).map .bool := by
 simp only [vEql, eqSh]; cases eqCell k x y <;> simp
theorem V_ne1 (k : SK) (x y : AV) : vEql (.one k) true x y = (eqCell k x y).map fun b => .bool !b := by
 simp only [vEql, eqSh]; cases eqCell k x y <;> simp
theorem V_eqA (ks : List SK) (x y : List AV) : vEql (.agg ks) false (.agg x) (.agg y) = (eqCells ks x y).map .bool := by
 simp only [vEql, eqSh]; cases eqCells ks x y <;> simp
theorem V_neA (ks : List SK) (x y : List AV) : vEql (.agg ks) true (.agg x) (.agg y) = (eqCells ks x y).map fun b => .bool !b := by
 simp only [vEql, eqSh]; cases eqCells ks x y <;> simp
theorem V_add (k : IntKind) (a b : Int) : binAV .add (.int k a) (.int k b) = some (.int k (k.wrap (a + b))) := by simp [binAV, binInt]
theorem V_sub (k : IntKind) (a b : Int) : binAV .sub (.int k a) (.int k b) = some (.int k (k.wrap (a - b))) := by simp [binAV, binInt]
theorem V_mul (k : IntKind) (a b : Int) : binAV .mul (.int k a) (.int k b) = some (.int k (k.wrap (a * b))) := by simp [binAV, binInt]
theorem V_lss (k : IntKind) (a b : Int) : binAV .lss (.int k a) (.int k b) = some (.bool (decide (a < b))) := by simp [binAV, binInt]
theorem V_leq (k : IntKind) (a b : Int) : binAV .leq (.int k a) (.int k b) = some (.bool (decide (a ≤ b))) := by simp [binAV, binInt]
theorem V_gtr (k : IntKind) (a b : Int) : binAV .gtr (.int k a) (.int k b) = some (.bool (decide (b < a))) := by simp [binAV, binInt]
theorem V_geq (k : IntKind) (a b : Int) : binAV .geq (.int k a) (.int k b) = some (.bool (decide (b ≤ a))) := by simp [binAV, binInt]
theorem wrap64 {x : Int} (h : -9223372036854775808 ≤ x ∧ x ≤ 9223372036854775807) : IntKind.i64.wrap x = x := by
 simp only [IntKind.wrap, IntKind.signed, IntKind.bits]
 first
  | (rw [Int.bmod_eq_of_le] <;> omega)
  | (simp; omega)
theorem V_len (σ : St) (xs : List AV) (f : Bool) (t : Option Nat) : lenAV 1 σ (.lit xs f t) = some xs.length := by simp only [lenAV]
theorem V_lenS (σ : St) (s : ByteArray) : lenAV 0 σ (.str s) = some s.size := by simp only [lenAV]
theorem V_lenR (σ : St) (id off len sz : Nat) : lenAV 1 σ (.ref id off len sz) = some len := by simp only [lenAV]
theorem M_ptr (sh : Option Nat) (σ : St) (id off : Nat) : loadAV sh σ (.ptr id off) = (cellsAt σ id).bind fun cs => shaped sh cs off := by
 simp only [loadAV]; cases cellsAt σ id <;> simp
theorem M_lptr (sh : Option Nat) (σ : St) (xs : List AV) (i off : Nat) (t : Option Nat) : loadAV sh σ (.lptr xs i off t) = (xs[i]?).bind fun x => shaped sh x.cells off := by
 simp only [loadAV]; cases xs[i]? <;> simp
theorem M_at0 (b : List AV) (τ : St) : cellsAt (.cells b :: τ) 0 = some b := by simp [cellsAt]
theorem M_atS (b : ABlk) (τ : St) (k : Nat) : cellsAt (b :: τ) (k + 1) = cellsAt τ k := by simp [cellsAt]
theorem M_base (σ τ : St) (k : Nat) : cellsAt (σ ++ τ) (σ.length + k) = cellsAt τ k := by simp only [cellsAt, st_get]
theorem M_base0 (σ τ : St) : cellsAt (σ ++ τ) σ.length = cellsAt τ 0 := M_base σ τ 0
theorem M_sh1 (cs : List AV) (off : Nat) : shaped none cs off = cs[off]? := by simp [shaped]
theorem M_shN (n : Nat) (cs : List AV) (off : Nat) : shaped (some n) cs off = if off + n ≤ cs.length then some (.agg ((cs.drop off).take n)) else none := by simp [shaped]
theorem M_store (n : Nat) (σ : St) (id off : Nat) (v : AV) : storeAV n σ (.ptr id off) v = (vCells n v).bind fun us => (cellsAt σ id).bind fun cs => (setCells cs off us).map fun cs' => σ.set id (.cells cs') := by
 simp only [storeAV, vCells]
 split
 ·simp only [Option.bind_some]
  cases cellsAt σ id with
  | none => simp
  | some cs => simp only [Option.bind_some]; cases setCells cs off v.cells <;> simp
 ·simp
theorem M_set (cs us : List AV) (off : Nat) : setCells cs off us = if off + us.length ≤ cs.length then some (cs.take off ++ us ++ cs.drop (off + us.length)) else none := by simp only [setCells]
def cellsOk (n : Nat) (v : AV) : Bool := v.cells.length == n && v.cells.all (·.cell)
theorem C_cells (n : Nat) (v : AV) : vCells n v = if cellsOk n v = true then some v.cells else none := by unfold vCells cellsOk; rfl
theorem C_int (k : IntKind) (n : Int) : cellsOk 1 (.int k n) = true := by simp [cellsOk, AV.cells, AV.cell]
theorem C_bool (b : Bool) : cellsOk 1 (.bool b) = true := by simp [cellsOk, AV.cells, AV.cell]
theorem C_str (b : ByteArray) : cellsOk 1 (.str b) = true := by simp [cellsOk, AV.cells, AV.cell]
theorem C_lit (xs : List AV) (f : Bool) (t : Option Nat) : cellsOk 1 (.lit xs f t) = true := by simp [cellsOk, AV.cells, AV.cell]
theorem C_ref (a b c d : Nat) : cellsOk 1 (.ref a b c d) = true := by simp [cellsOk, AV.cells, AV.cell]
theorem C_ptr (a b : Nat) : cellsOk 1 (.ptr a b) = true := by simp [cellsOk, AV.cells, AV.cell]
theorem C_func (f : FuncId) (a b : List AV) : cellsOk 1 (.func f a b) = true := by simp [cellsOk, AV.cells, AV.cell]
theorem C_map (i : Nat) : cellsOk 1 (.map i) = true := by simp [cellsOk, AV.cells, AV.cell]
theorem C_nilPtr : cellsOk 1 .nilPtr = true := by simp [cellsOk, AV.cells, AV.cell]
theorem C_nilFunc : cellsOk 1 .nilFunc = true := by simp [cellsOk, AV.cells, AV.cell]
def allCell : List AV → Bool
 | [] => true
 | v :: vs => v.cell && allCell vs
theorem C_agg (n : Nat) (cs : List AV) : cellsOk n (.agg cs) = (cs.length == n && allCell cs) := by
 simp only [cellsOk, AV.cells]
 congr 1
 induction cs with
 | nil => rfl
 | cons c cs ih => simp only [List.all_cons, allCell, ih]
theorem C_0 : allCell [] = true := by simp only [allCell]
theorem C1_int (k : IntKind) (n : Int) (cs : List AV) : allCell (.int k n :: cs) = allCell cs := by simp [allCell, AV.cell]
theorem C1_bool (b : Bool) (cs : List AV) : allCell (.bool b :: cs) = allCell cs := by simp [allCell, AV.cell]
theorem C1_str (b : ByteArray) (cs : List AV) : allCell (.str b :: cs) = allCell cs := by simp [allCell, AV.cell]
theorem C1_lit (xs : List AV) (f : Bool) (t : Option Nat) (cs : List AV) : allCell (.lit xs f t :: cs) = allCell cs := by simp [allCell, AV.cell]
theorem C1_ref (a b c d : Nat) (cs : List AV) : allCell (.ref a b c d :: cs) = allCell cs := by simp [allCell, AV.cell]
theorem C1_ptr (a b : Nat) (cs : List AV) : allCell (.ptr a b :: cs) = allCell cs := by simp [allCell, AV.cell]
theorem C1_func (f : FuncId) (a b : List AV) (cs : List AV) : allCell (.func f a b :: cs) = allCell cs := by simp [allCell, AV.cell]
theorem C1_map (i : Nat) (cs : List AV) : allCell (.map i :: cs) = allCell cs := by simp [allCell, AV.cell]
theorem C1_nilPtr  (cs : List AV) : allCell (.nilPtr :: cs) = allCell cs := by simp [allCell, AV.cell]
theorem C1_nilFunc  (cs : List AV) : allCell (.nilFunc :: cs) = allCell cs := by simp [allCell, AV.cell]
theorem K_int (k : IntKind) (n : Int) : (AV.int k n).cells = [.int k n] := by simp [AV.cells]
theorem K_bool (b : Bool) : (AV.bool b).cells = [.bool b] := by simp [AV.cells]
theorem K_str (b : ByteArray) : (AV.str b).cells = [.str b] := by simp [AV.cells]
theorem K_lit (xs : List AV) (f : Bool) (t : Option Nat) : (AV.lit xs f t).cells = [.lit xs f t] := by simp [AV.cells]
theorem K_ref (a b c d : Nat) : (AV.ref a b c d).cells = [.ref a b c d] := by simp [AV.cells]
theorem K_ptr (a b : Nat) : (AV.ptr a b).cells = [.ptr a b] := by simp [AV.cells]
theorem K_func (f : FuncId) (a b : List AV) : (AV.func f a b).cells = [.func f a b] := by simp [AV.cells]
theorem K_map (i : Nat) : (AV.map i).cells = [.map i] := by simp [AV.cells]
theorem K_agg (cs : List AV) : (AV.agg cs).cells = cs := by simp [AV.cells]
theorem K_nilPtr : AV.nilPtr.cells = [.nilPtr] := by simp [AV.cells]
theorem K_nilFunc : AV.nilFunc.cells = [.nilFunc] := by simp [AV.cells]
theorem M_bc0 (e : Env) (cs : List AV) : buildCells e cs [] = some cs := by simp only [buildCells]
theorem M_bc1 (e : Env) (cs : List AV) (off n : Nat) (x : AOpd) (rest : List (Nat × Nat × AOpd)) :
  buildCells e cs ((off, n, x) :: rest) = ((vCells n (x.ev e)).bind fun us => setCells cs off us).bind fun cs => buildCells e cs rest := q_bcI e cs off n x rest
theorem L_all0 (n : Nat) : allCells n [] = true := by simp [allCells]
theorem L_all1 (n : Nat) (x : AV) (xs : List AV) : allCells n (x :: xs) = (cellsOk n x && allCells n xs) := by simp [allCells, cellsOk]
theorem L_allM {α : Type} (n : Nat) (enc : α → AV) (l : List α) (h : ∀ x, cellsOk n (enc x) = true) : allCells n (l.map enc) = true := by
 induction l with
 | nil => exact L_all0 n
 | cons x l ih => rw [List.map_cons, L_all1, h, ih]; rfl
theorem L_lit (n : Nat) (xs : List AV) : vLit n xs = if allCells n xs = true then some (.lit xs true none) else none := by simp only [vLit]
def vIdx (sz : Nat) (xs : List AV) (j : Int) (t : Option Nat) : Option AV := (xs[j.toNat]?).bind fun y => if 0 ≤ j ∧ y.cells.length = sz then some (.lptr xs j.toNat 0 t) else none
theorem V_iaL (sz : Nat) (xs : List AV) (f : Bool) (t : Option Nat) (k : IntKind) (j : Int) : vIaddr none sz (.lit xs f t) (.int k j) = vIdx sz xs j t := by
 simp only [vIaddr, intOf, vIdx]; cases xs[j.toNat]? <;> simp
theorem V_iaA (n sz id off : Nat) (k : IntKind) (j : Int) : vIaddr (some n) sz (.ptr id off) (.int k j) = if 0 ≤ j ∧ j < n then some (.ptr id (off + j.toNat * sz)) else none := by simp only [vIaddr, intOf]
theorem V_iaAL (n sz q off : Nat) (xs : List AV) (t : Option Nat) (k : IntKind) (j : Int) : vIaddr (some n) sz (.lptr xs q off t) (.int k j) = if 0 ≤ j ∧ j < n then some (.lptr xs q (off + j.toNat * sz) t) else none := by simp only [vIaddr, intOf]
theorem V_iaR (sz id off len sz' : Nat) (k : IntKind) (j : Int) : vIaddr none sz (.ref id off len sz') (.int k j) = if 0 ≤ j ∧ j < len ∧ sz' = sz then some (.ptr id (off + j.toNat * sz)) else none := by simp only [vIaddr, intOf]
def AppOk (sz b : Nat) (xs ys : List AV) : Prop := allCells sz xs = true ∧ allCells sz ys = true ∧ (xs.length + ys.length) * b ≤ room ∧ xs.length + ys.length ≤ room
theorem app_tok {sz b : Nat} {σ : St} {xs ys : List AV} {t : Nat} {tk : Option Nat} {f ex : Bool} (h : AppOk sz b xs ys) (h0 : ys.length ≠ 0) (ht : σ[t]? = some (.tok sz xs.length ex)) :
  appendAV sz b σ (.lit xs false (some t)) (.lit ys f tk) = some (.lit (xs ++ ys) false (some t), σ.set t (.tok sz (xs.length + ys.length) true)) := by
 obtain ⟨h1, h2, h3, h4⟩ := h
 simp [appendAV, view, sized, h0, h1, h2, h3, h4, ht]
def snapM (σ : St) (m d : Nat) (v : AV) : Option AV := (snap σ m d v).map clr
def snapMs (σ : St) (m d : Nat) (vs : List AV) : Option (List AV) := (snaps σ m d vs).map clrs
theorem S_int (σ : St) (m d : Nat) (k : IntKind) (n : Int) : snapM σ m d (.int k n) = some (.int k n) := by simp [snapM, snap, clr]
theorem S_bool (σ : St) (m d : Nat) (b : Bool) : snapM σ m d (.bool b) = some (.bool b) := by simp [snapM, snap, clr]
theorem S_str (σ : St) (m d : Nat) (b : ByteArray) : snapM σ m d (.str b) = some (.str b) := by simp [snapM, snap, clr]
theorem S_nilPtr (σ : St) (m d : Nat) : snapM σ m d .nilPtr = some .nilPtr := by simp [snapM, snap, clr]
theorem S_nilFunc (σ : St) (m d : Nat) : snapM σ m d .nilFunc = some .nilFunc := by simp [snapM, snap, clr]
theorem S_ptr (σ : St) (m d id off : Nat) : snapM σ m d (.ptr id off) = if id < m then some (.ptr id off) else none := by
 simp only [snapM, snap]; split <;> simp [clr]
theorem S_map (σ : St) (m d id : Nat) : snapM σ m d (.map id) = if id < m then some (.map id) else none := by
 simp only [snapM, snap]; split <;> simp [clr]
theorem S_nil (σ : St) (m d : Nat) : snapMs σ m d [] = some [] := by simp [snapMs, snaps, clrs]
theorem S_cons (σ : St) (m d : Nat) (v : AV) (vs : List AV) : snapMs σ m d (v :: vs) = (snapM σ m d v).bind fun a => (snapMs σ m d vs).map (a :: ·) := by
 simp only [snapMs, snapM, snaps]; cases snap σ m d v <;> cases snaps σ m d vs <;> simp [clrs]
theorem S_tuple (σ : St) (m d : Nat) (vs : List AV) : snapM σ m d (.tuple vs) = (snapMs σ m d vs).map .tuple := by
 simp only [snapMs, snapM, snap]; cases snaps σ m d vs <;> simp [clr]
theorem S_agg (σ : St) (m d : Nat) (vs : List AV) : snapM σ m d (.agg vs) = (snapMs σ m d vs).map .agg := by
 simp only [snapMs, snapM, snap]; cases snaps σ m d vs <;> simp [clr]
theorem S_lit0 (σ : St) (m d : Nat) (vs : List AV) (f : Bool) : snapM σ m d (.lit vs f none) = (snapMs σ m d vs).map fun ys => .lit ys false none := by
 simp only [snapMs, snapM, snap]; cases snaps σ m d vs <;> simp [clr]
theorem S_lit1 (σ : St) (m d t : Nat) (vs : List AV) (f : Bool) : snapM σ m d (.lit vs f (some t)) = (snapMs σ m d vs).map fun ys => if t < m then .lit ys f (some t) else .lit ys false none := by
 simp only [snapMs, snapM, snap]; cases snaps σ m d vs <;> by_cases h : t < m <;> simp [clr, h, Option.filter]
theorem S_func (σ : St) (m d : Nat) (f : FuncId) (a b : List AV) : snapM σ m d (.func f a b) = (snapMs σ m d a).bind fun x => (snapMs σ m d b).map fun y => .func f x y := by
 simp only [snapMs, snapM, snap]; cases snaps σ m d a <;> cases snaps σ m d b <;> simp [clr]
theorem S_ref (σ : St) (m d id off len sz : Nat) : snapM σ m (d + 1) (.ref id off len sz) =
  if id < m then some (.ref id off len sz) else (view σ (.ref id off len sz)).bind fun xs => if (decide (0 < sz) && allCells sz xs) = true then (snapMs σ m d xs).map fun ys => .lit ys false none else none := by
 simp only [snapM, snap]
 split
 ·simp [clr]
 ·cases view σ (.ref id off len sz) with
  | none => simp
  | some xs =>
   simp only [Option.bind_some]
   split
   ·simp only [snapMs]; cases snaps σ m d xs <;> simp [clr]
   ·simp
def Data (v : AV) : Prop := okV 0 v ∧ clr v = v
def Datas (vs : List AV) : Prop := okVs 0 vs ∧ clrs vs = vs
mutual
theorem snap_ok0 (σ : St) (m d : Nat) : ∀ (v : AV), okV 0 v → snap σ m d v = some v
 | .func f first cap, h => by simp only [okV] at h; simp only [snap, snaps_ok0 σ m d first h.1, snaps_ok0 σ m d cap h.2]
 | .yield _, h | .ptr _ _, h | .ref _ _ _ _, h | .map _, h => by simp [okV] at h
 | .lptr xs i o tk, h => by
  simp only [okV] at h
  cases tk with
  | none => simp [snap, snaps_ok0 σ m d xs h.2]
  | some t => exact absurd (h.1 t rfl) (by omega)
 | .lit xs f tk, h => by
  simp only [okV] at h
  cases tk with
  | none => simp [snap, snaps_ok0 σ m d xs h.2]
  | some t => exact absurd (h.1 t rfl) (by omega)
 | .agg cs, h => by simp only [okV] at h; simp [snap, snaps_ok0 σ m d cs h]
 | .tuple cs, h => by simp only [okV] at h; simp [snap, snaps_ok0 σ m d cs h]
 | .undef, _ | .int _ _, _ | .bool _, _ | .str _, _ | .nilFunc, _ | .nilPtr, _ | .nilMap, _ => by simp [snap]
theorem snaps_ok0 (σ : St) (m d : Nat) : ∀ (vs : List AV), okVs 0 vs → snaps σ m d vs = some vs
 | [], _ => by simp [snaps]
 | v :: vs, h => by simp only [okVs] at h; simp [snaps, snap_ok0 σ m d v h.1, snaps_ok0 σ m d vs h.2]
end
theorem S_data {v : AV} (h : Data v) (σ : St) (m d : Nat) : snapM σ m d v = some v := by simp [snapM, snap_ok0 σ m d v h.1, h.2]
theorem S_datas {vs : List AV} (h : Datas vs) (σ : St) (m d : Nat) : snapMs σ m d vs = some vs := by simp [snapMs, snaps_ok0 σ m d vs h.1, h.2]
theorem data_int (k : IntKind) (n : Int) : Data (.int k n) := ⟨trivial, rfl⟩
theorem data_bool (b : Bool) : Data (.bool b) := ⟨trivial, rfl⟩
theorem data_str (b : ByteArray) : Data (.str b) := ⟨trivial, rfl⟩
theorem datas_nil : Datas [] := ⟨trivial, rfl⟩
theorem datas_cons {v : AV} {vs : List AV} (h : Data v) (hs : Datas vs) : Datas (v :: vs) := ⟨⟨h.1, hs.1⟩, by simp [clrs, h.2, hs.2]⟩
theorem data_agg {vs : List AV} (h : Datas vs) : Data (.agg vs) := ⟨h.1, by simp [clr, h.2]⟩
theorem data_tuple {vs : List AV} (h : Datas vs) : Data (.tuple vs) := ⟨h.1, by simp [clr, h.2]⟩
theorem data_lit {vs : List AV} (h : Datas vs) : Data (.lit vs false none) := ⟨⟨(fun t e => by cases e), h.1⟩, by simp [clr, h.2]⟩
theorem datas_map {α : Type} {enc : α → AV} (h : ∀ x, Data (enc x)) (l : List α) : Datas (l.map enc) := by
 induction l with
 | nil => exact datas_nil
 | cons x l ih => exact datas_cons (h x) ih
theorem data_list {α : Type} {enc : α → AV} (h : ∀ x, Data (enc x)) (l : List α) : Data (.lit (l.map enc) false none) := data_lit (datas_map h l)
def RetR (o : Option AV) (σ : St) (v : AV) : Prop := ∃ v0, o = some v0 ∧ snapM σ 0 20 v0 = some v
@[congr] theorem RetR_congr {o o' : Option AV} {σ σ' : St} {v : AV} (h : o = o') (h2 : σ = σ') : RetR o σ v = RetR o' σ' v := by rw [h, h2]
theorem R_some (v0 : AV) (σ : St) (v : AV) : RetR (some v0) σ v = (snapM σ 0 20 v0 = some v) := by simp [RetR]
def RetK (rs : List ARes) (v : AV) : KJ := fun j e σ => (j = none ∨ j = some .ret) ∧ RetR (resOf rs e σ) σ v
theorem R_none (rs : List ARes) (v : AV) (e : Env) (σ : St) : RetK rs v none e σ = RetR (resOf rs e σ) σ v := by simp [RetK]
theorem R_ret (rs : List ARes) (v : AV) (e : Env) (σ : St) : RetK rs v (some .ret) e σ = RetR (resOf rs e σ) σ v := by simp [RetK]
theorem pure_fn {f : FuncId} {args : List AV} {v : AV} {af : AFunc} (hf : T f = some af) (hn : args.length ≤ af.ntmps) (hk : Datas args) (h : wp T af.body (argsEnv 0 args) [] (RetK af.results v)) : Pure T f args v := by
 intro σ
 refine .frame hk.1 (.inl rfl) (R := fun o => o.v = v ∧ o.σ = []) (.call hf hn (run_wp h fun o ho => ho) fun o ho => ?_) fun o ho => ⟨ho.2, ho.1, rfl⟩
 obtain ⟨h1, v0, h2, h3⟩ := ho
 refine ⟨h1, v0, h2, ?_⟩
 unfold snapM at h3
 cases hs : snap o.σ 0 20 v0 with
 | none => rw [hs] at h3; cases h3
 | some v1 =>
  rw [hs] at h3
  simp at h3
  exact .inr ⟨20, v1, v, hs, .inr h3.symm, fun i hi => absurd hi (by simp), by simp, rfl, by simp⟩
theorem call_fn {f : FuncId} {args args0 : List AV} {v : AV} (h : Pure T f args0 v) (ha : clrs args = args0) (hk : okVs 0 args) (σ : St) : Run T (.call f args σ) fun o => o.v = v ∧ o.σ = σ :=
 .frame hk (.inr ha.symm) (h []) fun o ho => ⟨ho.2, ho.1, rfl⟩
theorem callK_fn {f : FuncId} {first cap args args0 : List AV} {v : AV} {σ : St} {K : AV → St → Prop} (h : Pure T f args0 v) (ha : clrs (first ++ args ++ cap) = args0) (hk : okVs 0 (first ++ args ++ cap)) (k : K v σ) : cK (K := ⟨K⟩) T (.func f first cap) args σ :=
 .callf (.mono (call_fn h ha hk σ) fun o ho => by rw [ho.1, ho.2]; exact k)
theorem callD_fn {f : FuncId} {first cap args args0 : List AV} {v : AV} {σ : St} {K : AV → St → Prop} (h : Pure T f args0 v) (ha : clrs (first ++ args ++ cap) = args0) (hk : okVs 0 (first ++ args ++ cap)) (k : K v σ) : cD (K := ⟨K⟩) T (.func f first cap) args σ :=
 ⟨v, σ, .callf (call_fn h ha hk σ), k⟩
theorem callK_d {f : FuncId} {args args0 : List AV} {v : AV} {σ : St} {K : AV → St → Prop} (h : Pure T f args0 v) (ha : args = args0) (hk : Datas args0) (k : K v σ) : cK (K := ⟨K⟩) T (.func f [] []) args σ := by
 subst ha; exact callK_fn h (by simpa using hk.2) (by simpa using hk.1) k
theorem callD_d {f : FuncId} {args args0 : List AV} {v : AV} {σ : St} {K : AV → St → Prop} (h : Pure T f args0 v) (ha : args = args0) (hk : Datas args0) (k : K v σ) : cD (K := ⟨K⟩) T (.func f [] []) args σ := by
 subst ha; exact callD_fn h (by simpa using hk.2) (by simpa using hk.1) k
theorem call_fnS {f : FuncId} {args args0 : List AV} {v : AV} {σ : St} (h : Pure T f args0 v) (ha : snapMs σ 0 20 args = some args0) (hv : Scal v) : Run T (.call f args σ) fun o => o.v = v ∧ o.σ = σ := by
 unfold snapMs at ha
 cases hs : snaps σ 0 20 args with
 | none => rw [hs] at ha; cases ha
 | some as1 =>
  rw [hs] at ha
  simp at ha
  exact .frameS hs (.inr ha.symm) (h []) fun o ho => ⟨ho.2, by rw [ho.1]; exact hv, ho.1, rfl⟩
theorem callK_s {f : FuncId} {first cap args args0 : List AV} {v : AV} {σ : St} {K : AV → St → Prop} (h : Pure T f args0 v) (ha : snapMs σ 0 20 (first ++ args ++ cap) = some args0) (hv : Scal v) (k : K v σ) : cK (K := ⟨K⟩) T (.func f first cap) args σ :=
 .callf (.mono (call_fnS h ha hv) fun o ho => by rw [ho.1, ho.2]; exact k)
def InK (rs : List ARes) (K : AV → St → Prop) : KJ := fun j e σ => (j = none ∨ j = some .ret) ∧ ∃ v, resOf rs e σ = some v ∧ K v σ
def InR (o : Option AV) (σ : St) (K : AV → St → Prop) : Prop := ∃ v, o = some v ∧ K v σ
@[congr] theorem InR_congr {o o' : Option AV} {σ σ' : St} {K : AV → St → Prop} (h : o = o') (h2 : σ = σ') : InR o σ K = InR o' σ' K := by rw [h, h2]
theorem I_some (v : AV) (σ : St) (K : AV → St → Prop) : InR (some v) σ K = K v σ := by simp [InR]
theorem I_none (rs : List ARes) (K : AV → St → Prop) (e : Env) (σ : St) : InK rs K none e σ = InR (resOf rs e σ) σ K := by simp [InK, InR]
theorem I_ret (rs : List ARes) (K : AV → St → Prop) (e : Env) (σ : St) : InK rs K (some .ret) e σ = InR (resOf rs e σ) σ K := by simp [InK, InR]
theorem callK_in {f : FuncId} {first cap args : List AV} {af : AFunc} {σ : St} {K : AV → St → Prop} (hf : T f = some af) (hn : (first ++ args ++ cap).length ≤ af.ntmps) (h : wp T af.body (argsEnv 0 (first ++ args ++ cap)) σ (InK af.results K)) :
  cK (K := ⟨K⟩) T (.func f first cap) args σ :=
 .callf (.call hf hn (run_wp h fun o ho => ho) fun o ho => ⟨ho.1, ho.2.choose, ho.2.choose_spec.1, .inl ho.2.choose_spec.2⟩)
def EqE (σ : St) (m : Nat) (e : Env) : Env → Prop
 | [] => True
 | (t, v) :: e' => snapM σ m 20 (Env.get e t) = some v ∧ EqE σ m e e'
theorem T_e0 (σ : St) (m : Nat) (e : Env) : EqE σ m e [] = True := by simp only [EqE]
theorem T_e1 (σ : St) (m : Nat) (e : Env) (t : Nat) (v : AV) (e' : Env) : EqE σ m e ((t, v) :: e') = (snapM σ m 20 (Env.get e t) = some v ∧ EqE σ m e e') := by simp only [EqE]
theorem thinE_of {σ : St} {m : Nat} {e : Env} : ∀ {e' : Env}, EqE σ m e e' → ThinE σ m e e'
 | [], _ => trivial
 | (t, v) :: e', h => by
  refine ⟨.inr ?_, thinE_of h.2⟩
  have h1 := h.1
  unfold snapM at h1
  cases hs : snap σ m 20 (Env.get e t) with
  | none => rw [hs] at h1; cases h1
  | some v1 => rw [hs] at h1; simp at h1; exact ⟨20, v1, hs, .inr h1.symm⟩
def EqS (m : Nat) : St → St → St → Prop
 | _, _, [] => True
 | s :: ss, b :: bs, c :: cs => (c = b ∧ (b = s ∨ okBlk m b)) ∧ EqS m ss bs cs
 | [], b :: bs, c :: cs => (c = b ∧ okBlk m b) ∧ EqS m [] bs cs
 | _, [], _ :: _ => False
theorem T_s0 (m : Nat) (a b : St) : EqS m a b [] = True := by cases a <;> cases b <;> simp only [EqS]
theorem T_s1 (m : Nat) (s b c : ABlk) (ss bs cs : St) : EqS m (s :: ss) (b :: bs) (c :: cs) = ((c = b ∧ (b = s ∨ okBlk m b)) ∧ EqS m ss bs cs) := by simp only [EqS]
theorem T_s2 (m : Nat) (b c : ABlk) (bs cs : St) : EqS m [] (b :: bs) (c :: cs) = ((c = b ∧ okBlk m b) ∧ EqS m [] bs cs) := by simp only [EqS]
theorem eqS_spec {m : Nat} : ∀ {σ σ' σ'' : St}, EqS m σ σ' σ'' → ∀ i c, σ''[i]? = some c → σ'[i]? = some c ∧ ((i < σ.length ∧ σ'[i]? = σ[i]?) ∨ okBlk m c)
 | _, _, [], _, i, c, h => by simp at h
 | s :: ss, b :: bs, x :: cs, h, i, c, hc => by
  obtain ⟨⟨h1, h2⟩, h3⟩ := h
  cases i with
  | zero =>
   simp at hc
   subst hc
   subst h1
   refine ⟨rfl, ?_⟩
   rcases h2 with h2 | h2
   ·left; simp [h2]
   ·right; exact h2
  | succ i =>
   obtain ⟨q1, q2⟩ := eqS_spec h3 i c (by simpa using hc)
   refine ⟨by simpa using q1, ?_⟩
   rcases q2 with ⟨q2, q3⟩ | q2
   ·left; exact ⟨by simp; omega, by simpa using q3⟩
   ·right; exact q2
 | [], b :: bs, x :: cs, h, i, c, hc => by
  obtain ⟨⟨h1, h2⟩, h3⟩ := h
  cases i with
  | zero =>
   simp at hc
   subst hc
   subst h1
   exact ⟨rfl, .inr h2⟩
  | succ i =>
   obtain ⟨q1, q2⟩ := eqS_spec h3 i c (by simpa using hc)
   refine ⟨by simpa using q1, ?_⟩
   rcases q2 with ⟨q2, q3⟩ | q2
   ·simp at q2
   ·right; exact q2
def TrimX (σ : St) (e' : Env) (σ' : St) (e'' : Env) (σ'' : St) : Prop := σ.length ≤ σ''.length ∧ σ''.length ≤ σ'.length ∧ EqE σ' σ''.length e' e'' ∧ EqS σ''.length σ σ' σ''
@[congr] theorem TrimX_congr {σ σ1 : St} {e' e1 : Env} {σ' σ1' : St} {e'' : Env} {σ'' : St} (h1 : σ = σ1) (h2 : e' = e1) (h3 : σ' = σ1') : TrimX σ e' σ' e'' σ'' = TrimX σ1 e1 σ1' e'' σ'' := by rw [h1, h2, h3]
theorem trims_of {σ : St} {e' : Env} {σ' : St} {e'' : Env} {σ'' : St} (h : TrimX σ e' σ' e'' σ'') : Trims2 σ e' σ' e'' σ'' := by
 obtain ⟨h1, h2, h3, h4⟩ := h
 refine ⟨h1, h2, thinE_of h3, fun i hi => ?_⟩
 obtain ⟨c, hc⟩ : ∃ c, σ''[i]? = some c := ⟨_, List.getElem?_eq_getElem hi⟩
 obtain ⟨q1, q2⟩ := eqS_spec h4 i c hc
 refine ⟨c, hc, ?_⟩
 rcases q2 with ⟨q2, q3⟩ | q2
 ·left; exact ⟨q2, .inl q3, q1⟩
 ·right; left; exact ⟨q1, q2⟩
def BackK {S : Type} (P : S → Prop) (μ : S → Nat) (IE : S → Env) (IS : S → St) (s : S) (K : KJ) : KJ := fun j e σ =>
 match j with
 | none => ∃ s', P s' ∧ μ s' < μ s ∧ TrimX (IS s) e σ (IE s') (IS s')
 | some j => K (some j) e σ
theorem T_back {S : Type} (P : S → Prop) (μ : S → Nat) (IE : S → Env) (IS : S → St) (s : S) (K : KJ) (e : Env) (σ : St) : BackK P μ IE IS s K none e σ = ∃ s', P s' ∧ μ s' < μ s ∧ TrimX (IS s) e σ (IE s') (IS s') := by simp only [BackK]
theorem T_out {S : Type} (P : S → Prop) (μ : S → Nat) (IE : S → Env) (IS : S → St) (s : S) (K : KJ) (j : AJump) (e : Env) (σ : St) : BackK P μ IE IS s K (some j) e σ = K (some j) e σ := by simp only [BackK]
def EqW (e : Env) : Env → Prop
 | [] => True
 | (t, v) :: e' => (Env.get e t = v ∨ clr (Env.get e t) = v) ∧ EqW e e'
theorem T_w0 (e : Env) : EqW e [] = True := by simp only [EqW]
theorem T_w1 (e : Env) (t : Nat) (v : AV) (e' : Env) : EqW e ((t, v) :: e') = ((Env.get e t = v ∨ clr (Env.get e t) = v) ∧ EqW e e') := by simp only [EqW]
theorem eqW_spec {e : Env} : ∀ {e' : Env}, EqW e e' → ∀ t, Env.get e' t = .undef ∨ Env.get e' t = Env.get e t ∨ Env.get e' t = clr (Env.get e t)
 | [], _, t => .inl rfl
 | (k, v) :: e', h, t => by
  by_cases hk : k = t
  ·subst hk
   right
   rcases h.1 with h | h
   ·left; simp [Env.get, h]
   ·right; simp [Env.get, h]
  ·simpa [Env.get, hk] using eqW_spec h.2 t
theorem loopX {S : Type} (P : S → Prop) (μ : S → Nat) (IE : S → Env) (IS : S → St) {b : ACode} {K : KJ} (step : ∀ s, P s → wp T b (IE s) (IS s) (BackK P μ IE IS s K)) : ∀ n s, μ s = n → P s → RunK T (.loop b) (IE s) (IS s) K := by
 intro n
 induction n using Nat.strongRecOn with
 | _ n ih =>
  intro s hs hp
  have h1 : Run T (.code b (IE s) (IS s)) fun o => (o.j = none ∧ ∃ s', P s' ∧ μ s' < μ s ∧ o.env = IE s' ∧ o.σ = IS s') ∨ (o.j ≠ none ∧ K o.j o.env o.σ) := by
   refine .trim2 (run_wp (step s hp) fun o ho => ho) fun o ho => ?_
   cases hj : o.j with
   | none =>
    rw [hj, T_back] at ho
    obtain ⟨s', h1, h2, h3⟩ := ho
    exact .inr ⟨_, _, trims_of h3, .inl ⟨rfl, s', h1, h2, rfl, rfl⟩⟩
   | some j =>
    rw [hj, T_out] at ho
    exact .inl (.inr ⟨by simp, ho⟩)
  refine .loop h1 (fun o ho hj => ?_) fun o ho hj => ?_
  ·rcases ho with ⟨_, s', q1, q2, q3, q4⟩ | ⟨q1, _⟩
   ·rw [q3, q4]; exact ih _ (by omega) s' rfl q1
   ·exact absurd hj q1
  ·rcases ho with ⟨q, _⟩ | ⟨_, q⟩
   ·exact absurd q hj
   ·exact q
theorem loopE {S : Type} (s0 : S) (P : S → Prop) (μ : S → Nat) (IE : S → Env) (IS : S → St) {b : ACode} {e : Env} {σ : St} {K : KJ} (hP : P s0) (hσ : σ = IS s0) (hE : EqW e (IE s0))
  (step : ∀ s, P s → wp T b (IE s) (IS s) (BackK P μ IE IS s K)) : rK (K := ⟨K⟩) T (.loop b) e σ := by
 subst hσ
 exact .weak (eqW_spec hE) (loopX P μ IE IS step _ s0 rfl hP)
theorem ghostK {c : ACode} {e : Env} {σ : St} {K : KJ} (t sz : Nat) (xs : List AV) (ht : Env.get e t = .lit xs true none) (h : rK (K := ⟨K⟩) T c ((t, .lit xs false (some σ.length)) :: e) (σ ++ [.tok sz xs.length false])) : rK (K := ⟨K⟩) T c e σ :=
 .ghost t sz xs ht h
end Go.Am
namespace Go.Am
variable {T : FuncId → Option AFunc}
def resA (e : Env) (σ : St) : ARes → Option AV
 | .tmp t => some (Env.get e t)
 | .cell t sh => loadAV sh σ (Env.get e t)
def resAs (e : Env) (σ : St) : List ARes → Option (List AV)
 | [] => some []
 | r :: rs => (resA e σ r).bind fun v => (resAs e σ rs).map (v :: ·)
theorem resAV_eq (e : Env) (σ : St) : ∀ rs, resAV e σ rs = resAs e σ rs
 | [] => rfl
 | .tmp t :: rs => by simp [resAV, resAs, resA, resAV_eq e σ rs]
 | .cell t sh :: rs => by
  simp only [resAV, resAs, resA, resAV_eq e σ rs]
  cases loadAV sh σ (Env.get e t) <;> cases resAs e σ rs <;> simp
theorem X_res0 (e : Env) (σ : St) : resOf [] e σ = some (.tuple []) := by simp [resOf, resAV]
theorem X_res1 (r : ARes) (e : Env) (σ : St) : resOf [r] e σ = resA e σ r := by
 simp only [resOf, resAV_eq, resAs]; cases resA e σ r <;> simp
theorem X_res2 (r s : ARes) (rs : List ARes) (e : Env) (σ : St) : resOf (r :: s :: rs) e σ = (resAs e σ (r :: s :: rs)).map .tuple := by
 simp only [resOf, resAV_eq, resAs]; cases resA e σ r <;> cases resA e σ s <;> cases resAs e σ rs <;> simp
theorem X_ra0 (e : Env) (σ : St) : resAs e σ [] = some [] := by simp only [resAs]
theorem X_ra1 (r : ARes) (rs : List ARes) (e : Env) (σ : St) : resAs e σ (r :: rs) = (resA e σ r).bind fun v => (resAs e σ rs).map (v :: ·) := by simp only [resAs]
theorem X_rt (t : Nat) (e : Env) (σ : St) : resA e σ (.tmp t) = some (Env.get e t) := by simp only [resA]
theorem X_rc (t : Nat) (sh : Option Nat) (e : Env) (σ : St) : resA e σ (.cell t sh) = loadAV sh σ (Env.get e t) := by simp only [resA]
theorem X_bn (id : Nat) (K : KJ) (e : Env) (σ : St) : blockK id K none e σ = K none e σ := by simp only [blockK]
theorem X_br (id : Nat) (K : KJ) (e : Env) (σ : St) : blockK id K (some .ret) e σ = K (some .ret) e σ := by simp only [blockK]
theorem X_be1 (id : Nat) (K : KJ) (e : Env) (σ : St) : blockK id K (some (.exit id)) e σ = K none e σ := by simp [blockK]
theorem X_be2 (id i : Nat) (K : KJ) (e : Env) (σ : St) (h : i ≠ id) : blockK id K (some (.exit i)) e σ = K (some (.exit i)) e σ := by simp [blockK, h]
theorem V_idxN {α : Type} {sz : Nat} {enc : α → AV} {l : List α} {k : Nat} {t : Option Nat} (h : k < l.length) (hs : ∀ x, (enc x).cells.length = sz) : vIdx sz (l.map enc) (k : Int) t = some (.lptr (l.map enc) k 0 t) := by
 simp [vIdx, List.getElem?_map, h, hs]
theorem V_getN {α : Type} {enc : α → AV} {l : List α} {k : Nat} (h : k < l.length) : (l.map enc)[k]? = some (enc l[k]) := by simp [List.getElem?_map, h]
theorem rd0 {ds : List ADOper} {e : Env} {σ : St} {K : KJ} (hz : allocsOf ds = []) (h : wpD T ds e σ σ.length [σ] [] fun e σ => K none e σ) : rK (K := ⟨K⟩) T (.dreg ds) e σ := by
 refine rK_dreg ?_
 rw [hz, List.append_nil]
 exact h
theorem rK_dreg1 {ds : List ADOper} {e : Env} {σ : St} {K : KJ} (zs : St) (hz : allocsOf ds = zs) (h : wpD T ds e (σ ++ zs) σ.length [σ ++ zs] [] fun e σ => K none e σ) : rK (K := ⟨K⟩) T (.dreg ds) e σ := by
 subst hz
 exact rK_dreg h
theorem wrapN {k n : Nat} (h : k < n) (hn : n < 9223372036854775808) : IntKind.i64.wrap ((k : Int) + 1) = ((k + 1 : Nat) : Int) := by rw [wrap64 ⟨by omega, by omega⟩]; omega
def ints (l : List Int) : AV := .lit (l.map (.int .i64)) false none
theorem data_ints (l : List Int) : Data (ints l) := data_list (data_int .i64) l
theorem S_mapI (σ : St) (m d : Nat) (k : IntKind) (l : List Int) : snapMs σ m d (l.map (.int k)) = some (l.map (.int k)) := S_datas (datas_map (data_int k) l) σ m d
theorem S_mapS (σ : St) (m d : Nat) (l : List ByteArray) : snapMs σ m d (l.map .str) = some (l.map .str) := S_datas (datas_map data_str l) σ m d
theorem S_app (σ : St) (m d : Nat) : ∀ xs ys : List AV, snapMs σ m d (xs ++ ys) = (snapMs σ m d xs).bind fun a => (snapMs σ m d ys).map (a ++ ·)
 | [], ys => by rw [S_nil]; simp
 | x :: xs, ys => by
  rw [List.cons_append, S_cons, S_cons, S_app σ m d xs ys]
  cases snapM σ m d x <;> simp
  cases snapMs σ m d xs <;> simp
  cases snapMs σ m d ys <;> simp
theorem S_ints (σ : St) (m d : Nat) (l : List Int) : snapM σ m d (ints l) = some (ints l) := S_data (data_ints l) σ m d
theorem S_mapL (σ : St) (m d : Nat) (l : List (List Int)) : snapMs σ m d (l.map ints) = some (l.map ints) := S_datas (datas_map data_ints l) σ m d
theorem V_min2 (k : IntKind) (a b : Int) : minAV [.int k a, .int k b] = some (.int k (min a b)) := by
 simp only [minAV, minFrom, if_true, Option.some.injEq, AV.int.injEq, true_and]; split <;> omega
theorem V_max2 (k : IntKind) (a b : Int) : maxAV [.int k a, .int k b] = some (.int k (max a b)) := by
 simp only [maxAV, maxFrom, if_true, Option.some.injEq, AV.int.injEq, true_and]; split <;> omega
def byteAt (s : ByteArray) (k : Nat) : Int := (((s[k]?).getD 0).toNat : Int)
theorem V_sidx {s : ByteArray} {k : Nat} (h : k < s.size) : vSindex (.str s) (.int .i64 (k : Int)) = some (.int .u8 (byteAt s k)) := by
 simp [vSindex, intOf, byteAt, h]
structure Span where
 lo : Int
 hi : Int
 deriving DecidableEq
def encSpan (s : Span) : AV := .agg [.int .i64 s.lo, .int .i64 s.hi]
theorem encSpan_eq (s : Span) : encSpan s = .agg [.int .i64 s.lo, .int .i64 s.hi] := by simp only [encSpan]
theorem data_span (s : Span) : Data (encSpan s) := data_agg (datas_cons (data_int _ _) (datas_cons (data_int _ _) datas_nil))
def strs (l : List ByteArray) : AV := .lit (l.map .str) false none
theorem data_strs (l : List ByteArray) : Data (strs l) := data_list data_str l
end Go.Am
namespace Go.Am
variable {T : FuncId → Option AFunc}
def Same (T : FuncId → Option AFunc) (f : AV) (args : List AV) (σ : St) (v : AV) : Prop := Run T (.callv f args σ) fun o => o.v = v ∧ o.σ = σ
def BaseR (o : Option AV) (σ0 σ : St) (v : AV) : Prop := ∃ v0 τ, o = some v0 ∧ σ = σ0 ++ τ ∧ snapM σ σ0.length 20 v0 = some v
@[congr] theorem BaseR_congr {o o' : Option AV} {σ0 σ σ' : St} {v : AV} (h : o = o') (h2 : σ = σ') : BaseR o σ0 σ v = BaseR o' σ0 σ' v := by rw [h, h2]
def BaseK (rs : List ARes) (σ0 : St) (v : AV) : KJ := fun j e σ => (j = none ∨ j = some .ret) ∧ BaseR (resOf rs e σ) σ0 σ v
theorem Y_none (rs : List ARes) (σ0 : St) (v : AV) (e : Env) (σ : St) : BaseK rs σ0 v none e σ = BaseR (resOf rs e σ) σ0 σ v := by simp [BaseK]
theorem Y_ret (rs : List ARes) (σ0 : St) (v : AV) (e : Env) (σ : St) : BaseK rs σ0 v (some .ret) e σ = BaseR (resOf rs e σ) σ0 σ v := by simp [BaseK]
theorem baseR {v0 : AV} {σ0 σ : St} {v : AV} (τ : St) (h1 : σ = σ0 ++ τ) (h2 : snapM σ σ0.length 20 v0 = some v) : BaseR (some v0) σ0 σ v := ⟨v0, τ, rfl, h1, h2⟩
theorem same_fn {f : FuncId} {first cap args : List AV} {σ : St} {af : AFunc} {v : AV} (hf : T f = some af) (hn : (first ++ args ++ cap).length ≤ af.ntmps) (h : wp T af.body (argsEnv 0 (first ++ args ++ cap)) σ (BaseK af.results σ v)) : Same T (.func f first cap) args σ v := by
 refine .callf (.call hf hn (run_wp h fun o ho => ho) fun o ho => ?_)
 obtain ⟨h1, v0, τ, h2, h3, h4⟩ := ho
 refine ⟨h1, v0, h2, ?_⟩
 unfold snapM at h4
 cases hs : snap o.σ σ.length 20 v0 with
 | none => rw [hs] at h4; cases h4
 | some v1 =>
  rw [hs] at h4
  simp at h4
  exact .inr ⟨20, v1, v, hs, .inr h4.symm, fun i hi => .inl (by rw [h3]; exact List.getElem?_append_left hi), by rw [h3]; simp, rfl, by rw [h3]; simp⟩
theorem callK_same {f : AV} {args : List AV} {v : AV} {σ : St} {K : AV → St → Prop} (h : Same T f args σ v) (k : K v σ) : cK (K := ⟨K⟩) T f args σ := .mono h fun o ho => by rw [ho.1, ho.2]; exact k
def Keeps (σ : St) (v : AV) : Prop := ∀ τ, snapM (σ ++ τ) σ.length 20 v = some v
theorem Keeps.nil {σ : St} {v : AV} (h : Keeps σ v) : snapM σ σ.length 20 v = some v := by simpa using h []
theorem T_sr (m : Nat) : ∀ (σ τ : St), EqS m σ (σ ++ τ) σ = True
 | [], τ => by cases τ <;> simp [EqS]
 | b :: σ, τ => by simp [EqS, T_sr m σ τ]
theorem T_sr0 (m : Nat) (σ : St) : EqS m σ σ σ = True := by simpa using T_sr m σ []
theorem st_app (σ τ υ : St) : σ ++ τ ++ υ = σ ++ (τ ++ υ) := List.append_assoc _ _ _
theorem callK_v {f : FuncId} {args args0 : List AV} {v : AV} {σ : St} {K : AV → St → Prop} (h : Pure T f args0 v) (ha : clrs args = args0) (hk : okVs 0 args) (k : K v σ) : cK (K := ⟨K⟩) T (.func f [] []) args σ :=
 callK_fn h (by simpa using ha) (by simpa using hk) k
theorem callD_v {f : FuncId} {args args0 : List AV} {v : AV} {σ : St} {K : AV → St → Prop} (h : Pure T f args0 v) (ha : clrs args = args0) (hk : okVs 0 args) (k : K v σ) : cD (K := ⟨K⟩) T (.func f [] []) args σ :=
 callD_fn h (by simpa using ha) (by simpa using hk) k
end Go.Am
namespace Go.Am
def QV := And.intro @V_str (And.intro @st_set (And.intro @st_set0 (And.intro @st_app (And.intro @V_sidx (And.intro @V_min2 (And.intro @V_max2 (And.intro @q_put (And.intro @q_put0 (And.intro @q_get (And.intro @q_evt (And.intro @q_evc (And.intro @q_arg (And.intro @q_arg0 (And.intro @W_bindB (And.intro @W_bindG1 (And.intro @W_bindG0 (And.intro @W_bindGT (And.intro @iteP_true (And.intro @iteP_false (And.intro @E_evs0 (And.intro @E_evs1 (And.intro @E_ovs0 (And.intro @E_ovs1 (And.intro @B_some (And.intro @O_map (And.intro @O_bind (And.intro @V_nilP (And.intro @V_nilL (And.intro @V_nilF (And.intro @V_field (And.intro @V_conv (And.intro @V_neg (And.intro @V_pickT (And.intro @V_pickF (And.intro @V_eqI (And.intro @V_eqB (And.intro @V_eqS (And.intro @V_oand (And.intro @V_eqC0 (And.intro @V_eqC1 (And.intro @V_eq1 (And.intro @V_ne1 (And.intro @V_eqA (And.intro @V_neA (And.intro @V_add (And.intro @V_sub (And.intro @V_mul (And.intro @V_lss (And.intro @V_leq (And.intro @V_gtr (And.intro @V_geq (And.intro @V_len (And.intro @V_lenS (And.intro @V_lenR (And.intro @q_faddrP (And.intro @q_faddrL (And.intro @q_extT (And.intro @q_notB (And.intro @M_ptr (And.intro @M_lptr (And.intro @M_at0 (And.intro @M_atS (And.intro @M_base (And.intro @M_base0 (And.intro @M_sh1 (And.intro @M_shN (And.intro @M_store (And.intro @M_set (And.intro @C_cells (And.intro @C_int (And.intro @C_bool (And.intro @C_str (And.intro @C_lit (And.intro @C_ref (And.intro @C_ptr (And.intro @C_func (And.intro @C_map (And.intro @C_nilPtr (And.intro @C_nilFunc (And.intro @C_agg (And.intro @C_0 (And.intro @C1_int (And.intro @C1_bool (And.intro @C1_str (And.intro @C1_lit (And.intro @C1_ref (And.intro @C1_ptr (And.intro @C1_func (And.intro @C1_map (And.intro @C1_nilPtr (And.intro @C1_nilFunc (And.intro @K_int (And.intro @K_bool (And.intro @K_str (And.intro @K_lit (And.intro @K_ref (And.intro @K_ptr (And.intro @K_func (And.intro @K_map (And.intro @K_agg (And.intro @K_nilPtr (And.intro @K_nilFunc (And.intro @M_bc0 (And.intro @M_bc1 (And.intro @L_all0 (And.intro @L_all1 (And.intro @L_lit (And.intro @V_iaL (And.intro @V_iaA (And.intro @V_iaAL (And.intro @V_iaR (And.intro @X_res0 (And.intro @X_res1 (And.intro @X_res2 (And.intro @X_ra0 (And.intro @X_ra1 (And.intro @X_rt (And.intro @X_rc (And.intro @R_some (And.intro @I_some (And.intro @A_mov (And.intro @A_pick (And.intro @A_alloc (And.intro @A_box (And.intro @A_build (And.intro @A_mklit (And.intro @A_mkref (And.intro @A_load (And.intro @A_store (And.intro @A_nilCheck (And.intro @A_bin (And.intro @A_eql (And.intro @A_not (And.intro @A_neg (And.intro @A_conv (And.intro @A_mkfun (And.intro @A_mkmap (And.intro @A_mkslice (And.intro @A_slicev (And.intro @A_slicea (And.intro @A_faddr (And.intro @A_field (And.intro @A_iaddr (And.intro @A_index (And.intro @A_sindex (And.intro @A_lookup (And.intro @A_mapset (And.intro @A_ext (And.intro @A_len (And.intro @A_append (And.intro @A_apref (And.intro @A_copy (And.intro @A_min (And.intro @A_max (And.intro @A_srange (@A_snext))))))))))))))))))))))))))))))))))))))))))))))))))))))))))))))))))))))))))))))))))))))))))))))))))))))))))))))))))))))))))))))))))))))))))))))))))))))))))))
def QP := And.intro @Y_none (And.intro @Y_ret (And.intro @q_reg (And.intro @q_seq (And.intro @q_jump (And.intro @q_then (And.intro @q_thenJ (And.intro @q_skip (And.intro @q_block (And.intro @q_scope (And.intro @q_nil (And.intro @X_bn (And.intro @X_br (And.intro @X_be1 (And.intro @X_be2 (And.intro @V_idxN (And.intro @V_getN (And.intro @W_call (And.intro @W_guard (And.intro @W_cond (And.intro @W_loop (And.intro @W_range (And.intro @D_reg (And.intro @R_none (And.intro @R_ret (And.intro @I_none (And.intro @I_ret (And.intro @T_back (And.intro @T_out (And.intro @W_mov (And.intro @W_pick (And.intro @W_alloc (And.intro @W_box (And.intro @W_build (And.intro @W_mklit (And.intro @W_mkref (And.intro @W_load (And.intro @W_store (And.intro @W_nilCheck (And.intro @W_bin (And.intro @W_eql (And.intro @W_not (And.intro @W_neg (And.intro @W_conv (And.intro @W_mkfun (And.intro @W_mkmap (And.intro @W_mkslice (And.intro @W_slicev (And.intro @W_slicea (And.intro @W_faddr (And.intro @W_field (And.intro @W_iaddr (And.intro @W_index (And.intro @W_sindex (And.intro @W_lookup (And.intro @W_mapset (And.intro @W_ext (And.intro @W_len (And.intro @W_append (And.intro @W_apref (And.intro @W_copy (And.intro @W_min (And.intro @W_max (And.intro @W_srange (@W_snext))))))))))))))))))))))))))))))))))))))))))))))))))))))))))))))))
def QD := And.intro @D_nil (And.intro @D_call (And.intro @D_alloc (And.intro @D_guardC (And.intro @D_mov (And.intro @D_pick (And.intro @D_box (And.intro @D_build (And.intro @D_mklit (And.intro @D_mkref (And.intro @D_load (And.intro @D_store (And.intro @D_nilCheck (And.intro @D_bin (And.intro @D_eql (And.intro @D_not (And.intro @D_neg (And.intro @D_conv (And.intro @D_mkfun (And.intro @D_mkmap (And.intro @D_mkslice (And.intro @D_slicev (And.intro @D_slicea (And.intro @D_faddr (And.intro @D_field (And.intro @D_iaddr (And.intro @D_index (And.intro @D_sindex (And.intro @D_lookup (And.intro @D_mapset (And.intro @D_ext (And.intro @D_len (And.intro @D_append (And.intro @D_apref (And.intro @D_copy (And.intro @D_min (And.intro @D_max (And.intro @D_srange (And.intro @D_snext (And.intro @G_mov (And.intro @G_pick (And.intro @G_box (And.intro @G_build (And.intro @G_mklit (And.intro @G_mkref (And.intro @G_load (And.intro @G_store (And.intro @G_nilCheck (And.intro @G_bin (And.intro @G_eql (And.intro @G_not (And.intro @G_neg (And.intro @G_conv (And.intro @G_mkfun (And.intro @G_mkmap (And.intro @G_mkslice (And.intro @G_slicev (And.intro @G_slicea (And.intro @G_faddr (And.intro @G_field (And.intro @G_iaddr (And.intro @G_index (And.intro @G_sindex (And.intro @G_lookup (And.intro @G_mapset (And.intro @G_ext (And.intro @G_len (And.intro @G_append (And.intro @G_apref (And.intro @G_copy (And.intro @G_min (And.intro @G_max (And.intro @G_srange (@G_snext)))))))))))))))))))))))))))))))))))))))))))))))))))))))))))))))))))))))))
def QS := And.intro @S_mapL (And.intro @S_ints (And.intro @S_app (And.intro @S_mapI (And.intro @S_mapS (And.intro @S_int (And.intro @S_bool (And.intro @S_str (And.intro @S_nilPtr (And.intro @S_nilFunc (And.intro @S_ptr (And.intro @S_map (And.intro @S_nil (And.intro @S_cons (And.intro @S_tuple (And.intro @S_agg (And.intro @S_lit0 (And.intro @S_lit1 (And.intro @S_func (And.intro @O_map (@O_bind))))))))))))))))))))
def QR := And.intro @D_readsN (And.intro @D_readsC (And.intro @D_readN (@D_readC)))
def QT := And.intro @T_sr (And.intro @T_sr0 (And.intro @T_e0 (And.intro @T_e1 (And.intro @T_s0 (And.intro @T_s1 (And.intro @T_s2 (And.intro @T_w0 (And.intro @T_w1 (@q_get)))))))))
variable {T : FuncId → Option AFunc}
mutual
theorem okV_up {m : Nat} : ∀ v, okV 0 v → okV m v
 | .func _ first cap, h => ⟨okVs_up first h.1, okVs_up cap h.2⟩
 | .lptr xs _ _ tk, h => ⟨fun t e => absurd (h.1 t e) (by omega), okVs_up xs h.2⟩
 | .lit xs _ tk, h => ⟨fun t e => absurd (h.1 t e) (by omega), okVs_up xs h.2⟩
 | .agg cs, h => okVs_up cs h
 | .tuple vs, h => okVs_up vs h
 | .yield _, h | .ptr _ _, h | .ref _ _ _ _, h | .map _, h => absurd h (by simp [okV])
 | .undef, _ | .int _ _, _ | .bool _, _ | .str _, _ | .nilFunc, _ | .nilPtr, _ | .nilMap, _ => trivial
theorem okVs_up {m : Nat} : ∀ vs, okVs 0 vs → okVs m vs
 | [], _ => trivial
 | v :: vs, h => ⟨okV_up v h.1, okVs_up vs h.2⟩
end
theorem S_refK {σ : St} {m d id off len sz : Nat} (h : id < m) : snapM σ m d (.ref id off len sz) = some (.ref id off len sz) := by
 cases d <;> simp [snapM, snap, h, clr]
theorem okVs_app {m : Nat} : ∀ {xs ys : List AV}, okVs m xs → okVs m ys → okVs m (xs ++ ys)
 | [], _, _, h => h
 | x :: xs, ys, h, h2 => ⟨h.1, okVs_app h.2 h2⟩
end Go.Am
namespace Go.Am
theorem ints_def (l : List Int) : ints l = .lit (l.map (.int .i64)) false none := by simp only [ints]
theorem strs_def (l : List ByteArray) : strs l = .lit (l.map .str) false none := by simp only [strs]
def QC := And.intro @and_self (And.intro @and_true (And.intro @true_and (And.intro @true_or (And.intro @or_true (And.intro @ints_def (And.intro @strs_def (And.intro @decide_true (And.intro @decide_false (And.intro @Nat.lt_irrefl (And.intro @Nat.le_refl (And.intro @List.length_cons.{0} (And.intro @List.length_nil.{0} (And.intro @List.cons_append.{0} (And.intro @List.nil_append.{0} (And.intro @List.append_nil.{0} (And.intro @List.getElem?_cons_zero.{0} (And.intro @List.getElem?_cons_succ.{0} (And.intro @List.take_zero.{0} (And.intro @List.drop_zero.{0} (And.intro @List.take_succ_cons.{0} (And.intro @List.drop_succ_cons.{0} (And.intro @List.take_nil.{0} (And.intro @List.drop_nil.{0} (And.intro @List.set_cons_zero.{0} (And.intro @List.set_cons_succ.{0} (And.intro @List.length_map.{0, 0} (And.intro @Bool.and_true (And.intro @Bool.true_and (And.intro @Bool.and_self (And.intro @Bool.not_true (And.intro @Bool.not_false (And.intro @beq_self_eq_true.{0} (And.intro @Nat.zero_add (And.intro @implies_true.{0} (And.intro @implies_true.{1} (And.intro @forall_const.{0} (And.intro @forall_const.{1} (And.intro @ne_eq.{1} (And.intro @not_false_eq_true (@not_true_eq_false))))))))))))))))))))))))))))))))))))))))
def QA := And.intro QP QD
def QB := And.intro QR (And.intro QV (And.intro QS QC))
def QE := And.intro QT (And.intro QS (And.intro @q_get (And.intro @List.length_append.{0} (And.intro @Nat.le_add_right QC))))
class Dat (v : AV) : Prop where
 h : Data v
class Dats (vs : List AV) : Prop where
 h : Datas vs
theorem dd {vs : List AV} [k : Dats vs] : Datas vs := k.h
instance : Dats [] := ⟨datas_nil⟩
instance {v : AV} {vs : List AV} [a : Dat v] [b : Dats vs] : Dats (v :: vs) := ⟨datas_cons a.h b.h⟩
instance (k : IntKind) (n : Int) : Dat (.int k n) := ⟨data_int k n⟩
instance (b : Bool) : Dat (.bool b) := ⟨data_bool b⟩
instance (s : ByteArray) : Dat (.str s) := ⟨data_str s⟩
instance (l : List Int) : Dat (ints l) := ⟨data_ints l⟩
instance (l : List ByteArray) : Dat (strs l) := ⟨data_strs l⟩
instance (s : Span) : Dat (encSpan s) := ⟨data_span s⟩
instance {cs : List AV} [a : Dats cs] : Dat (.agg cs) := ⟨data_agg a.h⟩
instance {cs : List AV} [a : Dats cs] : Dat (.tuple cs) := ⟨data_tuple a.h⟩
instance {cs : List AV} [a : Dats cs] : Dat (.lit cs false none) := ⟨data_lit a.h⟩
instance (k : IntKind) (l : List Int) : Dats (l.map (.int k)) := ⟨datas_map (data_int k) l⟩
end Go.Am
namespace Go.Am.Room
def inR (n lo hi : Int) : Bool := decide (lo ≤ n) && decide (n ≤ hi)
def ends (s : Span) (lo hi : Int) : Int := if !inR s.lo lo hi || !inR s.hi lo hi then 7 else if s.hi < s.lo then 2 else 0
def join (s : Span) (n : Int) : Span := ⟨min s.lo n, max s.hi n⟩
def less : List Int → List Int → Bool
 | _, [] => false
 | [], _ :: _ => true
 | a :: az, b :: bs => if a = b then less az bs else decide (a < b)
theorem less_step {a b : List Int} {k : Nat} (ha : k < a.length) (hb : k < b.length) (h : a[k] = b[k]) : less (a.drop (k + 1)) (b.drop (k + 1)) = less (a.drop k) (b.drop k) := by
 rw [List.drop_eq_getElem_cons ha, List.drop_eq_getElem_cons hb]; simp [less, h]
theorem less_ok (a b : List Int) (ha : a.length < 9223372036854775808) (hb : b.length < 9223372036854775808) : Pure T 78 [ints a, ints b] (.bool (less a b)) := by
 refine pure_fn (af := a78) rfl (by simp [a78]) dd ?_
 (repeat (first | simp only [↓QA, QB, Nat.reduceLT, reduceIte, Nat.reduceEqDiff, Nat.reduceAdd, Nat.reduceLeDiff, Nat.reduceMul, Nat.reduceBEq, a78] | refine rd0 rfl ?_))
 refine loopE (S := Nat) 0 (fun k => k ≤ a.length ∧ k ≤ b.length ∧ less (a.drop k) (b.drop k) = less a b) (fun k => a.length - k) (fun k => [(0, ints a), (1, ints b), (5, .int .i64 k)]) (fun _ => []) ⟨Nat.zero_le _, Nat.zero_le _, rfl⟩ rfl ?_ fun k hk => ?_
 ·try simp only [TrimX, QE, Nat.reduceLT, reduceIte, Nat.reduceEqDiff, Nat.reduceAdd, Nat.reduceLeDiff, Nat.reduceMul, Nat.reduceBEq]
  try simp
 ·obtain ⟨hka, hkb, hl⟩ := hk
  (repeat (first | simp only [↓QA, QB, Nat.reduceLT, reduceIte, Nat.reduceEqDiff, Nat.reduceAdd, Nat.reduceLeDiff, Nat.reduceMul, Nat.reduceBEq, L78_0] | refine rd0 rfl ?_))
  by_cases h1 : k < a.length
  ·have g1 : decide ((k : Int) < a.length) = true := by simpa using h1
   by_cases h2 : k < b.length
   ·have g2 : decide ((k : Int) < b.length) = true := by simpa using h2
    (repeat (first | simp only [↓QA, QB, Nat.reduceLT, reduceIte, Nat.reduceEqDiff, Nat.reduceAdd, Nat.reduceLeDiff, Nat.reduceMul, Nat.reduceBEq, g1, g2, h1, h2] | refine rd0 rfl ?_))
    refine iteP_intro (fun h3 => ?_) fun h3 => ?_
    ·have h3' : a[k] = b[k] := by simpa using h3
     (repeat (first | simp only [↓QA, QB, Nat.reduceLT, reduceIte, Nat.reduceEqDiff, Nat.reduceAdd, Nat.reduceLeDiff, Nat.reduceMul, Nat.reduceBEq, h3] | refine rd0 rfl ?_))
     refine ⟨k + 1, ⟨by omega, by omega, (less_step h1 h2 h3').trans hl⟩, by omega, ?_⟩
     try simp only [TrimX, QE, Nat.reduceLT, reduceIte, Nat.reduceEqDiff, Nat.reduceAdd, Nat.reduceLeDiff, Nat.reduceMul, Nat.reduceBEq, wrapN h1 ha]
    ·have h3' : a[k] ≠ b[k] := by simpa using h3
     have e1 : ((k : Int) == b.length) = false := by simp; omega
     have e2 : ((k : Int) == a.length) = false := by simp; omega
     (repeat (first | simp only [↓QA, QB, Nat.reduceLT, reduceIte, Nat.reduceEqDiff, Nat.reduceAdd, Nat.reduceLeDiff, Nat.reduceMul, Nat.reduceBEq, h3, e1, e2, h1, h2] | refine rd0 rfl ?_))
     rw [← hl, List.drop_eq_getElem_cons h1, List.drop_eq_getElem_cons h2]
     simp [less, h3']
   ·have hkb' : k = b.length := by omega
    have g2 : decide ((k : Int) < b.length) = false := by simp; omega
    have e1 : ((k : Int) == b.length) = true := by simp; omega
    (repeat (first | simp only [↓QA, QB, Nat.reduceLT, reduceIte, Nat.reduceEqDiff, Nat.reduceAdd, Nat.reduceLeDiff, Nat.reduceMul, Nat.reduceBEq, g1, g2, e1] | refine rd0 rfl ?_))
    rw [← hl, hkb', List.drop_length]
    cases List.drop b.length a <;> simp [less]
  ·have g1 : decide ((k : Int) < a.length) = false := by simp; omega
   have e2 : ((k : Int) == a.length) = true := by simp; omega
   have hka' : k = a.length := by omega
   (repeat (first | simp only [↓QA, QB, Nat.reduceLT, reduceIte, Nat.reduceEqDiff, Nat.reduceAdd, Nat.reduceLeDiff, Nat.reduceMul, Nat.reduceBEq, g1] | refine rd0 rfl ?_))
   refine iteP_intro (fun h3 => ?_) fun h3 => ?_
   ·have h3' : k = b.length := by simp at h3; omega
    (repeat (first | simp only [↓QA, QB, Nat.reduceLT, reduceIte, Nat.reduceEqDiff, Nat.reduceAdd, Nat.reduceLeDiff, Nat.reduceMul, Nat.reduceBEq] | refine rd0 rfl ?_))
    rw [← hl, h3', List.drop_length]
    cases List.drop b.length a <;> simp [less]
   ·have h3' : k < b.length := by simp at h3; omega
    (repeat (first | simp only [↓QA, QB, Nat.reduceLT, reduceIte, Nat.reduceEqDiff, Nat.reduceAdd, Nat.reduceLeDiff, Nat.reduceMul, Nat.reduceBEq, h3, e2] | refine rd0 rfl ?_))
    rw [← hl, hka', List.drop_length, List.drop_eq_getElem_cons (by omega)]
    simp [less]
theorem less_irr : ∀ a, less a a = false
 | [] => rfl
 | a :: az => by simp [less, less_irr az]
theorem less_tri : ∀ a b, less a b = false → less b a = false → a = b
 | [], [], _, _ => rfl
 | [], b :: bs, h, _ => by simp [less] at h
 | a :: az, [], _, h => by simp [less] at h
 | a :: az, b :: bs, h1, h2 => by
  by_cases hab : a = b
  ·subst hab
   simp [less] at h1 h2
   rw [less_tri az bs h1 h2]
  ·simp [less, hab, Ne.symm hab] at h1 h2
   omega
theorem ints_ok (a b : List Int) (ha : a.length < 9223372036854775808) (hb : b.length < 9223372036854775808) : Pure T 25 [ints a, ints b] (.bool (decide (a = b))) := by
 refine pure_fn (af := a25) rfl (by simp [a25]) dd ?_
 (repeat (first | simp only [↓QA, QB, Nat.reduceLT, reduceIte, Nat.reduceEqDiff, Nat.reduceAdd, Nat.reduceLeDiff, Nat.reduceMul, Nat.reduceBEq, a25] | refine rd0 rfl ?_))
 refine iteP_intro (fun h => ?_) fun h => ?_
 ·(repeat (first | simp only [↓QA, QB, Nat.reduceLT, reduceIte, Nat.reduceEqDiff, Nat.reduceAdd, Nat.reduceLeDiff, Nat.reduceMul, Nat.reduceBEq, h] | refine rd0 rfl ?_))
  refine callK_d (less_ok a b ha hb) rfl dd ?_
  (repeat (first | simp only [↓QA, QB, Nat.reduceLT, reduceIte, Nat.reduceEqDiff, Nat.reduceAdd, Nat.reduceLeDiff, Nat.reduceMul, Nat.reduceBEq, h] | refine rd0 rfl ?_))
  cases h1 : less a b
  ·(repeat (first | simp only [↓QA, QB, Nat.reduceLT, reduceIte, Nat.reduceEqDiff, Nat.reduceAdd, Nat.reduceLeDiff, Nat.reduceMul, Nat.reduceBEq, h] | refine rd0 rfl ?_))
   refine callK_d (less_ok b a hb ha) rfl dd ?_
   (repeat (first | simp only [↓QA, QB, Nat.reduceLT, reduceIte, Nat.reduceEqDiff, Nat.reduceAdd, Nat.reduceLeDiff, Nat.reduceMul, Nat.reduceBEq, h] | refine rd0 rfl ?_))
   cases h2 : less b a
   ·rw [less_tri a b h1 h2]; simp
   ·have : a ≠ b := by rintro rfl; rw [less_irr] at h2; cases h2
    simp [this]
  ·have : a ≠ b := by rintro rfl; rw [less_irr] at h1; cases h1
   (repeat (first | simp only [↓QA, QB, Nat.reduceLT, reduceIte, Nat.reduceEqDiff, Nat.reduceAdd, Nat.reduceLeDiff, Nat.reduceMul, Nat.reduceBEq, h] | refine rd0 rfl ?_))
   simp [this]
 ·have : a ≠ b := by rintro rfl; simp at h
  (repeat (first | simp only [↓QA, QB, Nat.reduceLT, reduceIte, Nat.reduceEqDiff, Nat.reduceAdd, Nat.reduceLeDiff, Nat.reduceMul, Nat.reduceBEq, h] | refine rd0 rfl ?_))
  simp [this]
def fewer (a b : List Int) : Bool := if a.length = b.length then less a b else decide (a.length < b.length)
def ahead (s : ByteArray) : List ByteArray → Nat
 | [] => 0
 | x :: xs => if x = s then 0 else ahead s xs + 1
def okByte (i : Nat) (b : Int) : Bool := inR b 97 122 || (decide (0 < i) && (b == 46 || inR b 48 57))
def okUpTo (s : ByteArray) : Nat → Bool
 | 0 => true
 | k + 1 => okUpTo s k && okByte k (byteAt s k)
def nameOk (s : ByteArray) : Bool := inR s.size 1 16 && okUpTo s s.size
def fresh (s : ByteArray) (before : List ByteArray) : Int := if nameOk s = false then 6 else if ahead s before = before.length then 0 else 5
def numbers (a : Int) : Nat → List Int
 | 0 => []
 | n + 1 => a :: numbers (a + 1) n
theorem numbers_len : ∀ n a, (numbers a n).length = n
 | 0, _ => rfl
 | n + 1, a => by simp [numbers, numbers_len n]
theorem numbers_mem : ∀ n a x, x ∈ numbers a n ↔ a ≤ x ∧ x < a + n
 | 0, a, x => by simp [numbers]
 | n + 1, a, x => by simp [numbers, numbers_mem n]; omega
def least (i : Nat) (c : List Int) : Int := if 0 < i then (c[i - 1]?).getD 0 + 1 else 0
def nexts (below i : Nat) (c : List Int) : List (List Int) := (numbers (least i c) ((below : Int) - least i c).toNat).map fun n => c ++ [n]
def choices (below : Nat) : Nat → List (List Int)
 | 0 => [[]]
 | i + 1 => (choices below i).flatMap (nexts below i)
theorem choices_spec (below : Nat) : ∀ i c, c ∈ choices below i → c.length = i ∧ ∀ x ∈ c, 0 ≤ x ∧ x < below
 | 0, c, h => by simp [choices] at h; subst h; simp
 | i + 1, c, h => by
  simp only [choices, List.mem_flatMap] at h
  obtain ⟨d, h1, h2⟩ := h
  obtain ⟨q1, q2⟩ := choices_spec below i d h1
  simp only [nexts, List.mem_map, numbers_mem] at h2
  obtain ⟨n, h3, rfl⟩ := h2
  refine ⟨by simp [q1], fun x hx => ?_⟩
  rcases List.mem_append.1 hx with hx | hx
  ·exact q2 x hx
  ·simp at hx
   subst hx
   have : 0 ≤ least i d := by
    unfold least
    split
    ·rename_i hi
     have hlt : i - 1 < d.length := by omega
     have := q2 d[i - 1] (List.getElem_mem hlt)
     simp [hlt]
     omega
    ·omega
   omega
theorem flat_le {α β : Type} (f : α → List β) (b : Nat) : ∀ l : List α, (∀ x ∈ l, (f x).length ≤ b) → (l.flatMap f).length ≤ l.length * b
 | [], _ => by simp
 | x :: l, h => by
  have h1 := h x (by simp)
  have h2 := flat_le f b l fun y hy => h y (List.mem_cons_of_mem _ hy)
  simp only [List.flatMap_cons, List.length_append, List.length_cons, Nat.add_mul]
  omega
theorem allCells_int (l : List Int) : allCells 1 (l.map (.int .i64)) = true := L_allM 1 _ l fun x => C_int _ _
theorem less_trans : ∀ {a b c : List Int}, less a b = true → less b c = true → less a c = true
 | a, b, [], h1, h2 => by cases b <;> simp [less] at h2
 | a, [], c :: cs, h1, h2 => by cases a <;> simp [less] at h1
 | [], b :: bs, c :: cs, h1, h2 => by simp [less]
 | a :: az, b :: bs, c :: cs, h1, h2 => by
  simp only [less] at *
  by_cases hab : a = b
  ·subst hab
   by_cases hac : a = c
   ·subst hac
    simp only [if_true] at *
    exact less_trans h1 h2
   ·simp only [hac, if_false, if_true] at *
    exact h2
  ·by_cases hbc : b = c
   ·subst hbc
    simp only [hab, if_false, if_true, decide_eq_true_eq] at *
    exact h1
   ·simp only [hab, hbc, if_false, decide_eq_true_eq] at *
    rw [if_neg (by omega)]
    simp; omega
theorem fewer_irr (a : List Int) : fewer a a = false := by simp [fewer, less_irr]
theorem fewer_trans {a b c : List Int} (h1 : fewer a b = true) (h2 : fewer b c = true) : fewer a c = true := by
 simp only [fewer] at *
 by_cases e1 : a.length = b.length <;> by_cases e2 : b.length = c.length
 ·simp only [e1, e2, if_true] at *; exact less_trans h1 h2
 ·simp only [e1, e2, if_true, if_false, decide_eq_true_eq] at *; exact h2
 ·rw [if_neg e1] at h1; rw [if_neg (by omega)]; simp at h1 ⊢; omega
 ·simp only [e1, e2, if_false, decide_eq_true_eq] at *
  rw [if_neg (by omega)]; simp; omega
theorem fewer_tri {a b : List Int} (h1 : fewer a b = false) (h2 : fewer b a = false) : a = b := by
 simp only [fewer] at *
 by_cases e1 : a.length = b.length
 ·simp only [e1, if_true] at *
  exact less_tri a b h1 h2
 ·rw [if_neg e1] at h1; rw [if_neg (Ne.symm e1)] at h2
  simp at h1 h2; omega
theorem nfewer_trans {a b c : List Int} (h1 : fewer b a = false) (h2 : fewer c b = false) : fewer c a = false := by
 rw [Bool.eq_false_iff]
 intro h
 by_cases hab : fewer a b = true
 ·rw [fewer_trans h hab] at h2; cases h2
 ·have := fewer_tri (by simpa using hab) h1
  subst this
  rw [h] at h2; cases h2
def lst (n s : Nat) : List Int := (numbers 0 n).filter fun i => decide (s / 2 ^ i.toNat % 2 = 1)
theorem lst_in : ∀ n : Fin 7, ∀ s : Fin 64, s.val < 2 ^ n.val → lst n s ∈ choices n (lst n s).length := by decide +kernel
theorem in_lst : ∀ n m : Fin 7, ∀ c ∈ choices n m, ∃ s : Fin 64, s.val < 2 ^ n.val ∧ lst n s = c := by decide +kernel
theorem choices_sorted : ∀ n m : Fin 7, (choices n m).Pairwise fun a b => less a b = true := by decide +kernel
theorem choices_one : ∀ n : Fin 7, (choices n n).length = 1 := by decide +kernel
theorem lst_len (n s : Nat) : (lst n s).length ≤ n := by
 have := List.length_filter_le (fun i : Int => decide (s / 2 ^ i.toNat % 2 = 1)) (numbers 0 n)
 rw [numbers_len] at this
 exact this
def firstFrom (f : List Int → Bool) (n : Nat) : Nat → Nat → Option (List Int)
 | 0, _ => none
 | k + 1, m => match (choices n m).find? f with
  | some l => some l
  | none => firstFrom f n k (m + 1)
theorem all_contains : ∀ n : Fin 7, ∀ c ∈ choices n n, ∀ j : Fin 7, j.val < n.val → c.contains ((j.val : Nat) : Int) = true := by decide +kernel
def fewStep (f : List Int → Bool) (o : Option (List Int)) (l : List Int) : Option (List Int) := match o with
 | none => if f l = true then some l else none
 | some b => if fewer b l = true then some b else if f l = true then some l else some b
def fewFold (f : List Int → Bool) (n : Nat) : Nat → Nat → Option (List Int) → Option (List Int)
 | 0, _, o => o
 | k + 1, s, o => fewFold f n k (s + 1) (fewStep f o (lst n s))
theorem fewFold_spec (f : List Int → Bool) (n : Nat) : ∀ k s o, (∀ w, o = some w → f w = true ∧ ∃ t, t < s ∧ w = lst n t ∧ ∀ t', t' < s → f (lst n t') = true → fewer (lst n t') w = false) → (o = none → ∀ t, t < s → f (lst n t) = false) →
  (∀ w, fewFold f n k s o = some w → f w = true ∧ ∃ t, t < s + k ∧ w = lst n t ∧ ∀ t', t' < s + k → f (lst n t') = true → fewer (lst n t') w = false) ∧ (fewFold f n k s o = none → ∀ t, t < s + k → f (lst n t) = false)
 | 0, s, o, h1, h2 => ⟨h1, h2⟩
 | k + 1, s, o, h1, h2 => by
  have ih := fewFold_spec f n k (s + 1) (fewStep f o (lst n s))
  rw [show s + 1 + k = s + (k + 1) by omega] at ih
  simp only [fewFold]
  have last : ∀ (w : List Int) t', t' < s + 1 → (∀ t'', t'' < s → f (lst n t'') = true → fewer (lst n t'') w = false) → (f (lst n s) = true → fewer (lst n s) w = false) → f (lst n t') = true → fewer (lst n t') w = false := by
   intro w t' ht h3 h4 hs
   by_cases he : t' = s
   ·subst he; exact h4 hs
   ·exact h3 t' (by omega) hs
  refine ih (fun w hw => ?_) fun hn t ht => ?_
  ·cases o with
   | none =>
    simp only [fewStep] at hw
    split at hw
    ·rename_i hs
     simp only [Option.some.injEq] at hw
     subst hw
     refine ⟨hs, s, by omega, rfl, fun t' ht hst => last _ t' ht (fun t'' h4 h5 => by rw [h2 rfl t'' h4] at h5; cases h5) (fun _ => fewer_irr _) hst⟩
    ·cases hw
   | some b =>
    obtain ⟨q1, t, q2, q3, q4⟩ := h1 b rfl
    simp only [fewStep] at hw
    split at hw
    ·rename_i hf
     simp only [Option.some.injEq] at hw
     subst hw
     refine ⟨q1, t, by omega, q3, fun t' ht hst => last _ t' ht q4 (fun _ => ?_) hst⟩
     rw [Bool.eq_false_iff]
     intro h5
     have := fewer_trans hf h5
     rw [fewer_irr] at this; cases this
    ·rename_i hf
     split at hw
     ·rename_i hs
      simp only [Option.some.injEq] at hw
      subst hw
      refine ⟨hs, s, by omega, rfl, fun t' ht hst => last _ t' ht (fun t'' h4 h5 => ?_) (fun _ => fewer_irr _) hst⟩
      exact nfewer_trans (by simpa using hf) (q4 t'' h4 h5)
     ·rename_i hs
      simp only [Option.some.injEq] at hw
      subst hw
      exact ⟨q1, t, by omega, q3, fun t' ht hst => last _ t' ht q4 (fun h5 => absurd h5 hs) hst⟩
  ·cases o with
   | none =>
    simp only [fewStep] at hn
    split at hn
    ·cases hn
    ·rename_i hs
     by_cases he : t = s
     ·subst he; simpa using hs
     ·exact h2 rfl t (by omega)
   | some b =>
    simp only [fewStep] at hn
    split at hn
    ·cases hn
    ·split at hn <;> cases hn
theorem choices_le : ∀ {n i : Nat} {c : List Int}, c ∈ choices n i → i ≤ n := by
 intro n i
 cases i with
 | zero => intros; omega
 | succ i =>
  intro c hc
  simp only [choices, List.mem_flatMap, nexts, List.mem_map, numbers_mem] at hc
  obtain ⟨d, hd, x, hx, rfl⟩ := hc
  have key : ∀ j (d : List Int), d ∈ choices n j → (j : Int) ≤ least j d := by
   intro j
   induction j with
   | zero => intro d _; simp [least]
   | succ j ih =>
    intro d hd
    simp only [choices, List.mem_flatMap, nexts, List.mem_map, numbers_mem] at hd
    obtain ⟨d', hd', y, hy, rfl⟩ := hd
    have h5 := ih d' hd'
    have h6 := (choices_spec n j d' hd').1
    simp only [least, Nat.succ_pos, if_true, Nat.add_sub_cancel]
    rw [List.getElem?_append_right (by omega), h6, Nat.sub_self]
    simp only [List.getElem?_cons_zero, Option.getD_some]
    omega
  have := key i d hd
  omega
theorem firstFrom_spec (f : List Int → Bool) (n : Nat) (hN : n ≤ 6) : ∀ k m, (∀ m', m' < m → ∀ c ∈ choices n m', f c = false) →
  (∀ l, firstFrom f n k m = some l → l ∈ choices n l.length ∧ f l = true ∧ ∀ m', ∀ c ∈ choices n m', f c = true → fewer c l = false) ∧ (firstFrom f n k m = none → ∀ m', m' < m + k → ∀ c ∈ choices n m', f c = false)
 | 0, m, hlow => ⟨fun l h => by simp [firstFrom] at h, fun _ m' h c hc => hlow m' (by omega) c hc⟩
 | k + 1, m, hlow => by
  simp only [firstFrom]
  cases hf : (choices n m).find? f with
  | none =>
   simp only
   have ih := firstFrom_spec f n hN k (m + 1) fun m' hm' c hc => by
    by_cases he : m' = m
    ·subst he
     rw [List.find?_eq_none] at hf
     simpa using hf c hc
    ·exact hlow m' (by omega) c hc
   exact ⟨ih.1, fun h m' hm' => ih.2 h m' (by omega)⟩
  | some l =>
   simp only
   refine ⟨fun l' h => ?_, fun h => by cases h⟩
   cases h
   have hmem := List.mem_of_find?_eq_some hf
   have hs := List.find?_some hf
   have hlen := (choices_spec _ _ _ hmem).1
   rw [hlen]
   refine ⟨hmem, hs, fun m' c hc hsc => ?_⟩
   have hcl := (choices_spec _ _ _ hc).1
   by_cases h1 : m' < m
   ·rw [hlow m' h1 c hc] at hsc; cases hsc
   ·by_cases he : m' = m
    ·subst he
     rw [Bool.eq_false_iff]
     intro hlt
     simp only [fewer, hcl, hlen, if_true] at hlt
     obtain ⟨pre, post, e1, e2⟩ := (List.find?_eq_some_iff_append.1 hf).2
     have hmn := choices_le hmem
     have hpw := choices_sorted ⟨n, by omega⟩ ⟨m', by omega⟩
     simp only at hpw
     rw [e1] at hc hpw
     rcases List.mem_append.1 hc with hc | hc
     ·have := e2 c hc
      rw [hsc] at this; cases this
     ·rcases List.mem_cons.1 hc with rfl | hc
      ·rw [less_irr] at hlt; cases hlt
      ·have := (List.pairwise_append.1 hpw).2.1
       have := (List.pairwise_cons.1 this).1 c hc
       have h3 := less_trans hlt this
       rw [less_irr] at h3; cases h3
    ·simp only [fewer]; rw [if_neg (by omega)]; simp; omega
theorem few_eq (f : List Int → Bool) (n : Nat) (hN : n ≤ 6) : fewFold f n (2 ^ n) 0 none = firstFrom f n (n + 1) 0 := by
 have hp : 2 ^ n ≤ 2 ^ 6 := Nat.pow_le_pow_right (by omega) hN
 obtain ⟨w1, w2⟩ := firstFrom_spec f n hN (n + 1) 0 (fun m' h => by omega)
 obtain ⟨s1, s2⟩ := fewFold_spec f n (2 ^ n) 0 none (fun w h => by cases h) (fun _ t h => by omega)
 rw [Nat.zero_add] at s1 s2
 cases hf : fewFold f n (2 ^ n) 0 none with
 | none =>
  cases hg : firstFrom f n (n + 1) 0 with
  | none => rfl
  | some l =>
   obtain ⟨a, b, c⟩ := w1 l hg
   have hle := choices_le a
   obtain ⟨t, ht, hlt⟩ := in_lst ⟨n, by omega⟩ ⟨l.length, by omega⟩ l a
   have := s2 hf t.val ht
   rw [show lst n t.val = l from hlt, b] at this; cases this
 | some w =>
  obtain ⟨q1, t', q2, q3, q4⟩ := s1 w hf
  have hin := lst_in ⟨n, by omega⟩ ⟨t', by omega⟩ q2
  simp only at hin
  rw [← q3] at hin
  have hle : w.length ≤ n := by rw [q3]; exact lst_len _ _
  cases hg : firstFrom f n (n + 1) 0 with
  | none =>
   have := w2 hg w.length (by omega) w hin
   rw [q1] at this; cases this
  | some l =>
   obtain ⟨a, b, c⟩ := w1 l hg
   have hll := choices_le a
   obtain ⟨t, ht, hlt⟩ := in_lst ⟨n, by omega⟩ ⟨l.length, by omega⟩ l a
   have a1 := q4 t.val ht (by rw [show lst n t.val = l from hlt]; exact b)
   rw [show lst n t.val = l from hlt] at a1
   have a2 := c w.length w hin q1
   rw [fewer_tri a1 a2]
structure Hold where
 start : Span
 duct : Int
 keep : Span
structure Line where
 watch : Int
 hold : Int
 marks : Int
 deriving DecidableEq
structure Ship where
 cold : Int
 power : Int
 warm : Int
 heat : List Int
 frm : Int
 holds : List Hold
 log : List Line
def encHold (h : Hold) : AV := .agg [.int .i64 h.start.lo, .int .i64 h.start.hi, .int .i64 h.duct, .int .i64 h.keep.lo, .int .i64 h.keep.hi]
theorem encHold_eq (h : Hold) : encHold h = .agg [.int .i64 h.start.lo, .int .i64 h.start.hi, .int .i64 h.duct, .int .i64 h.keep.lo, .int .i64 h.keep.hi] := by simp only [encHold]
theorem data_hold (h : Hold) : Data (encHold h) := data_agg (datas_cons (data_int _ _) (datas_cons (data_int _ _) (datas_cons (data_int _ _) (datas_cons (data_int _ _) (datas_cons (data_int _ _) datas_nil)))))
instance (h : Hold) : Dat (encHold h) := ⟨data_hold h⟩
def encLine (x : Line) : AV := .agg [.int .i64 x.watch, .int .i64 x.hold, .int .i64 x.marks]
theorem encLine_eq (x : Line) : encLine x = .agg [.int .i64 x.watch, .int .i64 x.hold, .int .i64 x.marks] := by simp only [encLine]
theorem data_line (x : Line) : Data (encLine x) := data_agg (datas_cons (data_int _ _) (datas_cons (data_int _ _) (datas_cons (data_int _ _) datas_nil)))
instance (x : Line) : Dat (encLine x) := ⟨data_line x⟩
instance (l : List Hold) : Dats (l.map encHold) := ⟨datas_map data_hold l⟩
instance (l : List Line) : Dats (l.map encLine) := ⟨datas_map data_line l⟩
def shipCells (s : Ship) : List AV := [.int .i64 s.cold, .int .i64 s.power, .int .i64 s.warm, ints s.heat, .int .i64 s.frm, .lit (s.holds.map encHold) false none, .lit (s.log.map encLine) false none]
theorem shipCells_eq (s : Ship) : shipCells s = [.int .i64 s.cold, .int .i64 s.power, .int .i64 s.warm, .lit (s.heat.map (.int .i64)) false none, .int .i64 s.frm, .lit (s.holds.map encHold) false none, .lit (s.log.map encLine) false none] := by simp only [shipCells, ints]
def encShip (s : Ship) : AV := .agg (shipCells s)
theorem encShip_eq (s : Ship) : encShip s = .agg (shipCells s) := by simp only [encShip]
theorem data_ship (s : Ship) : Data (encShip s) := data_agg (datas_cons (data_int _ _) (datas_cons (data_int _ _) (datas_cons (data_int _ _) (datas_cons (data_ints _) (datas_cons (data_int _ _) (datas_cons (data_list data_hold _) (datas_cons (data_list data_line _) datas_nil)))))))
instance (s : Ship) : Dat (encShip s) := ⟨data_ship s⟩
theorem S_mapHold (σ : St) (m d : Nat) (l : List Hold) : snapMs σ m d (l.map encHold) = some (l.map encHold) := S_datas (datas_map data_hold l) σ m d
theorem S_mapLine (σ : St) (m d : Nat) (l : List Line) : snapMs σ m d (l.map encLine) = some (l.map encLine) := S_datas (datas_map data_line l) σ m d
structure Fits (s : Ship) : Prop where
 heat : s.heat.length < 9223372036854775808
 holds : s.holds.length < 9223372036854775808
 log : s.log.length < 9223372036854775808
def firstBad {α : Type} (f : Nat → α → Int) : List α → Nat → Option (Nat × Int)
 | [], _ => none
 | x :: xs, i => if f i x = 0 then firstBad f xs (i + 1) else some (i, f i x)
theorem firstBad_step {α : Type} {f : Nat → α → Int} {l : List α} {k : Nat} (h : k < l.length) : firstBad f (l.drop k) k = if f k l[k] = 0 then firstBad f (l.drop (k + 1)) (k + 1) else some (k, f k l[k]) := by
 rw [List.drop_eq_getElem_cons h]; rfl
theorem firstBad_end {α : Type} {f : Nat → α → Int} {l : List α} {k : Nat} (h : k = l.length) : firstBad f (l.drop k) k = none := by
 rw [h, List.drop_length]; rfl
def isMarks (n : Int) : Bool := inR n 0 80
def holdErr (h : Hold) : Int :=
 if ends h.start 0 80 = 7 ∨ ends h.keep 0 80 = 7 ∨ inR h.duct 0 2 = false then 7 else if ends h.start 0 80 ≠ 0 then ends h.start 0 80 else ends h.keep 0 80
def heatErr (_ : Nat) (n : Int) : Int := if isMarks n then 0 else 7
def lineErr (s : Ship) (_ : Nat) (x : Line) : Int := if inR x.hold 0 ((s.holds.length : Int) - 1) = false then 4 else if inR x.watch 0 s.heat.length && isMarks x.marks then 0 else 7
def check5 (s : Ship) : Int × Int × Int := if 5 < s.log.length then (5, 0, 3) else match firstBad (lineErr s) s.log 0 with | some (i, e) => (5, i, e) | none => (0, 0, 0)
def check4 (s : Ship) : Int × Int × Int := if inR s.holds.length 1 4 = false then (4, 0, 3) else match firstBad (fun _ => holdErr) s.holds 0 with | some (i, e) => (4, i, e) | none => check5 s
def check3 (s : Ship) : Int × Int × Int := if inR s.frm 0 s.heat.length = false then (3, 0, 7) else check4 s
def check2 (s : Ship) : Int × Int × Int := if inR s.heat.length 1 6 = false then (2, 0, 3) else match firstBad heatErr s.heat 0 with | some (i, e) => (2, i, e) | none => check3 s
def check (s : Ship) : Int × Int × Int := if isMarks s.cold = false ∨ inR s.power 1 9 = false ∨ inR s.warm 0 5 = false then (1, 0, 7) else check2 s
def towards (a b n : Int) : Int := if a < b then min b (a + n) else max b (a - n)
def cooled (bl : List Int) (h : Nat) : Bool := (List.range (h + 1)).all fun i => !bl.contains (i : Int)
def marksAt (s : Ship) (h : Nat) (start : Int) (c : Bool) : Nat → Int
 | 0 => start
 | w + 1 => if c then towards (marksAt s h start c w) s.cold (max 1 (s.power - h)) else towards (marksAt s h start c w) ((s.heat[w]?).getD 0) s.warm
def grow (h : Hold) (n : Nat) (l : List Int) : List (List Int) := (if h.duct = 1 then [] else [l]) ++ (if h.duct = 0 then [] else [l ++ [(n : Int)]])
def setsUp (s : Ship) : Nat → List (List Int)
 | 0 => [[]]
 | n + 1 => match s.holds[n]? with | some h => (setsUp s n).flatMap (grow h n) | none => setsUp s n
def setsOf (s : Ship) : List (List Int) := setsUp s s.holds.length
def lineOk (h : Nat) (c : Nat → Int) (but : List Int) (i : Nat) (x : Line) : Bool := !decide (x.hold = h) || but.contains (i : Int) || inR (c x.watch.toNat - x.marks) (-1) 1
def linesOk (s : Ship) (h : Nat) (c : Nat → Int) (but : List Int) : Bool := (List.range s.log.length).all fun i => match s.log[i]? with | some x => lineOk h c but i x | none => true
def startsOf (s : Ship) (h : Nat) (bl but : List Int) : List Int :=
 match s.holds[h]? with
 | some x => (numbers x.start.lo (x.start.hi + 1 - x.start.lo).toNat).filter fun n => linesOk s h (marksAt s h n (cooled bl h)) but
 | none => []
structure Truth where
 blocked : List Int
 starts : List (List Int)
def truthOf (s : Ship) (but bl : List Int) : Option Truth :=
 let l := (List.range s.holds.length).map fun h => startsOf s h bl but
 if l.all (fun x => !x.isEmpty) then some ⟨bl, l⟩ else none
def truths (s : Ship) (but : List Int) : List Truth := (setsOf s).filterMap (truthOf s but)
def restOf (l but : List Int) : List Int := l.filter fun x => !but.contains x
def coursesIn (s : Ship) (l : List Truth) (h : Nat) (clear : List Int) : List (Nat → Int) := l.flatMap fun t => ((t.starts[h]?).getD []).map fun n => marksAt s h n (cooled (restOf t.blocked clear) h)
def spanL : List Int → Span
 | [] => ⟨0, 0⟩
 | x :: xs => xs.foldl join ⟨x, x⟩
def settled (yes all : Nat) : Int := if yes = all then 1 else if yes = 0 then 2 else 0
def reachedFrom (c : Nat → Int) (most : Int) : Nat → Nat → Int
 | 0, _ => -1
 | k + 1, w => if c w ≤ most then w else reachedFrom c most k (w + 1)
def reached (s : Ship) (c : Nat → Int) (most : Int) : Int := reachedFrom c most (s.heat.length + 1) 0
def keptOf (s : Ship) (h : Nat) (c : Nat → Int) : Bool := match s.holds[h]? with
 | some x => (numbers s.frm (s.heat.length + 1 - s.frm).toNat).all fun w => inR (c w.toNat) x.keep.lo x.keep.hi
 | none => true
def errAsk (s : Ship) (n : Int) : Int := if (check s).2.2 = 0 then (if inR n 0 ((s.holds.length : Int) - 1) then 0 else 4) else (check s).2.2
def errWithin (n most e : Int) : Int := if e = 0 then (if inR n 0 most then 0 else 7) else e
def errKnown (s : Ship) (e : Int) : Int := if e = 0 then (if (truths s []).isEmpty then 8 else 0) else e
def marksErr (s : Ship) (n w : Int) : Int := errKnown s (errWithin w s.heat.length (errAsk s n))
def marksOf (s : Ship) (n w : Int) : Span × Int := if marksErr s n w = 0 then (spanL ((coursesIn s (truths s []) n.toNat []).map fun c => c w.toNat), 0) else (⟨0, 0⟩, marksErr s n w)
def reachesErr (s : Ship) (n m : Int) : Int := errKnown s (errWithin m 80 (errAsk s n))
def reachesOf (s : Ship) (n m : Int) : Span × Int × Int :=
 if reachesErr s n m = 0 then
  (spanL (((coursesIn s (truths s []) n.toNat []).map fun c => reached s c m).filter fun w => decide (0 ≤ w)),
   settled (((coursesIn s (truths s []) n.toNat []).map fun c => reached s c m).filter fun w => decide (0 ≤ w)).length (coursesIn s (truths s []) n.toNat []).length, 0)
 else (⟨0, 0⟩, 0, reachesErr s n m)
def sureBl (l : List Truth) (h : Int) : Bool := l.all fun t => t.blocked.contains h
def mayBl (l : List Truth) (h : Int) : Bool := l.any fun t => t.blocked.contains h
def wholeErr (s : Ship) : Int := errKnown s (check s).2.2
def blockedOf (s : Ship) : List Int × List Int × Int :=
 if wholeErr s = 0 then ((numbers 0 s.holds.length).filter (sureBl (truths s [])), (numbers 0 s.holds.length).filter (mayBl (truths s [])), 0) else ([], [], wholeErr s)
def keepsIn (s : Ship) (l : List Truth) (h : Nat) (clear : List Int) : Int := settled ((coursesIn s l h clear).filter (keptOf s h)).length (coursesIn s l h clear).length
def keepsErr (s : Ship) (n : Int) : Int := errKnown s (errAsk s n)
def keepsOf (s : Ship) (n : Int) : Int × Int := if keepsErr s n = 0 then (keepsIn s (truths s []) n.toNat [], 0) else (0, keepsErr s n)
def spoilsOf (s : Ship) : List Int × List Int × Int :=
 if wholeErr s = 0 then ((numbers 0 s.holds.length).filter (fun h => decide (keepsIn s (truths s []) h.toNat [] = 2)), (numbers 0 s.holds.length).filter (fun h => decide (keepsIn s (truths s []) h.toNat [] ≠ 1)), 0) else ([], [], wholeErr s)
def does (s : Ship) (l : List Truth) (clear : List Int) : Bool := (List.range s.holds.length).all fun h => decide (keepsIn s l h clear = 1)
def clearOf (s : Ship) : List Int × Int :=
 if wholeErr s = 0 then (match firstFrom (does s (truths s [])) s.holds.length (s.holds.length + 1) 0 with | some l => (l, 0) | none => ([], 9)) else ([], wholeErr s)
def someB (s : Ship) (but : List Int) : Bool := !(truths s but).isEmpty
def wrongL (s : Ship) : List Int := (firstFrom (someB s) s.log.length s.log.length 0).getD (((choices s.log.length s.log.length)[0]?).getD [])
def wrongOf (s : Ship) : List Int × Int := if (check s).2.2 = 0 then (wrongL s, 0) else ([], (check s).2.2)
theorem inR_iff {n lo hi : Int} : inR n lo hi = true ↔ lo ≤ n ∧ n ≤ hi := by simp [inR]
theorem ends_zero {s : Span} {lo hi : Int} (h : ends s lo hi = 0) : lo ≤ s.lo ∧ s.lo ≤ s.hi ∧ s.hi ≤ hi := by
 unfold ends at h
 split at h
 ·omega
 ·rename_i h1
  split at h
  ·omega
  ·simp [inR] at h1; omega
theorem ends_of {s : Span} {lo hi : Int} (h : lo ≤ s.lo ∧ s.lo ≤ s.hi ∧ s.hi ≤ hi) : ends s lo hi = 0 := by
 unfold ends
 rw [inR_iff.2 ⟨h.1, by omega⟩, inR_iff.2 ⟨by omega, h.2.2⟩]
 simp
 omega
theorem firstBad_all {α : Type} {f : Nat → α → Int} : ∀ {l : List α} {i : Nat}, firstBad f l i = none → ∀ k (h : k < l.length), f (i + k) l[k] = 0
 | [], _, _, k, h => by simp at h
 | x :: xs, i, h, k, hk => by
  simp only [firstBad] at h
  split at h
  ·rename_i h0
   cases k with
   | zero => exact h0
   | succ k =>
    have := firstBad_all h k (by simpa using hk)
    simpa [Nat.add_assoc, Nat.add_comm 1 k] using this
  ·cases h
theorem firstBad_nz {α : Type} {f : Nat → α → Int} : ∀ {l : List α} {i j : Nat} {e : Int}, firstBad f l i = some (j, e) → e ≠ 0
 | [], _, _, _, h => by cases h
 | x :: xs, i, j, e, h => by
  simp only [firstBad] at h
  split at h
  ·exact firstBad_nz h
  ·rename_i hn
   simp at h
   rw [← h.2]
   exact hn
structure HoldOk (h : Hold) : Prop where
 start : 0 ≤ h.start.lo ∧ h.start.lo ≤ h.start.hi ∧ h.start.hi ≤ 80
 keep : 0 ≤ h.keep.lo ∧ h.keep.lo ≤ h.keep.hi ∧ h.keep.hi ≤ 80
 duct : 0 ≤ h.duct ∧ h.duct ≤ 2
structure Vd (s : Ship) : Prop where
 cold : 0 ≤ s.cold ∧ s.cold ≤ 80
 power : 1 ≤ s.power ∧ s.power ≤ 9
 warm : 0 ≤ s.warm ∧ s.warm ≤ 5
 nheat : 1 ≤ s.heat.length ∧ s.heat.length ≤ 6
 heat : ∀ n ∈ s.heat, 0 ≤ n ∧ n ≤ 80
 frm : 0 ≤ s.frm ∧ s.frm ≤ s.heat.length
 nholds : 1 ≤ s.holds.length ∧ s.holds.length ≤ 4
 holds : ∀ h ∈ s.holds, HoldOk h
 nlog : s.log.length ≤ 5
 log : ∀ x ∈ s.log, (0 ≤ x.hold ∧ x.hold < s.holds.length) ∧ (0 ≤ x.watch ∧ x.watch ≤ s.heat.length) ∧ 0 ≤ x.marks ∧ x.marks ≤ 80
theorem holdErr_iff (h : Hold) : holdErr h = 0 ↔ HoldOk h := by
 constructor
 ·intro h1
  unfold holdErr at h1
  split at h1
  ·omega
  rename_i c
  simp only [not_or, Bool.not_eq_false] at c
  split at h1
  ·rename_i c2; exact absurd h1 c2
  ·rename_i c2
   exact ⟨ends_zero (Decidable.not_not.1 c2), ends_zero h1, inR_iff.1 c.2.2⟩
 ·intro h1
  unfold holdErr
  rw [ends_of h1.start, ends_of h1.keep, inR_iff.2 h1.duct]
  simp
theorem vd_of_check {s : Ship} (h : (check s).2.2 = 0) : Vd s := by
 unfold check at h
 split at h
 ·simp at h
 rename_i c1
 unfold check2 at h
 split at h
 ·simp at h
 rename_i c2
 split at h
 ·rename_i i e he; exact absurd h (firstBad_nz he)
 rename_i f1
 unfold check3 at h
 split at h
 ·simp at h
 rename_i c3
 unfold check4 at h
 split at h
 ·simp at h
 rename_i c4
 split at h
 ·rename_i i e he; exact absurd h (firstBad_nz he)
 rename_i f2
 unfold check5 at h
 split at h
 ·simp at h
 rename_i c5
 split at h
 ·rename_i i e he; exact absurd h (firstBad_nz he)
 rename_i f3
 simp only [not_or, Bool.not_eq_false] at c1 c2 c3 c4
 obtain ⟨d1, d2, d3⟩ := c1
 rw [isMarks, inR_iff] at d1
 rw [inR_iff] at d2 d3 c2 c3 c4
 refine ⟨d1, d2, d3, by omega, ?_, c3, by omega, ?_, by omega, ?_⟩
 ·intro n hn
  obtain ⟨k, hk, rfl⟩ := List.getElem_of_mem hn
  have := firstBad_all f1 k hk
  unfold heatErr at this
  split at this
  ·rename_i hi; rw [isMarks, inR_iff] at hi; omega
  ·omega
 ·intro x hx
  obtain ⟨k, hk, rfl⟩ := List.getElem_of_mem hx
  exact (holdErr_iff _).1 (firstBad_all f2 k hk)
 ·intro x hx
  obtain ⟨k, hk, rfl⟩ := List.getElem_of_mem hx
  have := firstBad_all f3 k hk
  unfold lineErr at this
  split at this
  ·omega
  rename_i hi
  split at this
  ·rename_i hj
   rw [Bool.and_eq_true, isMarks, inR_iff, inR_iff] at hj
   rw [Bool.not_eq_false, inR_iff] at hi
   omega
  ·omega
theorem towards_bd {a b n : Int} (ha : 0 ≤ a ∧ a ≤ 80) (hb : 0 ≤ b ∧ b ≤ 80) (hn : 0 ≤ n) : 0 ≤ towards a b n ∧ towards a b n ≤ 80 := by
 unfold towards; split <;> omega
theorem marks_bd {s : Ship} (hv : Vd s) {h : Nat} {n : Int} (hn : 0 ≤ n ∧ n ≤ 80) (c : Bool) : ∀ w, w ≤ s.heat.length → 0 ≤ marksAt s h n c w ∧ marksAt s h n c w ≤ 80
 | 0, _ => hn
 | w + 1, hw => by
  have ih := marks_bd hv (h := h) hn c w (by omega)
  simp only [marksAt]
  split
  ·exact towards_bd ih hv.cold (by omega)
  ·have hlt : w < s.heat.length := by omega
   rw [List.getElem?_eq_getElem hlt, Option.getD_some]
   exact towards_bd ih (hv.heat _ (List.getElem_mem hlt)) hv.warm.1
end Go.Am.Room
set_option maxRecDepth 4000
namespace Go.Am.Room
def enc3 (x : Int × Int × Int) : AV := .tuple [.int .i64 x.1, .int .i64 x.2.1, .int .i64 x.2.2]
end Go.Am.Room
set_option maxRecDepth 4000
namespace Go.Am.Room
def QXHHdP1 := And.intro @encShip_eq (And.intro @shipCells_eq (And.intro @encHold_eq (And.intro @encLine_eq (And.intro @encSpan_eq (And.intro @S_mapHold (@S_mapLine))))))
def idxOf {α : Type} (p : α → Bool) : List α → Nat → Int
 | [], _ => -1
 | x :: xs, k => if p x then k else idxOf p xs (k + 1)
theorem idxOf_any {α : Type} (p : α → Bool) : ∀ (l : List α) (k : Nat), decide (0 ≤ idxOf p l k) = l.any p
 | [], k => by simp [idxOf]
 | x :: xs, k => by
  cases h : p x
  ·simp [idxOf, h, idxOf_any p xs (k + 1)]
  ·simp [idxOf, h]
theorem index_int (σ : St) (f : AV) (l : List Int) (p : Int → Bool) (hl : l.length < 9223372036854775808) (hk : Keeps σ f) (h : ∀ x ∈ l, Same T f [.int .i64 x] σ (.bool (p x))) : Same T (.func 72 [] []) [ints l, f] σ (.int .i64 (idxOf p l 0)) := by
 refine same_fn (af := a72) rfl (by simp [a72]) ?_
 have hk0 := hk.nil
 (repeat (first | simp only [↓QA, QB, Nat.reduceLT, reduceIte, Nat.reduceEqDiff, Nat.reduceAdd, Nat.reduceLeDiff, Nat.reduceMul, Nat.reduceBEq, QXHHdP1, a72] | refine rd0 rfl ?_))
 refine loopE (S := Nat) 0 (fun k => k ≤ l.length ∧ idxOf p (l.drop k) k = idxOf p l 0) (fun k => l.length - k) (fun k => [(0, ints l), (1, f), (7, .int .i64 l.length), (8, .int .i64 k)]) (fun _ => σ) ⟨Nat.zero_le _, by simp⟩ rfl ?_ fun k hk1 => ?_
 ·try simp only [TrimX, QE, Nat.reduceLT, reduceIte, Nat.reduceEqDiff, Nat.reduceAdd, Nat.reduceLeDiff, Nat.reduceMul, Nat.reduceBEq, QXHHdP1]
  try simp
 ·obtain ⟨hkl, hi⟩ := hk1
  (repeat (first | simp only [↓QA, QB, Nat.reduceLT, reduceIte, Nat.reduceEqDiff, Nat.reduceAdd, Nat.reduceLeDiff, Nat.reduceMul, Nat.reduceBEq, QXHHdP1, L72_0] | refine rd0 rfl ?_))
  refine iteP_intro (fun hd => ?_) fun hd => ?_
  ·have hlt : k < l.length := by simpa using hd
   rw [List.drop_eq_getElem_cons hlt] at hi
   simp only [idxOf] at hi
   have hw := wrapN hlt hl
   (repeat (first | simp only [↓QA, QB, Nat.reduceLT, reduceIte, Nat.reduceEqDiff, Nat.reduceAdd, Nat.reduceLeDiff, Nat.reduceMul, Nat.reduceBEq, QXHHdP1, hlt] | refine rd0 rfl ?_))
   refine callK_same (h l[k] (List.getElem_mem hlt)) ?_
   (repeat (first | simp only [↓QA, QB, Nat.reduceLT, reduceIte, Nat.reduceEqDiff, Nat.reduceAdd, Nat.reduceLeDiff, Nat.reduceMul, Nat.reduceBEq, QXHHdP1] | refine rd0 rfl ?_))
   cases hp : p l[k]
   ·(repeat (first | simp only [↓QA, QB, Nat.reduceLT, reduceIte, Nat.reduceEqDiff, Nat.reduceAdd, Nat.reduceLeDiff, Nat.reduceMul, Nat.reduceBEq, QXHHdP1, hw] | refine rd0 rfl ?_))
    refine ⟨k + 1, ⟨by omega, by rw [← hi, hp]; rfl⟩, by omega, ?_⟩
    try simp only [TrimX, QE, Nat.reduceLT, reduceIte, Nat.reduceEqDiff, Nat.reduceAdd, Nat.reduceLeDiff, Nat.reduceMul, Nat.reduceBEq, QXHHdP1, hw, hk0, Nat.le_refl]
   ·(repeat (first | simp only [↓QA, QB, Nat.reduceLT, reduceIte, Nat.reduceEqDiff, Nat.reduceAdd, Nat.reduceLeDiff, Nat.reduceMul, Nat.reduceBEq, QXHHdP1] | refine rd0 rfl ?_))
    refine baseR [] (by first | rfl | simp) ?_
    rw [← hi, hp]
    try simp only [QS, QC, Nat.reduceLT, reduceIte, Nat.reduceEqDiff, Nat.reduceAdd, Nat.reduceLeDiff, Nat.reduceMul, Nat.reduceBEq, QXHHdP1]
  ·have hlt : k = l.length := by simp at hd; omega
   (repeat (first | simp only [↓QA, QB, Nat.reduceLT, reduceIte, Nat.reduceEqDiff, Nat.reduceAdd, Nat.reduceLeDiff, Nat.reduceMul, Nat.reduceBEq, QXHHdP1] | refine rd0 rfl ?_))
   refine baseR [] (by first | rfl | simp) ?_
   rw [← hi, hlt, List.drop_length]
   try simp only [QS, QC, Nat.reduceLT, reduceIte, Nat.reduceEqDiff, Nat.reduceAdd, Nat.reduceLeDiff, Nat.reduceMul, Nat.reduceBEq, QXHHdP1, idxOf]
theorem contains_int (σ : St) (f : AV) (l : List Int) (p : Int → Bool) (hl : l.length < 9223372036854775808) (hk : Keeps σ f) (h : ∀ x ∈ l, Same T f [.int .i64 x] σ (.bool (p x))) : Same T (.func 90 [] []) [ints l, f] σ (.bool (l.any p)) := by
 refine same_fn (af := a90) rfl (by simp [a90]) ?_
 (repeat (first | simp only [↓QA, QB, Nat.reduceLT, reduceIte, Nat.reduceEqDiff, Nat.reduceAdd, Nat.reduceLeDiff, Nat.reduceMul, Nat.reduceBEq, QXHHdP1, a90] | refine rd0 rfl ?_))
 refine callK_same (index_int σ f l p hl hk h) ?_
 (repeat (first | simp only [↓QA, QB, Nat.reduceLT, reduceIte, Nat.reduceEqDiff, Nat.reduceAdd, Nat.reduceLeDiff, Nat.reduceMul, Nat.reduceBEq, QXHHdP1] | refine rd0 rfl ?_))
 refine baseR [] (by first | rfl | simp) ?_
 rw [← idxOf_any p l 0]
 try simp only [QS, QC, Nat.reduceLT, reduceIte, Nat.reduceEqDiff, Nat.reduceAdd, Nat.reduceLeDiff, Nat.reduceMul, Nat.reduceBEq, QXHHdP1]
def outside (lo hi n : Int) : Bool := decide (n < lo) || decide (hi < n)
theorem beyond1_ok (lo hi n : Int) : Same T (.func 91 [] [.ptr 0 0, .ptr 1 0]) [.int .i64 n] [.cells [.int .i64 lo], .cells [.int .i64 hi]] (.bool (outside lo hi n)) := by
 refine same_fn (af := a91) rfl (by simp [a91]) ?_
 (repeat (first | simp only [↓QA, QB, Nat.reduceLT, reduceIte, Nat.reduceEqDiff, Nat.reduceAdd, Nat.reduceLeDiff, Nat.reduceMul, Nat.reduceBEq, QXHHdP1, a91] | refine rd0 rfl ?_))
 refine iteP_intro (fun h => ?_) fun h => ?_
 all_goals
  (repeat (first | simp only [↓QA, QB, Nat.reduceLT, reduceIte, Nat.reduceEqDiff, Nat.reduceAdd, Nat.reduceLeDiff, Nat.reduceMul, Nat.reduceBEq, QXHHdP1, h] | refine rd0 rfl ?_))
  refine baseR [] (by first | rfl | simp) ?_
  try simp only [QS, QC, Nat.reduceLT, reduceIte, Nat.reduceEqDiff, Nat.reduceAdd, Nat.reduceLeDiff, Nat.reduceMul, Nat.reduceBEq, QXHHdP1, outside, h]
  try simp
def beyond (lo hi : Int) (ns : List Int) : Bool := ns.any (outside lo hi)
theorem beyond_ok (lo hi : Int) (ns : List Int) (hl : ns.length < 9223372036854775808) : Pure T 54 [.int .i64 lo, .int .i64 hi, ints ns] (.bool (beyond lo hi ns)) := by
 refine pure_fn (af := a54) rfl (by simp [a54]) dd ?_
 (repeat (first | simp only [↓QA, QB, Nat.reduceLT, reduceIte, Nat.reduceEqDiff, Nat.reduceAdd, Nat.reduceLeDiff, Nat.reduceMul, Nat.reduceBEq, QXHHdP1, a54] | refine rd0 rfl ?_))
 refine callK_same (contains_int _ _ ns (outside lo hi) hl (fun τ => ?_) fun x _ => beyond1_ok lo hi x) ?_
 ·try simp only [QS, QC, Nat.reduceLT, reduceIte, Nat.reduceEqDiff, Nat.reduceAdd, Nat.reduceLeDiff, Nat.reduceMul, Nat.reduceBEq, QXHHdP1]
 ·(repeat (first | simp only [↓QA, QB, Nat.reduceLT, reduceIte, Nat.reduceEqDiff, Nat.reduceAdd, Nat.reduceLeDiff, Nat.reduceMul, Nat.reduceBEq, QXHHdP1, beyond] | refine rd0 rfl ?_))
theorem beyond1 (lo hi n : Int) : beyond lo hi [n] = !inR n lo hi := by
 rw [Bool.eq_iff_iff]; simp [beyond, outside, inR]
theorem beyond4 (lo hi a b c d : Int) : beyond lo hi [a, b, c, d] = (!inR a lo hi || !inR b lo hi || !inR c lo hi || !inR d lo hi) := by
 rw [Bool.eq_iff_iff]; simp [beyond, outside, inR, or_assoc]
def failing {α : Type} (least most : Int) (of : Nat → α → Int) (l : List α) : Int × Int := if inR l.length least most = false then (0, 3) else match firstBad of l 0 with | some (i, e) => (i, e) | none => (0, 0)
def enc2 (x : Int × Int) : AV := .tuple [.int .i64 x.1, .int .i64 x.2]
theorem failing_hold (σ : St) (f : AV) (l : List Hold) (least most : Int) (of : Nat → Hold → Int) (hl : l.length < 9223372036854775808) (hk : Keeps σ f)
  (h : ∀ i (hi : i < l.length), Same T f [encHold l[i]] (σ ++ [.cells (encHold l[i]).cells]) (.int .i64 (of i l[i]))) : Same T (.func 57 [] []) [.lit (l.map encHold) false none, .int .i64 least, .int .i64 most, f] σ (enc2 (failing least most of l)) := by
 refine same_fn (af := a57) rfl (by simp [a57]) ?_
 have hk0 := hk.nil
 have hk2 : ∀ τ, snapM (σ ++ τ) σ.length 20 f = some f := hk
 (repeat (first | simp only [↓QA, QB, Nat.reduceLT, reduceIte, Nat.reduceEqDiff, Nat.reduceAdd, Nat.reduceLeDiff, Nat.reduceMul, Nat.reduceBEq, QXHHdP1, a57] | refine rd0 rfl ?_))
 ((first | refine callK_v (beyond_ok least most [(l.length : Int)] (by simp)) (by simp [clr, clrs, ints]) (by simp [okV, okVs]) ?_ | refine callD_v (beyond_ok least most [(l.length : Int)] (by simp)) (by simp [clr, clrs, ints]) (by simp [okV, okVs]) ?_); (repeat (first | simp only [↓QA, QB, Nat.reduceLT, reduceIte, Nat.reduceEqDiff, Nat.reduceAdd, Nat.reduceLeDiff, Nat.reduceMul, Nat.reduceBEq, QXHHdP1, beyond1] | refine rd0 rfl ?_)))
 cases h1 : inR l.length least most
 ·(repeat (first | simp only [↓QA, QB, Nat.reduceLT, reduceIte, Nat.reduceEqDiff, Nat.reduceAdd, Nat.reduceLeDiff, Nat.reduceMul, Nat.reduceBEq, QXHHdP1] | refine rd0 rfl ?_))
  refine baseR [] (by first | rfl | simp) ?_
  try simp only [QS, QC, Nat.reduceLT, reduceIte, Nat.reduceEqDiff, Nat.reduceAdd, Nat.reduceLeDiff, Nat.reduceMul, Nat.reduceBEq, QXHHdP1, enc2, failing, h1]
 ·(repeat (first | simp only [↓QA, QB, Nat.reduceLT, reduceIte, Nat.reduceEqDiff, Nat.reduceAdd, Nat.reduceLeDiff, Nat.reduceMul, Nat.reduceBEq, QXHHdP1] | refine rd0 rfl ?_))
  refine loopE (S := Nat) 0 (fun k => k ≤ l.length ∧ firstBad of (l.drop k) k = firstBad of l 0) (fun k => l.length - k) (fun k => [(3, f), (19, .lit (l.map encHold) false none), (20, .int .i64 l.length), (21, .int .i64 k)]) (fun _ => σ) ⟨Nat.zero_le _, by simp⟩ rfl ?_ fun k hk1 => ?_
  ·try simp only [TrimX, QE, Nat.reduceLT, reduceIte, Nat.reduceEqDiff, Nat.reduceAdd, Nat.reduceLeDiff, Nat.reduceMul, Nat.reduceBEq, QXHHdP1]
   try simp
  ·obtain ⟨hkl, hi⟩ := hk1
   (repeat (first | simp only [↓QA, QB, Nat.reduceLT, reduceIte, Nat.reduceEqDiff, Nat.reduceAdd, Nat.reduceLeDiff, Nat.reduceMul, Nat.reduceBEq, QXHHdP1, L57_0] | refine rd0 rfl ?_))
   refine iteP_intro (fun hd => ?_) fun hd => ?_
   ·have hlt : k < l.length := by simpa using hd
    have hs := h k hlt
    rw [firstBad_step hlt] at hi
    have hw := wrapN hlt hl
    try simp only [↓QA, QB, Nat.reduceLT, reduceIte, Nat.reduceEqDiff, Nat.reduceAdd, Nat.reduceLeDiff, Nat.reduceMul, Nat.reduceBEq, QXHHdP1, hlt] at hs
    (repeat (first | simp only [↓QA, QB, Nat.reduceLT, reduceIte, Nat.reduceEqDiff, Nat.reduceAdd, Nat.reduceLeDiff, Nat.reduceMul, Nat.reduceBEq, QXHHdP1, hlt] | refine rd0 rfl ?_))
    refine callK_same hs ?_
    (repeat (first | simp only [↓QA, QB, Nat.reduceLT, reduceIte, Nat.reduceEqDiff, Nat.reduceAdd, Nat.reduceLeDiff, Nat.reduceMul, Nat.reduceBEq, QXHHdP1] | refine rd0 rfl ?_))
    cases hp : (of k l[k] == 0)
    ·have hp' : of k l[k] ≠ 0 := by simpa using hp
     rw [if_neg hp'] at hi
     (repeat (first | simp only [↓QA, QB, Nat.reduceLT, reduceIte, Nat.reduceEqDiff, Nat.reduceAdd, Nat.reduceLeDiff, Nat.reduceMul, Nat.reduceBEq, QXHHdP1, hp] | refine rd0 rfl ?_))
     refine baseR _ rfl ?_
     try simp only [QS, QC, Nat.reduceLT, reduceIte, Nat.reduceEqDiff, Nat.reduceAdd, Nat.reduceLeDiff, Nat.reduceMul, Nat.reduceBEq, QXHHdP1, enc2, failing, h1, ← hi, reduceCtorEq]
    ·have hp' : of k l[k] = 0 := by simpa using hp
     rw [if_pos hp'] at hi
     (repeat (first | simp only [↓QA, QB, Nat.reduceLT, reduceIte, Nat.reduceEqDiff, Nat.reduceAdd, Nat.reduceLeDiff, Nat.reduceMul, Nat.reduceBEq, QXHHdP1, hp, hw] | refine rd0 rfl ?_))
     refine ⟨k + 1, ⟨by omega, hi⟩, by omega, ?_⟩
     try simp only [TrimX, QE, Nat.reduceLT, reduceIte, Nat.reduceEqDiff, Nat.reduceAdd, Nat.reduceLeDiff, Nat.reduceMul, Nat.reduceBEq, QXHHdP1, hw, hk0, hk2, Nat.le_refl, S_mapHold]
   ·have hlt : k = l.length := by simp at hd; omega
    rw [firstBad_end hlt] at hi
    (repeat (first | simp only [↓QA, QB, Nat.reduceLT, reduceIte, Nat.reduceEqDiff, Nat.reduceAdd, Nat.reduceLeDiff, Nat.reduceMul, Nat.reduceBEq, QXHHdP1] | refine rd0 rfl ?_))
    refine baseR [] (by first | rfl | simp) ?_
    try simp only [QS, QC, Nat.reduceLT, reduceIte, Nat.reduceEqDiff, Nat.reduceAdd, Nat.reduceLeDiff, Nat.reduceMul, Nat.reduceBEq, QXHHdP1, enc2, failing, h1, ← hi, reduceCtorEq]
theorem failing_line (σ : St) (f : AV) (l : List Line) (least most : Int) (of : Nat → Line → Int) (hl : l.length < 9223372036854775808) (hk : Keeps σ f)
  (h : ∀ i (hi : i < l.length), Same T f [encLine l[i]] (σ ++ [.cells (encLine l[i]).cells]) (.int .i64 (of i l[i]))) : Same T (.func 59 [] []) [.lit (l.map encLine) false none, .int .i64 least, .int .i64 most, f] σ (enc2 (failing least most of l)) := by
 refine same_fn (af := a59) rfl (by simp [a59]) ?_
 have hk0 := hk.nil
 have hk2 : ∀ τ, snapM (σ ++ τ) σ.length 20 f = some f := hk
 (repeat (first | simp only [↓QA, QB, Nat.reduceLT, reduceIte, Nat.reduceEqDiff, Nat.reduceAdd, Nat.reduceLeDiff, Nat.reduceMul, Nat.reduceBEq, QXHHdP1, a59] | refine rd0 rfl ?_))
 ((first | refine callK_v (beyond_ok least most [(l.length : Int)] (by simp)) (by simp [clr, clrs, ints]) (by simp [okV, okVs]) ?_ | refine callD_v (beyond_ok least most [(l.length : Int)] (by simp)) (by simp [clr, clrs, ints]) (by simp [okV, okVs]) ?_); (repeat (first | simp only [↓QA, QB, Nat.reduceLT, reduceIte, Nat.reduceEqDiff, Nat.reduceAdd, Nat.reduceLeDiff, Nat.reduceMul, Nat.reduceBEq, QXHHdP1, beyond1] | refine rd0 rfl ?_)))
 cases h1 : inR l.length least most
 ·(repeat (first | simp only [↓QA, QB, Nat.reduceLT, reduceIte, Nat.reduceEqDiff, Nat.reduceAdd, Nat.reduceLeDiff, Nat.reduceMul, Nat.reduceBEq, QXHHdP1] | refine rd0 rfl ?_))
  refine baseR [] (by first | rfl | simp) ?_
  try simp only [QS, QC, Nat.reduceLT, reduceIte, Nat.reduceEqDiff, Nat.reduceAdd, Nat.reduceLeDiff, Nat.reduceMul, Nat.reduceBEq, QXHHdP1, enc2, failing, h1]
 ·(repeat (first | simp only [↓QA, QB, Nat.reduceLT, reduceIte, Nat.reduceEqDiff, Nat.reduceAdd, Nat.reduceLeDiff, Nat.reduceMul, Nat.reduceBEq, QXHHdP1] | refine rd0 rfl ?_))
  refine loopE (S := Nat) 0 (fun k => k ≤ l.length ∧ firstBad of (l.drop k) k = firstBad of l 0) (fun k => l.length - k) (fun k => [(3, f), (19, .lit (l.map encLine) false none), (20, .int .i64 l.length), (21, .int .i64 k)]) (fun _ => σ) ⟨Nat.zero_le _, by simp⟩ rfl ?_ fun k hk1 => ?_
  ·try simp only [TrimX, QE, Nat.reduceLT, reduceIte, Nat.reduceEqDiff, Nat.reduceAdd, Nat.reduceLeDiff, Nat.reduceMul, Nat.reduceBEq, QXHHdP1]
   try simp
  ·obtain ⟨hkl, hi⟩ := hk1
   (repeat (first | simp only [↓QA, QB, Nat.reduceLT, reduceIte, Nat.reduceEqDiff, Nat.reduceAdd, Nat.reduceLeDiff, Nat.reduceMul, Nat.reduceBEq, QXHHdP1, L59_0] | refine rd0 rfl ?_))
   refine iteP_intro (fun hd => ?_) fun hd => ?_
   ·have hlt : k < l.length := by simpa using hd
    have hs := h k hlt
    rw [firstBad_step hlt] at hi
    have hw := wrapN hlt hl
    try simp only [↓QA, QB, Nat.reduceLT, reduceIte, Nat.reduceEqDiff, Nat.reduceAdd, Nat.reduceLeDiff, Nat.reduceMul, Nat.reduceBEq, QXHHdP1, hlt] at hs
    (repeat (first | simp only [↓QA, QB, Nat.reduceLT, reduceIte, Nat.reduceEqDiff, Nat.reduceAdd, Nat.reduceLeDiff, Nat.reduceMul, Nat.reduceBEq, QXHHdP1, hlt] | refine rd0 rfl ?_))
    refine callK_same hs ?_
    (repeat (first | simp only [↓QA, QB, Nat.reduceLT, reduceIte, Nat.reduceEqDiff, Nat.reduceAdd, Nat.reduceLeDiff, Nat.reduceMul, Nat.reduceBEq, QXHHdP1] | refine rd0 rfl ?_))
    cases hp : (of k l[k] == 0)
    ·have hp' : of k l[k] ≠ 0 := by simpa using hp
     rw [if_neg hp'] at hi
     (repeat (first | simp only [↓QA, QB, Nat.reduceLT, reduceIte, Nat.reduceEqDiff, Nat.reduceAdd, Nat.reduceLeDiff, Nat.reduceMul, Nat.reduceBEq, QXHHdP1, hp] | refine rd0 rfl ?_))
     refine baseR _ rfl ?_
     try simp only [QS, QC, Nat.reduceLT, reduceIte, Nat.reduceEqDiff, Nat.reduceAdd, Nat.reduceLeDiff, Nat.reduceMul, Nat.reduceBEq, QXHHdP1, enc2, failing, h1, ← hi, reduceCtorEq]
    ·have hp' : of k l[k] = 0 := by simpa using hp
     rw [if_pos hp'] at hi
     (repeat (first | simp only [↓QA, QB, Nat.reduceLT, reduceIte, Nat.reduceEqDiff, Nat.reduceAdd, Nat.reduceLeDiff, Nat.reduceMul, Nat.reduceBEq, QXHHdP1, hp, hw] | refine rd0 rfl ?_))
     refine ⟨k + 1, ⟨by omega, hi⟩, by omega, ?_⟩
     try simp only [TrimX, QE, Nat.reduceLT, reduceIte, Nat.reduceEqDiff, Nat.reduceAdd, Nat.reduceLeDiff, Nat.reduceMul, Nat.reduceBEq, QXHHdP1, hw, hk0, hk2, Nat.le_refl, S_mapLine]
   ·have hlt : k = l.length := by simp at hd; omega
    rw [firstBad_end hlt] at hi
    (repeat (first | simp only [↓QA, QB, Nat.reduceLT, reduceIte, Nat.reduceEqDiff, Nat.reduceAdd, Nat.reduceLeDiff, Nat.reduceMul, Nat.reduceBEq, QXHHdP1] | refine rd0 rfl ?_))
    refine baseR [] (by first | rfl | simp) ?_
    try simp only [QS, QC, Nat.reduceLT, reduceIte, Nat.reduceEqDiff, Nat.reduceAdd, Nat.reduceLeDiff, Nat.reduceMul, Nat.reduceBEq, QXHHdP1, enc2, failing, h1, ← hi, reduceCtorEq]
theorem failing_int (σ : St) (f : AV) (l : List Int) (least most : Int) (of : Nat → Int → Int) (hl : l.length < 9223372036854775808) (hk : Keeps σ f)
  (h : ∀ i (hi : i < l.length), Same T f [.int .i64 l[i]] σ (.int .i64 (of i l[i]))) : Same T (.func 55 [] []) [ints l, .int .i64 least, .int .i64 most, f] σ (enc2 (failing least most of l)) := by
 refine same_fn (af := a55) rfl (by simp [a55]) ?_
 have hk0 := hk.nil
 have hk2 : ∀ τ, snapM (σ ++ τ) σ.length 20 f = some f := hk
 (repeat (first | simp only [↓QA, QB, Nat.reduceLT, reduceIte, Nat.reduceEqDiff, Nat.reduceAdd, Nat.reduceLeDiff, Nat.reduceMul, Nat.reduceBEq, QXHHdP1, a55] | refine rd0 rfl ?_))
 ((first | refine callK_v (beyond_ok least most [(l.length : Int)] (by simp)) (by simp [clr, clrs, ints]) (by simp [okV, okVs]) ?_ | refine callD_v (beyond_ok least most [(l.length : Int)] (by simp)) (by simp [clr, clrs, ints]) (by simp [okV, okVs]) ?_); (repeat (first | simp only [↓QA, QB, Nat.reduceLT, reduceIte, Nat.reduceEqDiff, Nat.reduceAdd, Nat.reduceLeDiff, Nat.reduceMul, Nat.reduceBEq, QXHHdP1, beyond1] | refine rd0 rfl ?_)))
 cases h1 : inR l.length least most
 ·(repeat (first | simp only [↓QA, QB, Nat.reduceLT, reduceIte, Nat.reduceEqDiff, Nat.reduceAdd, Nat.reduceLeDiff, Nat.reduceMul, Nat.reduceBEq, QXHHdP1] | refine rd0 rfl ?_))
  refine baseR [] (by first | rfl | simp) ?_
  try simp only [QS, QC, Nat.reduceLT, reduceIte, Nat.reduceEqDiff, Nat.reduceAdd, Nat.reduceLeDiff, Nat.reduceMul, Nat.reduceBEq, QXHHdP1, enc2, failing, h1]
 ·(repeat (first | simp only [↓QA, QB, Nat.reduceLT, reduceIte, Nat.reduceEqDiff, Nat.reduceAdd, Nat.reduceLeDiff, Nat.reduceMul, Nat.reduceBEq, QXHHdP1] | refine rd0 rfl ?_))
  refine loopE (S := Nat) 0 (fun k => k ≤ l.length ∧ firstBad of (l.drop k) k = firstBad of l 0) (fun k => l.length - k) (fun k => [(3, f), (19, ints l), (20, .int .i64 l.length), (21, .int .i64 k)]) (fun _ => σ) ⟨Nat.zero_le _, by simp⟩ rfl ?_ fun k hk1 => ?_
  ·try simp only [TrimX, QE, Nat.reduceLT, reduceIte, Nat.reduceEqDiff, Nat.reduceAdd, Nat.reduceLeDiff, Nat.reduceMul, Nat.reduceBEq, QXHHdP1]
   try simp
  ·obtain ⟨hkl, hi⟩ := hk1
   (repeat (first | simp only [↓QA, QB, Nat.reduceLT, reduceIte, Nat.reduceEqDiff, Nat.reduceAdd, Nat.reduceLeDiff, Nat.reduceMul, Nat.reduceBEq, QXHHdP1, L55_0] | refine rd0 rfl ?_))
   refine iteP_intro (fun hd => ?_) fun hd => ?_
   ·have hlt : k < l.length := by simpa using hd
    have hs := h k hlt
    rw [firstBad_step hlt] at hi
    have hw := wrapN hlt hl
    try simp only [↓QA, QB, Nat.reduceLT, reduceIte, Nat.reduceEqDiff, Nat.reduceAdd, Nat.reduceLeDiff, Nat.reduceMul, Nat.reduceBEq, QXHHdP1, hlt] at hs
    (repeat (first | simp only [↓QA, QB, Nat.reduceLT, reduceIte, Nat.reduceEqDiff, Nat.reduceAdd, Nat.reduceLeDiff, Nat.reduceMul, Nat.reduceBEq, QXHHdP1, hlt] | refine rd0 rfl ?_))
    refine callK_same hs ?_
    (repeat (first | simp only [↓QA, QB, Nat.reduceLT, reduceIte, Nat.reduceEqDiff, Nat.reduceAdd, Nat.reduceLeDiff, Nat.reduceMul, Nat.reduceBEq, QXHHdP1] | refine rd0 rfl ?_))
    cases hp : (of k l[k] == 0)
    ·have hp' : of k l[k] ≠ 0 := by simpa using hp
     rw [if_neg hp'] at hi
     (repeat (first | simp only [↓QA, QB, Nat.reduceLT, reduceIte, Nat.reduceEqDiff, Nat.reduceAdd, Nat.reduceLeDiff, Nat.reduceMul, Nat.reduceBEq, QXHHdP1, hp] | refine rd0 rfl ?_))
     refine baseR [] (by first | rfl | simp) ?_
     try simp only [QS, QC, Nat.reduceLT, reduceIte, Nat.reduceEqDiff, Nat.reduceAdd, Nat.reduceLeDiff, Nat.reduceMul, Nat.reduceBEq, QXHHdP1, enc2, failing, h1, ← hi, reduceCtorEq]
    ·have hp' : of k l[k] = 0 := by simpa using hp
     rw [if_pos hp'] at hi
     (repeat (first | simp only [↓QA, QB, Nat.reduceLT, reduceIte, Nat.reduceEqDiff, Nat.reduceAdd, Nat.reduceLeDiff, Nat.reduceMul, Nat.reduceBEq, QXHHdP1, hp, hw] | refine rd0 rfl ?_))
     refine ⟨k + 1, ⟨by omega, hi⟩, by omega, ?_⟩
     try simp only [TrimX, QE, Nat.reduceLT, reduceIte, Nat.reduceEqDiff, Nat.reduceAdd, Nat.reduceLeDiff, Nat.reduceMul, Nat.reduceBEq, QXHHdP1, hw, hk0, hk2, Nat.le_refl, S_mapI]
   ·have hlt : k = l.length := by simp at hd; omega
    rw [firstBad_end hlt] at hi
    (repeat (first | simp only [↓QA, QB, Nat.reduceLT, reduceIte, Nat.reduceEqDiff, Nat.reduceAdd, Nat.reduceLeDiff, Nat.reduceMul, Nat.reduceBEq, QXHHdP1] | refine rd0 rfl ?_))
    refine baseR [] (by first | rfl | simp) ?_
    try simp only [QS, QC, Nat.reduceLT, reduceIte, Nat.reduceEqDiff, Nat.reduceAdd, Nat.reduceLeDiff, Nat.reduceMul, Nat.reduceBEq, QXHHdP1, enc2, failing, h1, ← hi, reduceCtorEq]
theorem holdErr_eq (x : Hold) : holdErr x = if (!inR x.start.lo 0 80 || !inR x.start.hi 0 80 || !inR x.keep.lo 0 80 || !inR x.keep.hi 0 80) = true ∨ inR x.duct 0 2 = false then 7 else if x.start.hi < x.start.lo ∨ x.keep.hi < x.keep.lo then 2 else 0 := by
 have key : ∀ (a b c d e : Bool) (p q : Prop) [Decidable p] [Decidable q] (u v w : Int), u = (if (!a || !b) = true then 7 else if p then 2 else 0) → v = (if (!c || !d) = true then 7 else if q then 2 else 0) → w = (if u = 7 ∨ v = 7 ∨ e = false then 7 else if u ≠ 0 then u else v) →
   w = if (!a || !b || !c || !d) = true ∨ e = false then 7 else if p ∨ q then 2 else 0 := by
  intro a b c d e p q _ _ u v w hu hv hw
  subst hw
  subst hu
  subst hv
  by_cases hp : p <;> by_cases hq : q <;> cases a <;> cases b <;> cases c <;> cases d <;> cases e <;> simp [hp, hq]
 exact key (inR x.start.lo 0 80) (inR x.start.hi 0 80) (inR x.keep.lo 0 80) (inR x.keep.hi 0 80) (inR x.duct 0 2) (x.start.hi < x.start.lo) (x.keep.hi < x.keep.lo) (ends x.start 0 80) (ends x.keep 0 80) (holdErr x) rfl rfl rfl
theorem chk1_ok (n : Int) (σ : St) : Same T (.func 56 [] []) [.int .i64 n] σ (.int .i64 (heatErr 0 n)) := by
 refine same_fn (af := a56) rfl (by simp [a56]) ?_
 (repeat (first | simp only [↓QA, QB, Nat.reduceLT, reduceIte, Nat.reduceEqDiff, Nat.reduceAdd, Nat.reduceLeDiff, Nat.reduceMul, Nat.reduceBEq, QXHHdP1, a56] | refine rd0 rfl ?_))
 ((first | refine callK_v (beyond_ok 0 80 [n] (by simp)) (by simp [clr, clrs, ints]) (by simp [okV, okVs]) ?_ | refine callD_v (beyond_ok 0 80 [n] (by simp)) (by simp [clr, clrs, ints]) (by simp [okV, okVs]) ?_); (repeat (first | simp only [↓QA, QB, Nat.reduceLT, reduceIte, Nat.reduceEqDiff, Nat.reduceAdd, Nat.reduceLeDiff, Nat.reduceMul, Nat.reduceBEq, QXHHdP1, beyond1] | refine rd0 rfl ?_)))
 cases h1 : inR n 0 80
 all_goals
  (repeat (first | simp only [↓QA, QB, Nat.reduceLT, reduceIte, Nat.reduceEqDiff, Nat.reduceAdd, Nat.reduceLeDiff, Nat.reduceMul, Nat.reduceBEq, QXHHdP1] | refine rd0 rfl ?_))
  refine baseR [] (by first | rfl | simp) ?_
  try simp only [QS, QC, Nat.reduceLT, reduceIte, Nat.reduceEqDiff, Nat.reduceAdd, Nat.reduceLeDiff, Nat.reduceMul, Nat.reduceBEq, QXHHdP1, heatErr, isMarks, h1, reduceCtorEq]
  try rfl
theorem chk2_ok (x : Hold) (σ : St) : Same T (.func 58 [] []) [encHold x] σ (.int .i64 (holdErr x)) := by
 refine same_fn (af := a58) rfl (by simp [a58]) ?_
 have fin : ∀ (v : Int) (cs : List AV), v = holdErr x → BaseR (some (.int .i64 v)) σ (σ ++ [.cells cs]) (.int .i64 (holdErr x)) := fun v cs hv => by
  refine baseR [.cells cs] rfl ?_
  rw [hv]
  try simp only [QS, QC, Nat.reduceLT, reduceIte, Nat.reduceEqDiff, Nat.reduceAdd, Nat.reduceLeDiff, Nat.reduceMul, Nat.reduceBEq, QXHHdP1]
 have he := holdErr_eq x
 (repeat (first | simp only [↓QA, QB, Nat.reduceLT, reduceIte, Nat.reduceEqDiff, Nat.reduceAdd, Nat.reduceLeDiff, Nat.reduceMul, Nat.reduceBEq, QXHHdP1, a58, List.length_append] | refine rd0 rfl ?_))
 ((first | refine callK_v (beyond_ok 0 80 [x.start.lo, x.start.hi, x.keep.lo, x.keep.hi] (by simp)) (by simp [clr, clrs, ints]) (by simp [okV, okVs]) ?_ | refine callD_v (beyond_ok 0 80 [x.start.lo, x.start.hi, x.keep.lo, x.keep.hi] (by simp)) (by simp [clr, clrs, ints]) (by simp [okV, okVs]) ?_); (repeat (first | simp only [↓QA, QB, Nat.reduceLT, reduceIte, Nat.reduceEqDiff, Nat.reduceAdd, Nat.reduceLeDiff, Nat.reduceMul, Nat.reduceBEq, QXHHdP1, beyond4] | refine rd0 rfl ?_)))
 cases h1 : (!inR x.start.lo 0 80 || !inR x.start.hi 0 80 || !inR x.keep.lo 0 80 || !inR x.keep.hi 0 80)
 ·rw [h1] at he
  (repeat (first | simp only [↓QA, QB, Nat.reduceLT, reduceIte, Nat.reduceEqDiff, Nat.reduceAdd, Nat.reduceLeDiff, Nat.reduceMul, Nat.reduceBEq, QXHHdP1, h1] | refine rd0 rfl ?_))
  ((first | refine callK_v (beyond_ok 0 2 [x.duct] (by simp)) (by simp [clr, clrs, ints]) (by simp [okV, okVs]) ?_ | refine callD_v (beyond_ok 0 2 [x.duct] (by simp)) (by simp [clr, clrs, ints]) (by simp [okV, okVs]) ?_); (repeat (first | simp only [↓QA, QB, Nat.reduceLT, reduceIte, Nat.reduceEqDiff, Nat.reduceAdd, Nat.reduceLeDiff, Nat.reduceMul, Nat.reduceBEq, QXHHdP1, beyond1] | refine rd0 rfl ?_)))
  cases h2 : inR x.duct 0 2
  ·rw [h2] at he
   (repeat (first | simp only [↓QA, QB, Nat.reduceLT, reduceIte, Nat.reduceEqDiff, Nat.reduceAdd, Nat.reduceLeDiff, Nat.reduceMul, Nat.reduceBEq, QXHHdP1] | refine rd0 rfl ?_))
   exact fin _ _ (by rw [he]; simp)
  ·rw [h2] at he
   (repeat (first | simp only [↓QA, QB, Nat.reduceLT, reduceIte, Nat.reduceEqDiff, Nat.reduceAdd, Nat.reduceLeDiff, Nat.reduceMul, Nat.reduceBEq, QXHHdP1] | refine rd0 rfl ?_))
   cases h3 : decide (x.start.hi < x.start.lo)
   ·have h3' : ¬ x.start.hi < x.start.lo := by simpa using h3
    (repeat (first | simp only [↓QA, QB, Nat.reduceLT, reduceIte, Nat.reduceEqDiff, Nat.reduceAdd, Nat.reduceLeDiff, Nat.reduceMul, Nat.reduceBEq, QXHHdP1, h3] | refine rd0 rfl ?_))
    cases h4 : decide (x.keep.hi < x.keep.lo)
    ·have h4' : ¬ x.keep.hi < x.keep.lo := by simpa using h4
     (repeat (first | simp only [↓QA, QB, Nat.reduceLT, reduceIte, Nat.reduceEqDiff, Nat.reduceAdd, Nat.reduceLeDiff, Nat.reduceMul, Nat.reduceBEq, QXHHdP1, h4] | refine rd0 rfl ?_))
     exact fin _ _ (by rw [he]; simp [h3', h4'])
    ·have h4' : x.keep.hi < x.keep.lo := by simpa using h4
     (repeat (first | simp only [↓QA, QB, Nat.reduceLT, reduceIte, Nat.reduceEqDiff, Nat.reduceAdd, Nat.reduceLeDiff, Nat.reduceMul, Nat.reduceBEq, QXHHdP1, h4] | refine rd0 rfl ?_))
     exact fin _ _ (by rw [he]; simp [h4'])
   ·have h3' : x.start.hi < x.start.lo := by simpa using h3
    (repeat (first | simp only [↓QA, QB, Nat.reduceLT, reduceIte, Nat.reduceEqDiff, Nat.reduceAdd, Nat.reduceLeDiff, Nat.reduceMul, Nat.reduceBEq, QXHHdP1, h3] | refine rd0 rfl ?_))
    exact fin _ _ (by rw [he]; simp [h3'])
 ·rw [h1] at he
  (repeat (first | simp only [↓QA, QB, Nat.reduceLT, reduceIte, Nat.reduceEqDiff, Nat.reduceAdd, Nat.reduceLeDiff, Nat.reduceMul, Nat.reduceBEq, QXHHdP1, h1] | refine rd0 rfl ?_))
  exact fin _ _ (by rw [he]; simp)
theorem chk3_ok (s : Ship) (hf : Fits s) (x : Line) : Same T (.func 60 [] [.ptr 0 0]) [encLine x] [.cells (shipCells s), .cells (encLine x).cells] (.int .i64 (lineErr s 0 x)) := by
 refine same_fn (af := a60) rfl (by simp [a60]) ?_
 have hsz := hf.holds
 have hws : IntKind.i64.wrap ((s.holds.length : Int) - 1) = (s.holds.length : Int) - 1 := wrap64 ⟨by omega, by omega⟩
 (repeat (first | simp only [↓QA, QB, Nat.reduceLT, reduceIte, Nat.reduceEqDiff, Nat.reduceAdd, Nat.reduceLeDiff, Nat.reduceMul, Nat.reduceBEq, QXHHdP1, a60, hws] | refine rd0 rfl ?_))
 ((first | refine callK_v (beyond_ok 0 ((s.holds.length : Int) - 1) [x.hold] (by simp)) (by simp [clr, clrs, ints]) (by simp [okV, okVs]) ?_ | refine callD_v (beyond_ok 0 ((s.holds.length : Int) - 1) [x.hold] (by simp)) (by simp [clr, clrs, ints]) (by simp [okV, okVs]) ?_); (repeat (first | simp only [↓QA, QB, Nat.reduceLT, reduceIte, Nat.reduceEqDiff, Nat.reduceAdd, Nat.reduceLeDiff, Nat.reduceMul, Nat.reduceBEq, QXHHdP1, beyond1] | refine rd0 rfl ?_)))
 cases h1 : inR x.hold 0 ((s.holds.length : Int) - 1)
 ·(repeat (first | simp only [↓QA, QB, Nat.reduceLT, reduceIte, Nat.reduceEqDiff, Nat.reduceAdd, Nat.reduceLeDiff, Nat.reduceMul, Nat.reduceBEq, QXHHdP1] | refine rd0 rfl ?_))
  refine baseR _ rfl ?_
  try simp only [QS, QC, Nat.reduceLT, reduceIte, Nat.reduceEqDiff, Nat.reduceAdd, Nat.reduceLeDiff, Nat.reduceMul, Nat.reduceBEq, QXHHdP1, lineErr, isMarks, h1, reduceCtorEq, Bool.false_and, Bool.false_eq_true]
 ·(repeat (first | simp only [↓QA, QB, Nat.reduceLT, reduceIte, Nat.reduceEqDiff, Nat.reduceAdd, Nat.reduceLeDiff, Nat.reduceMul, Nat.reduceBEq, QXHHdP1] | refine rd0 rfl ?_))
  ((first | refine callK_v (beyond_ok 0 (s.heat.length : Int) [x.watch] (by simp)) (by simp [clr, clrs, ints]) (by simp [okV, okVs]) ?_ | refine callD_v (beyond_ok 0 (s.heat.length : Int) [x.watch] (by simp)) (by simp [clr, clrs, ints]) (by simp [okV, okVs]) ?_); (repeat (first | simp only [↓QA, QB, Nat.reduceLT, reduceIte, Nat.reduceEqDiff, Nat.reduceAdd, Nat.reduceLeDiff, Nat.reduceMul, Nat.reduceBEq, QXHHdP1, beyond1] | refine rd0 rfl ?_)))
  cases h2 : inR x.watch 0 s.heat.length
  ·(repeat (first | simp only [↓QA, QB, Nat.reduceLT, reduceIte, Nat.reduceEqDiff, Nat.reduceAdd, Nat.reduceLeDiff, Nat.reduceMul, Nat.reduceBEq, QXHHdP1] | refine rd0 rfl ?_))
   refine baseR _ rfl ?_
   try simp only [QS, QC, Nat.reduceLT, reduceIte, Nat.reduceEqDiff, Nat.reduceAdd, Nat.reduceLeDiff, Nat.reduceMul, Nat.reduceBEq, QXHHdP1, lineErr, isMarks, h1, h2, reduceCtorEq, Bool.false_and, Bool.false_eq_true]
  ·(repeat (first | simp only [↓QA, QB, Nat.reduceLT, reduceIte, Nat.reduceEqDiff, Nat.reduceAdd, Nat.reduceLeDiff, Nat.reduceMul, Nat.reduceBEq, QXHHdP1] | refine rd0 rfl ?_))
   ((first | refine callK_v (beyond_ok 0 80 [x.marks] (by simp)) (by simp [clr, clrs, ints]) (by simp [okV, okVs]) ?_ | refine callD_v (beyond_ok 0 80 [x.marks] (by simp)) (by simp [clr, clrs, ints]) (by simp [okV, okVs]) ?_); (repeat (first | simp only [↓QA, QB, Nat.reduceLT, reduceIte, Nat.reduceEqDiff, Nat.reduceAdd, Nat.reduceLeDiff, Nat.reduceMul, Nat.reduceBEq, QXHHdP1, beyond1] | refine rd0 rfl ?_)))
   cases h3 : inR x.marks 0 80
   all_goals
    (repeat (first | simp only [↓QA, QB, Nat.reduceLT, reduceIte, Nat.reduceEqDiff, Nat.reduceAdd, Nat.reduceLeDiff, Nat.reduceMul, Nat.reduceBEq, QXHHdP1] | refine rd0 rfl ?_))
    refine baseR _ rfl ?_
    try simp only [QS, QC, Nat.reduceLT, reduceIte, Nat.reduceEqDiff, Nat.reduceAdd, Nat.reduceLeDiff, Nat.reduceMul, Nat.reduceBEq, QXHHdP1, lineErr, isMarks, h1, h2, h3, reduceCtorEq, Bool.false_and, Bool.false_eq_true]
theorem append_at {σ : St} {sz b : Nat} {xs ys : List AV} {ex f : Bool} {t : Nat} {tk : Option Nat} (h : AppOk sz b xs ys) (h0 : ys.length ≠ 0) (n : Nat) (hn : n = xs.length) (ht : σ[t]? = some (.tok sz n ex)) :
  appendAV sz b σ (.lit xs false (some t)) (.lit ys f tk) = some (.lit (xs ++ ys) false (some t), σ.set t (.tok sz (n + ys.length) true)) := by
 subst hn
 exact app_tok h h0 ht
theorem T_sapp (m : Nat) : ∀ (σ a b c : St), EqS m (σ ++ a) (σ ++ b) (σ ++ c) = EqS m a b c
 | [], a, b, c => rfl
 | x :: σ, a, b, c => by simp only [List.cons_append, EqS, T_sapp m σ a b c, true_or, true_and, and_self]
theorem and1 (a : Nat) (h : a < 9223372036854775808) : Go.Am.bits .and .i64 (a : Int) 1 = ((a % 2 : Nat) : Int) := by
 have e1 : (BitVec.ofInt 64 (a : Int) &&& BitVec.ofInt 64 1).toNat = a % 2 := by
  rw [BitVec.toNat_and]
  have h1 : (BitVec.ofInt 64 (a : Int)).toNat = a := by
   rw [BitVec.toNat_ofInt]
   omega
  have h2 : (BitVec.ofInt 64 1).toNat = 1 := by decide
  rw [h1, h2, Nat.and_one_is_mod]
 show IntKind.i64.wrap (((BitVec.ofInt 64 (a : Int) &&& BitVec.ofInt 64 1).toNat : Nat) : Int) = _
 rw [e1]
 exact wrap64 ⟨by omega, by omega⟩
theorem V_and1 (a : Nat) (h : a < 9223372036854775808) : binAV .and (.int .i64 (a : Int)) (.int .i64 1) = some (.int .i64 ((a % 2 : Nat) : Int)) := by
 simp [binAV, binInt, and1 a h]
theorem V_shr (a i : Nat) (h : i ≤ 60) : binAV .shr (.int .i64 (a : Int)) (.int .i64 (i : Int)) = some (.int .i64 ((a / 2 ^ i : Nat) : Int)) := by
 have hm : Nat.min i 64 = i := Nat.min_eq_left (by omega)
 have h0 : ¬ (i : Int) < 0 := by omega
 simp only [binAV, h0, if_false, IntKind.bits, Int.toNat_natCast, hm, Option.some.injEq, AV.int.injEq, true_and]
 rw [Int.fdiv_eq_ediv_of_nonneg _ (Int.pow_nonneg (by omega))]
 norm_cast
theorem T_sapp0 (m : Nat) (σ b c : St) : EqS m σ (σ ++ b) (σ ++ c) = EqS m [] b c := by have := T_sapp m σ [] b c; rwa [List.append_nil] at this
def Does (T : FuncId → Option AFunc) (f : AV) (args : List AV) (σ : St) (v : AV) (σ' : St) : Prop := Run T (.callv f args σ) fun o => o.v = v ∧ o.σ = σ'
theorem callK_do {f : AV} {args : List AV} {v : AV} {σ σ' : St} {K : AV → St → Prop} (h : Does T f args σ v σ') (k : K v σ') : cK (K := ⟨K⟩) T f args σ := .mono h fun o ho => by rw [ho.1, ho.2]; exact k
theorem callD_do {f : AV} {args : List AV} {v : AV} {σ σ' : St} {K : AV → St → Prop} (h : Does T f args σ v σ') (k : K v σ') : cD (K := ⟨K⟩) T f args σ := ⟨v, σ', h, k⟩
theorem V_lookS (z v : AV) : vLook true z (some (some v)) = some (.tuple [v, .bool true]) := rfl
theorem V_lookN (z : AV) : vLook true z (some none) = some (.tuple [z, .bool false]) := rfl
theorem eqS_set (k : Nat) (x : ABlk) (hx : okBlk k x) : ∀ (A a b c : St) (i : Nat), EqS k (A ++ a) (A.set i x ++ b) (A.set i x ++ c) = EqS k a b c
 | [], a, b, c, i => by simp
 | y :: A, a, b, c, 0 => by
  simp only [List.set_cons_zero, List.cons_append, EqS, T_sapp, hx, or_true, true_and, and_self]
 | y :: A, a, b, c, i + 1 => by
  have := eqS_set k x hx A a b c i
  simp only [List.set_cons_succ, List.cons_append, EqS, this, true_or, true_and, and_self]
theorem C_yield (i : Nat) : cellsOk 1 (.yield i) = true := by simp [cellsOk, AV.cells, AV.cell]
theorem K_yield (i : Nat) : (AV.yield i).cells = [.yield i] := by simp [AV.cells]
theorem rK_range {f : AOpd} {g : FuncId} {first cap : List AV} {ps : List Nat} {a b : ACode} {e : Env} {σ : St} {K : KJ} {R : Out → Prop} (hf : f.ev e = .func g first cap)
  (h : Run T (.call g (first ++ [.yield σ.length] ++ cap) (σ ++ [.loop .ready none e ps a b])) R)
  (h1 : ∀ o, R o → ∃ st pend env' ps' a' b', o.σ[σ.length]? = some (.loop st pend env' ps' a' b') ∧ st ≠ .busy ∧ K pend e (o.σ.set σ.length .dead)) : rK (K := ⟨K⟩) T (.rangeFunc f ps a b) e σ := .rangeFunc hf h h1
theorem append_intT {σ : St} {l : List Int} {a : Int} {ex : Bool} {t : Nat} (hn : l.length < 100) (ht : σ[t]? = some (.tok 1 l.length ex)) : appendAV 1 8 σ (.lit (l.map (.int .i64)) false (some t)) (.lit [.int .i64 a] true none) = some (.lit ((l ++ [a]).map (.int .i64)) false (some t), σ.set t (.tok 1 (l.length + 1) true)) := by
 rw [app_tok (ex := ex) ⟨L_allM 1 _ l (fun x => C_int _ _), by simp [allCells, AV.cells, AV.cell], by simp [room]; omega, by simp [room]; omega⟩ (by simp) (by simpa using ht)]
 simp
end Go.Am.Room
set_option maxRecDepth 4000
namespace Go.Am.Room
def QXHHdP2 := And.intro @encShip_eq (And.intro @shipCells_eq (And.intro @encHold_eq (And.intro @encLine_eq (And.intro @encSpan_eq (And.intro @S_mapHold (@S_mapLine))))))
theorem check_ok (s : Ship) (h : Fits s) : Pure T 16 [encShip s] (enc3 (check s)) := by
 refine pure_fn (af := a16) rfl (by simp [a16]) dd ?_
 have hfh := h.heat
 have hfo := h.holds
 have hfl := h.log
 (repeat (first | simp only [↓QA, QB, Nat.reduceLT, reduceIte, Nat.reduceEqDiff, Nat.reduceAdd, Nat.reduceLeDiff, Nat.reduceMul, Nat.reduceBEq, QXHHdP2, a16] | refine rd0 rfl ?_))
 ((first | refine callK_v (beyond_ok 0 80 [s.cold] (by simp)) (by simp [clr, clrs, ints]) (by simp [okV, okVs]) ?_ | refine callD_v (beyond_ok 0 80 [s.cold] (by simp)) (by simp [clr, clrs, ints]) (by simp [okV, okVs]) ?_); (repeat (first | simp only [↓QA, QB, Nat.reduceLT, reduceIte, Nat.reduceEqDiff, Nat.reduceAdd, Nat.reduceLeDiff, Nat.reduceMul, Nat.reduceBEq, QXHHdP2, beyond1] | refine rd0 rfl ?_)))
 cases h1 : inR s.cold 0 80
 ·(repeat (first | simp only [↓QA, QB, Nat.reduceLT, reduceIte, Nat.reduceEqDiff, Nat.reduceAdd, Nat.reduceLeDiff, Nat.reduceMul, Nat.reduceBEq, QXHHdP2] | refine rd0 rfl ?_))
  simp [check, isMarks, h1, enc3]
 ·(repeat (first | simp only [↓QA, QB, Nat.reduceLT, reduceIte, Nat.reduceEqDiff, Nat.reduceAdd, Nat.reduceLeDiff, Nat.reduceMul, Nat.reduceBEq, QXHHdP2] | refine rd0 rfl ?_))
  ((first | refine callK_v (beyond_ok 1 9 [s.power] (by simp)) (by simp [clr, clrs, ints]) (by simp [okV, okVs]) ?_ | refine callD_v (beyond_ok 1 9 [s.power] (by simp)) (by simp [clr, clrs, ints]) (by simp [okV, okVs]) ?_); (repeat (first | simp only [↓QA, QB, Nat.reduceLT, reduceIte, Nat.reduceEqDiff, Nat.reduceAdd, Nat.reduceLeDiff, Nat.reduceMul, Nat.reduceBEq, QXHHdP2, beyond1] | refine rd0 rfl ?_)))
  cases h2 : inR s.power 1 9
  ·(repeat (first | simp only [↓QA, QB, Nat.reduceLT, reduceIte, Nat.reduceEqDiff, Nat.reduceAdd, Nat.reduceLeDiff, Nat.reduceMul, Nat.reduceBEq, QXHHdP2] | refine rd0 rfl ?_))
   simp [check, h2, enc3]
  ·(repeat (first | simp only [↓QA, QB, Nat.reduceLT, reduceIte, Nat.reduceEqDiff, Nat.reduceAdd, Nat.reduceLeDiff, Nat.reduceMul, Nat.reduceBEq, QXHHdP2] | refine rd0 rfl ?_))
   ((first | refine callK_v (beyond_ok 0 5 [s.warm] (by simp)) (by simp [clr, clrs, ints]) (by simp [okV, okVs]) ?_ | refine callD_v (beyond_ok 0 5 [s.warm] (by simp)) (by simp [clr, clrs, ints]) (by simp [okV, okVs]) ?_); (repeat (first | simp only [↓QA, QB, Nat.reduceLT, reduceIte, Nat.reduceEqDiff, Nat.reduceAdd, Nat.reduceLeDiff, Nat.reduceMul, Nat.reduceBEq, QXHHdP2, beyond1] | refine rd0 rfl ?_)))
   cases h3 : inR s.warm 0 5
   ·(repeat (first | simp only [↓QA, QB, Nat.reduceLT, reduceIte, Nat.reduceEqDiff, Nat.reduceAdd, Nat.reduceLeDiff, Nat.reduceMul, Nat.reduceBEq, QXHHdP2] | refine rd0 rfl ?_))
    simp [check, h3, enc3]
   ·have hc : check s = check2 s := by simp [check, isMarks, h1, h2, h3]
    rw [hc]
    (repeat (first | simp only [↓QA, QB, Nat.reduceLT, reduceIte, Nat.reduceEqDiff, Nat.reduceAdd, Nat.reduceLeDiff, Nat.reduceMul, Nat.reduceBEq, QXHHdP2] | refine rd0 rfl ?_))
    have f1 := failing_int [.cells (shipCells s)] (.func 56 [] []) s.heat 1 6 heatErr hfh (fun τ => by try simp only [QS, QC, Nat.reduceLT, reduceIte, Nat.reduceEqDiff, Nat.reduceAdd, Nat.reduceLeDiff, Nat.reduceMul, Nat.reduceBEq, QXHHdP2, List.length_append]) fun i hi => chk1_ok s.heat[i] _
    have f2 := failing_hold [.cells (shipCells s)] (.func 58 [] []) s.holds 1 4 (fun _ => holdErr) hfo (fun τ => by try simp only [QS, QC, Nat.reduceLT, reduceIte, Nat.reduceEqDiff, Nat.reduceAdd, Nat.reduceLeDiff, Nat.reduceMul, Nat.reduceBEq, QXHHdP2, List.length_append]) fun i hi => chk2_ok s.holds[i] _
    have f3 := failing_line [.cells (shipCells s)] (.func 60 [] [.ptr 0 0]) s.log 0 5 (lineErr s) hfl (fun τ => by try simp only [QS, QC, Nat.reduceLT, reduceIte, Nat.reduceEqDiff, Nat.reduceAdd, Nat.reduceLeDiff, Nat.reduceMul, Nat.reduceBEq, QXHHdP2, List.length_append]) fun i hi => chk3_ok s h s.log[i]
    try simp only [↓QA, QB, Nat.reduceLT, reduceIte, Nat.reduceEqDiff, Nat.reduceAdd, Nat.reduceLeDiff, Nat.reduceMul, Nat.reduceBEq, QXHHdP2] at f1 f2 f3
    refine callK_same f1 ?_
    (repeat (first | simp only [↓QA, QB, Nat.reduceLT, reduceIte, Nat.reduceEqDiff, Nat.reduceAdd, Nat.reduceLeDiff, Nat.reduceMul, Nat.reduceBEq, QXHHdP2, enc2] | refine rd0 rfl ?_))
    cases h4 : inR s.heat.length 1 6
    ·have e1 : failing 1 6 heatErr s.heat = (0, 3) := by simp only [failing, h4, if_true]
     have e2 : check2 s = (2, 0, 3) := by simp only [check2, h4, if_true]
     rw [e1, e2]
     (repeat (first | simp only [↓QA, QB, Nat.reduceLT, reduceIte, Nat.reduceEqDiff, Nat.reduceAdd, Nat.reduceLeDiff, Nat.reduceMul, Nat.reduceBEq, QXHHdP2, show ((3 : Int) == 0) = false from rfl, enc3] | refine rd0 rfl ?_))
    ·cases h5 : firstBad heatErr s.heat 0 with
     | some p =>
      obtain ⟨i, e⟩ := p
      have hne : (e == 0) = false := by simpa using firstBad_nz h5
      have e1 : failing 1 6 heatErr s.heat = ((i : Int), e) := by simp only [failing, h4, h5]; rfl
      have e2 : check2 s = (2, (i : Int), e) := by simp only [check2, h4, h5]; rfl
      rw [e1, e2]
      (repeat (first | simp only [↓QA, QB, Nat.reduceLT, reduceIte, Nat.reduceEqDiff, Nat.reduceAdd, Nat.reduceLeDiff, Nat.reduceMul, Nat.reduceBEq, QXHHdP2, hne, enc3] | refine rd0 rfl ?_))
     | none =>
      have e1 : failing 1 6 heatErr s.heat = (0, 0) := by simp only [failing, h4, h5]; rfl
      have e2 : check2 s = check3 s := by simp only [check2, h4, h5]; rfl
      rw [e1, e2]
      (repeat (first | simp only [↓QA, QB, Nat.reduceLT, reduceIte, Nat.reduceEqDiff, Nat.reduceAdd, Nat.reduceLeDiff, Nat.reduceMul, Nat.reduceBEq, QXHHdP2, show ((0 : Int) == 0) = true from rfl] | refine rd0 rfl ?_))
      ((first | refine callK_v (beyond_ok 0 (s.heat.length : Int) [s.frm] (by simp)) (by simp [clr, clrs, ints]) (by simp [okV, okVs]) ?_ | refine callD_v (beyond_ok 0 (s.heat.length : Int) [s.frm] (by simp)) (by simp [clr, clrs, ints]) (by simp [okV, okVs]) ?_); (repeat (first | simp only [↓QA, QB, Nat.reduceLT, reduceIte, Nat.reduceEqDiff, Nat.reduceAdd, Nat.reduceLeDiff, Nat.reduceMul, Nat.reduceBEq, QXHHdP2, beyond1] | refine rd0 rfl ?_)))
      cases h6 : inR s.frm 0 s.heat.length
      ·(repeat (first | simp only [↓QA, QB, Nat.reduceLT, reduceIte, Nat.reduceEqDiff, Nat.reduceAdd, Nat.reduceLeDiff, Nat.reduceMul, Nat.reduceBEq, QXHHdP2] | refine rd0 rfl ?_))
       simp [check3, h6, enc3]
      ·have hc : check3 s = check4 s := by simp [check3, h6]
       rw [hc]
       (repeat (first | simp only [↓QA, QB, Nat.reduceLT, reduceIte, Nat.reduceEqDiff, Nat.reduceAdd, Nat.reduceLeDiff, Nat.reduceMul, Nat.reduceBEq, QXHHdP2] | refine rd0 rfl ?_))
       refine callK_same f2 ?_
       (repeat (first | simp only [↓QA, QB, Nat.reduceLT, reduceIte, Nat.reduceEqDiff, Nat.reduceAdd, Nat.reduceLeDiff, Nat.reduceMul, Nat.reduceBEq, QXHHdP2, enc2] | refine rd0 rfl ?_))
       cases h7 : inR s.holds.length 1 4
       ·have e1 : failing 1 4 (fun _ => holdErr) s.holds = (0, 3) := by simp only [failing, h7, if_true]
        have e2 : check4 s = (4, 0, 3) := by simp only [check4, h7, if_true]
        rw [e1, e2]
        (repeat (first | simp only [↓QA, QB, Nat.reduceLT, reduceIte, Nat.reduceEqDiff, Nat.reduceAdd, Nat.reduceLeDiff, Nat.reduceMul, Nat.reduceBEq, QXHHdP2, show ((3 : Int) == 0) = false from rfl, enc3] | refine rd0 rfl ?_))
       ·cases h8 : firstBad (fun _ => holdErr) s.holds 0 with
        | some p =>
         obtain ⟨i, e⟩ := p
         have hne : (e == 0) = false := by simpa using firstBad_nz h8
         have e1 : failing 1 4 (fun _ => holdErr) s.holds = ((i : Int), e) := by simp only [failing, h7, h8]; rfl
         have e2 : check4 s = (4, (i : Int), e) := by simp only [check4, h7, h8]; rfl
         rw [e1, e2]
         (repeat (first | simp only [↓QA, QB, Nat.reduceLT, reduceIte, Nat.reduceEqDiff, Nat.reduceAdd, Nat.reduceLeDiff, Nat.reduceMul, Nat.reduceBEq, QXHHdP2, hne, enc3] | refine rd0 rfl ?_))
        | none =>
         have e1 : failing 1 4 (fun _ => holdErr) s.holds = (0, 0) := by simp only [failing, h7, h8]; rfl
         have e2 : check4 s = check5 s := by simp only [check4, h7, h8]; rfl
         rw [e1, e2]
         (repeat (first | simp only [↓QA, QB, Nat.reduceLT, reduceIte, Nat.reduceEqDiff, Nat.reduceAdd, Nat.reduceLeDiff, Nat.reduceMul, Nat.reduceBEq, QXHHdP2, show ((0 : Int) == 0) = true from rfl] | refine rd0 rfl ?_))
         refine callK_same f3 ?_
         (repeat (first | simp only [↓QA, QB, Nat.reduceLT, reduceIte, Nat.reduceEqDiff, Nat.reduceAdd, Nat.reduceLeDiff, Nat.reduceMul, Nat.reduceBEq, QXHHdP2, enc2] | refine rd0 rfl ?_))
         by_cases h9 : 5 < s.log.length
         ·have hi : inR s.log.length 0 5 = false := by simp [inR]; omega
          have e1 : failing 0 5 (lineErr s) s.log = (0, 3) := by simp only [failing, hi, if_true]
          have e2 : check5 s = (5, 0, 3) := by simp only [check5, h9, if_true]
          rw [e1, e2]
          (repeat (first | simp only [↓QA, QB, Nat.reduceLT, reduceIte, Nat.reduceEqDiff, Nat.reduceAdd, Nat.reduceLeDiff, Nat.reduceMul, Nat.reduceBEq, QXHHdP2, show ((3 : Int) == 0) = false from rfl, enc3] | refine rd0 rfl ?_))
         ·have hi : inR s.log.length 0 5 = true := by simp [inR]; omega
          cases h10 : firstBad (lineErr s) s.log 0 with
          | some p =>
           obtain ⟨i, e⟩ := p
           have hne : (e == 0) = false := by simpa using firstBad_nz h10
           have e1 : failing 0 5 (lineErr s) s.log = ((i : Int), e) := by simp only [failing, hi, h10]; rfl
           have e2 : check5 s = (5, (i : Int), e) := by simp only [check5, h9, if_false, h10]
           rw [e1, e2]
           (repeat (first | simp only [↓QA, QB, Nat.reduceLT, reduceIte, Nat.reduceEqDiff, Nat.reduceAdd, Nat.reduceLeDiff, Nat.reduceMul, Nat.reduceBEq, QXHHdP2, hne, enc3] | refine rd0 rfl ?_))
          | none =>
           have e1 : failing 0 5 (lineErr s) s.log = (0, 0) := by simp only [failing, hi, h10]; rfl
           have e2 : check5 s = (0, 0, 0) := by simp only [check5, h9, if_false, h10]
           rw [e1, e2]
           (repeat (first | simp only [↓QA, QB, Nat.reduceLT, reduceIte, Nat.reduceEqDiff, Nat.reduceAdd, Nat.reduceLeDiff, Nat.reduceMul, Nat.reduceBEq, QXHHdP2, show ((0 : Int) == 0) = true from rfl, enc3] | refine rd0 rfl ?_))
theorem ptowards_ok (a b n : Int) (h0 : -1000000 ≤ a ∧ a ≤ 1000000) (h1 : -1000000 ≤ n ∧ n ≤ 1000000) : Pure T 106 [.int .i64 a, .int .i64 b, .int .i64 n] (.int .i64 (towards a b n)) := by
 refine pure_fn (af := a106) rfl (by simp [a106]) dd ?_
 have w1 : IntKind.i64.wrap (a + n) = a + n := wrap64 ⟨by omega, by omega⟩
 have w2 : IntKind.i64.wrap (a - n) = a - n := wrap64 ⟨by omega, by omega⟩
 (repeat (first | simp only [↓QA, QB, Nat.reduceLT, reduceIte, Nat.reduceEqDiff, Nat.reduceAdd, Nat.reduceLeDiff, Nat.reduceMul, Nat.reduceBEq, QXHHdP2, a106, w1, w2] | refine rd0 rfl ?_))
 refine iteP_intro (fun h => ?_) fun h => ?_
 all_goals
  have h' := h
  simp only [decide_eq_true_eq, decide_eq_false_iff_not] at h'
  (repeat (first | simp only [↓QA, QB, Nat.reduceLT, reduceIte, Nat.reduceEqDiff, Nat.reduceAdd, Nat.reduceLeDiff, Nat.reduceMul, Nat.reduceBEq, QXHHdP2, h, w1, w2] | refine rd0 rfl ?_))
  simp [towards, h']
def sb (s : Ship) (but cl m : Nat) : List AV := shipCells s ++ [.int .i64 but, .int .i64 cl, .map m]
theorem sb_len (s : Ship) (b c m : Nat) : (sb s b c m).length = 10 := by simp [sb, shipCells]
theorem sb_0 (s : Ship) (b c m : Nat) : (sb s b c m)[0]? = some (.int .i64 s.cold) := by simp [sb, shipCells]
theorem sb_1 (s : Ship) (b c m : Nat) : (sb s b c m)[1]? = some (.int .i64 s.power) := by simp [sb, shipCells]
theorem sb_2 (s : Ship) (b c m : Nat) : (sb s b c m)[2]? = some (.int .i64 s.warm) := by simp [sb, shipCells]
theorem sb_3 (s : Ship) (b c m : Nat) : (sb s b c m)[3]? = some (.lit (s.heat.map (.int .i64)) false none) := by simp [sb, shipCells, ints]
theorem sb_4 (s : Ship) (b c m : Nat) : (sb s b c m)[4]? = some (.int .i64 s.frm) := by simp [sb, shipCells]
theorem sb_5 (s : Ship) (b c m : Nat) : (sb s b c m)[5]? = some (.lit (s.holds.map encHold) false none) := by simp [sb, shipCells]
theorem sb_6 (s : Ship) (b c m : Nat) : (sb s b c m)[6]? = some (.lit (s.log.map encLine) false none) := by simp [sb, shipCells]
theorem sb_7 (s : Ship) (b c m : Nat) : (sb s b c m)[7]? = some (.int .i64 b) := by simp [sb, shipCells]
theorem sb_8 (s : Ship) (b c m : Nat) : (sb s b c m)[8]? = some (.int .i64 c) := by simp [sb, shipCells]
theorem sb_9 (s : Ship) (b c m : Nat) : (sb s b c m)[9]? = some (.map m) := by simp [sb, shipCells]
theorem sb_ok (s : Ship) (b c : Nat) {m k : Nat} (h : m < k) : okVs k (sb s b c m) := by
 have := okVs_up (m := k) _ (data_ship s).1
 refine okVs_app this ?_
 simp [okVs, okV, h]
def lookSt (σ : St) (s : Ship) (b : Nat) : St := σ ++ [.cells (shipCells s), .map [], .cells (sb s b 0 (σ.length + 1))]
theorem look_run (σ : St) (s : Ship) (b : Nat) : Does T (.func 85 [] []) [encShip s, .int .i64 b] σ (.ptr (σ.length + 2) 0) (lookSt σ s b) := by
 refine .callf (.call (af := a85) rfl (by simp [a85]) (run_wp (K := fun j e σ1 => (j = none ∨ j = some .ret) ∧ Env.get e 4 = .ptr (σ.length + 2) 0 ∧ σ1 = lookSt σ s b) ?_ fun o ho => ho) fun o ho => ?_)
 ·(repeat (first | simp only [↓QA, QB, Nat.reduceLT, reduceIte, Nat.reduceEqDiff, Nat.reduceAdd, Nat.reduceLeDiff, Nat.reduceMul, Nat.reduceBEq, QXHHdP2, a85, List.length_append, lookSt, sb] | refine rd0 rfl ?_))
  try simp [sb, shipCells, ints]
 ·refine ⟨ho.1, _, ?_, .inl ⟨ho.2.1, ho.2.2⟩⟩
  rfl
end Go.Am.Room
set_option maxRecDepth 4000
namespace Go.Am.Room
structure Way where
 h : Int
 n : Int
 c : Bool
 deriving DecidableEq
def encWay (w : Way) : AV := .agg [.int .i64 w.h, .int .i64 w.n, .bool w.c]
theorem encWay_eq (w : Way) : encWay w = .agg [.int .i64 w.h, .int .i64 w.n, .bool w.c] := by simp only [encWay]
def arr7 (f : Nat → Int) : List AV := [.int .i64 (f 0), .int .i64 (f 1), .int .i64 (f 2), .int .i64 (f 3), .int .i64 (f 4), .int .i64 (f 5), .int .i64 (f 6)]
def encCrs (f : Nat → Int) : AV := .agg (arr7 f)
theorem encCrs_eq (f : Nat → Int) : encCrs f = .agg (arr7 f) := by simp only [encCrs]
theorem data_crs (f : Nat → Int) : Data (encCrs f) := data_agg (datas_cons (data_int _ _) (datas_cons (data_int _ _) (datas_cons (data_int _ _) (datas_cons (data_int _ _) (datas_cons (data_int _ _) (datas_cons (data_int _ _) (datas_cons (data_int _ _) datas_nil)))))))
instance (f : Nat → Int) : Dat (encCrs f) := ⟨data_crs f⟩
def crs (s : Ship) (w : Way) (i : Nat) : Int := marksAt s w.h.toNat w.n w.c (min i s.heat.length)
def crsOf (s : Ship) (w : Way) : AV := encCrs (crs s w)
theorem crsOf_eq (s : Ship) (w : Way) : crsOf s w = .agg (arr7 (crs s w)) := by simp only [crsOf, encCrs]
abbrev Memo := List Way
def memoEs (s : Ship) (M : Memo) : List (AV × AV) := M.map fun w => (encWay w, crsOf s w)
def memoStep (M : Memo) (w : Way) : Memo := if w ∈ M then M else M ++ [w]
theorem eqWay (w x : Way) : eqSh (.agg [.i, .i, .b]) (encWay w) (encWay x) = some (decide (w = x)) := by
 obtain ⟨a, b, c⟩ := w
 obtain ⟨a', b', c'⟩ := x
 have key : ∀ p q : Bool, p = q → some p = some q := fun p q h => by rw [h]
 simp only [eqSh, encWay, V_eqC1, V_eqC0, V_eqI, V_eqB, V_oand]
 refine key _ _ ?_
 rw [Bool.eq_iff_iff]
 simp [Way.mk.injEq, and_assoc]
theorem findWay (s : Ship) (w : Way) : ∀ M : Memo, findKey (.agg [.i, .i, .b]) (encWay w) (memoEs s M) = some (if w ∈ M then some (crsOf s w) else none)
 | [] => by simp [memoEs, findKey]
 | x :: M => by
  have ih := findWay s w M
  simp only [memoEs, List.map_cons, findKey, eqWay] at ih ⊢
  by_cases h : w = x
  ·subst h; simp
  ·simp only [h, decide_false, ih, List.mem_cons, false_or]
theorem setWay (s : Ship) (w : Way) : ∀ M : Memo, w ∉ M → setKey (.agg [.i, .i, .b]) (encWay w) (crsOf s w) (memoEs s M) = some (memoEs s (M ++ [w]))
 | [], _ => by simp [memoEs, setKey]
 | x :: M, h => by
  have ih := setWay s w M (fun q => h (List.mem_cons_of_mem _ q))
  have hx : w ≠ x := fun e => h (by rw [e]; simp)
  simp only [memoEs, List.map_cons, setKey, eqWay, List.cons_append] at ih ⊢
  simp only [hx, decide_false, ih, Option.map_some]
structure ShipAt (S : Memo → St) (s : Ship) (b c p m N : Nat) : Prop where
 len : ∀ M, (S M).length = N
 at0 : ∀ M, cellsAt (S M) p = some (sb s b c m)
 map0 : ∀ M, (S M)[m]? = some (.map (memoEs s M))
 mset : ∀ M M', (S M).set m (.map (memoEs s M')) = S M'
 pl : p < N
 ml : m < N
namespace ShipAt
variable {S : Memo → St} {s : Ship} {b c p m N : Nat}
theorem base (h : ShipAt S s b c p m N) (M : Memo) (τ : St) (k : Nat) : cellsAt (S M ++ τ) (N + k) = cellsAt τ k := by rw [← h.len M]; exact M_base _ _ _
theorem base0 (h : ShipAt S s b c p m N) (M : Memo) (τ : St) : cellsAt (S M ++ τ) N = cellsAt τ 0 := h.base M τ 0
theorem bset (h : ShipAt S s b c p m N) (M : Memo) (τ : St) (k : Nat) (x : ABlk) : (S M ++ τ).set (N + k) x = S M ++ τ.set k x := by rw [← h.len M]; exact st_set _ _ _ _
theorem bset0 (h : ShipAt S s b c p m N) (M : Memo) (τ : St) (x : ABlk) : (S M ++ τ).set N x = S M ++ τ.set 0 x := h.bset M τ 0 x
theorem at1 (h : ShipAt S s b c p m N) (M : Memo) (τ : St) : cellsAt (S M ++ τ) p = some (sb s b c m) := by
 have := h.at0 M
 have hl := h.pl
 rw [← h.len M] at hl
 simp only [cellsAt] at this ⊢
 rw [List.getElem?_append_left hl]
 exact this
theorem map1 (h : ShipAt S s b c p m N) (M : Memo) (τ : St) : (S M ++ τ)[m]? = some (.map (memoEs s M)) := by
 have hl := h.ml
 rw [← h.len M] at hl
 rw [List.getElem?_append_left hl]
 exact h.map0 M
theorem mset1 (h : ShipAt S s b c p m N) (M M' : Memo) (τ : St) : (S M ++ τ).set m (.map (memoEs s M')) = S M' ++ τ := by
 have hl := h.ml
 rw [← h.len M] at hl
 rw [List.set_append_left _ _ hl, h.mset]
theorem look1 (h : ShipAt S s b c p m N) (M : Memo) (τ : St) (w : Way) : lookAV (.agg [.i, .i, .b]) (S M ++ τ) (.map m) (encWay w) = some (if w ∈ M then some (crsOf s w) else none) := by
 simp only [lookAV, h.map1, findWay, eqWay]
 simp
theorem put1 (h : ShipAt S s b c p m N) (M : Memo) (τ : St) (w : Way) (hw : w ∉ M) : vMapset (.agg [.i, .i, .b]) (S M ++ τ) (.map m) (encWay w) (crsOf s w) = some (S (M ++ [w]) ++ τ) := by
 simp only [vMapset, eqWay, h.map1, setWay s w M hw, Option.map_some, h.mset1]
 simp
theorem keep (h : ShipAt S s b c p m N) (M M' : Memo) (i : Nat) (hi : i ≠ m) : (S M')[i]? = (S M)[i]? := by
 rw [← h.mset M M', List.getElem?_set_ne (fun e => hi e.symm)]
theorem memo_ok (s : Ship) (M : Memo) (k : Nat) : okBlk k (.map (memoEs s M)) := by
 simp only [okBlk, memoEs]
 intro q hq
 obtain ⟨w, hw, rfl⟩ := List.mem_map.1 hq
 simp [encWay, crsOf, encCrs, arr7, okV, okVs]
theorem kept (h : ShipAt S s b c p m N) {M M' : Memo} {σ τ : St} (hσ : σ = S M' ++ τ) : ∀ i, i < (S M).length → blkKept (S M) σ (S M).length i := by
 intro i hi
 rw [hσ]
 have hl : i < (S M').length := by rw [h.len] at hi ⊢; exact hi
 by_cases him : i = m
 ·subst him
  refine .inr (.inl ⟨.map (memoEs s M'), ?_, memo_ok s M' _⟩)
  rw [List.getElem?_append_left hl, h.map0]
 ·refine .inl ?_
  rw [List.getElem?_append_left hl, h.keep M M' i him]
end ShipAt
theorem cases7 {P : Nat → Prop} (h0 : P 0) (h1 : P 1) (h2 : P 2) (h3 : P 3) (h4 : P 4) (h5 : P 5) (h6 : P 6) : ∀ d, d < 7 → P d
 | 0, _ => h0 | 1, _ => h1 | 2, _ => h2 | 3, _ => h3 | 4, _ => h4 | 5, _ => h5 | 6, _ => h6
 | d + 7, h => by omega
theorem arr_len (f : Nat → Int) : (arr7 f).length = 7 := rfl
theorem arr_get (f : Nat → Int) : ∀ i, i < 7 → (arr7 f)[i]? = some (.int .i64 (f i)) := by refine cases7 ?_ ?_ ?_ ?_ ?_ ?_ ?_ <;> rfl
def updF (f : Nat → Int) (i : Nat) (v : Int) : Nat → Int := fun j => if j = i then v else f j
theorem arr_set (f : Nat → Int) (v : Int) : ∀ i, i < 7 → (arr7 f).take i ++ [AV.int .i64 v] ++ (arr7 f).drop (i + 1) = arr7 (updF f i v) := by
 refine cases7 ?_ ?_ ?_ ?_ ?_ ?_ ?_ <;> simp [arr7, updF]
theorem arr_congr {f g : Nat → Int} (h : ∀ i, i < 7 → f i = g i) : arr7 f = arr7 g := by
 simp only [arr7, h 0 (by omega), h 1 (by omega), h 2 (by omega), h 3 (by omega), h 4 (by omega), h 5 (by omega), h 6 (by omega)]
theorem arr_zero : arr7 (fun _ => 0) = [.int .i64 0, .int .i64 0, .int .i64 0, .int .i64 0, .int .i64 0, .int .i64 0, .int .i64 0] := rfl
theorem arr_ok (f : Nat → Int) (m : Nat) : okVs m (arr7 f) := by simp [arr7, okVs, okV]
theorem arr_cell (f : Nat → Int) : allCell (arr7 f) = true := by simp [arr7, allCell, AV.cell]
theorem arr_take (f : Nat → Int) : (arr7 f).take 7 = arr7 f := rfl
theorem arr_drop (f : Nat → Int) : (arr7 f).drop 7 = [] := rfl
def crsTo (s : Ship) (w : Way) (i : Nat) : Nat → Int := fun j => if j ≤ i then crs s w j else 0
theorem crsTo_succ (s : Ship) (w : Way) (i : Nat) : updF (crsTo s w i) (i + 1) (crs s w (i + 1)) = crsTo s w (i + 1) := by
 funext j
 simp only [updF, crsTo]
 by_cases h1 : j = i + 1
 ·simp [h1]
 ·by_cases h2 : j ≤ i
  ·simp [h1, h2, show j ≤ i + 1 by omega]
  ·simp [h1, h2, show ¬ j ≤ i + 1 by omega]
end Go.Am.Room
set_option maxRecDepth 4000
namespace Go.Am.Room
def QXHHdP4 := And.intro @encShip_eq (And.intro @shipCells_eq (And.intro @encHold_eq (And.intro @encLine_eq (And.intro @encSpan_eq (And.intro @S_mapHold (And.intro @S_mapLine (And.intro @encWay_eq (And.intro @encCrs_eq (And.intro @List.length_append.{0} (And.intro @sb_0 (And.intro @sb_1 (And.intro @sb_2 (And.intro @sb_3 (And.intro @sb_4 (And.intro @sb_5 (And.intro @sb_6 (And.intro @sb_7 (And.intro @sb_8 (And.intro @sb_9 (And.intro @T_sapp (And.intro @Nat.add_lt_add_iff_left (And.intro @Nat.lt_add_right_iff_pos (And.intro @Nat.mul_one (And.intro @Int.toNat_natCast (And.intro @arr_len (And.intro @arr_take (And.intro @arr_drop (@arr_cell))))))))))))))))))))))))))))
theorem run_does {S : Memo → St} {s : Ship} {b c p m N : Nat} (hR : ShipAt S s b c p m N) (hv : Vd s) (M : Memo) (w : Way) (hw : 0 ≤ w.h ∧ w.h ≤ 100) (hn : 0 ≤ w.n ∧ w.n ≤ 80) :
  Does T (.func 101 [] []) [.ptr p 0, encWay w] (S M) (crsOf s w) (S (memoStep M w)) := by
 have hnh := hv.nheat
 have hcd := hv.cold
 have hwm := hv.warm
 have hpw := hv.power
 refine .callf (.call (af := a101) rfl (by simp [a101]) (run_wp (K := fun j e σ1 => (j = none ∨ j = some .ret) ∧ ∃ τ, resOf a101.results e σ1 = some (crsOf s w) ∧ σ1 = S (memoStep M w) ++ τ) ?_ fun o ho => ho) fun o ho => ?_)
 ·have hl1 := fun τ => hR.look1 M τ w
  simp only [encWay_eq, crsOf_eq] at hl1 ⊢
  (repeat (first | simp only [↓QA, QB, Nat.reduceLT, reduceIte, Nat.reduceEqDiff, Nat.reduceAdd, Nat.reduceLeDiff, Nat.reduceMul, Nat.reduceBEq, QXHHdP4, hR.len, hR.base, hR.base0, hR.bset, hR.bset0, hR.at1, hR.at0, hR.map1, hR.map0, a101] | refine rd0 rfl ?_))
  refine rK_dreg1 [.cells (arr7 fun _ => 0)] rfl ?_
  by_cases hm : w ∈ M
  ·have hst : memoStep M w = M := by simp [memoStep, hm]
   rw [hst]
   simp only [hm, if_true] at hl1
   (repeat (first | simp only [↓QA, QB, Nat.reduceLT, reduceIte, Nat.reduceEqDiff, Nat.reduceAdd, Nat.reduceLeDiff, Nat.reduceMul, Nat.reduceBEq, QXHHdP4, hR.len, hR.base, hR.base0, hR.bset, hR.bset0, hR.at1, hR.at0, hR.map1, hR.map0, hl1, V_lookS, V_lookN, ← arr_zero] | refine rd0 rfl ?_))
   exact ⟨_, rfl⟩
  ·have hst : memoStep M w = M ++ [w] := by simp [memoStep, hm]
   have hput := fun τ => hR.put1 M τ w hm
   simp only [encWay_eq, crsOf_eq] at hput
   rw [hst]
   simp only [hm, if_false] at hl1
   have hset0 := arr_set (fun _ => 0) w.n 0 (by omega)
   have hbeg : updF (fun _ => 0) 0 w.n = crsTo s w 0 := by
    funext j
    simp only [updF, crsTo]
    by_cases hj : j = 0
    ·subst hj; simp [crs, marksAt]
    ·simp [hj]
   rw [hbeg] at hset0
   have i0 : (0 : Int) ≤ 0 ∧ (0 : Int) < ((7 : Nat) : Int) := ⟨by omega, by omega⟩
   (repeat (first | simp only [↓QA, QB, Nat.reduceLT, reduceIte, Nat.reduceEqDiff, Nat.reduceAdd, Nat.reduceLeDiff, Nat.reduceMul, Nat.reduceBEq, QXHHdP4, hR.len, hR.base, hR.base0, hR.bset, hR.bset0, hR.at1, hR.at0, hR.map1, hR.map0, hl1, V_lookS, V_lookN, ← arr_zero, hset0, i0, Int.toNat_zero] | refine rd0 rfl ?_))
   refine loopE (S := Nat) 0 (fun i => i ≤ 6) (fun i => 6 - i)
    (fun i => [(0, .ptr p 0), (3, .ptr N 0), (4, .ptr (N + 1) 0), (7, .ptr (N + 3) 0), (23, .int .i64 i)])
    (fun i => S M ++ [.cells [.int .i64 w.h, .int .i64 w.n, .bool w.c], .cells (arr7 fun _ => 0), .cells (arr7 fun _ => 0), .cells (arr7 (crsTo s w i))]) (Nat.zero_le _) rfl ?_ fun i hi => ?_
   ·try simp only [TrimX, QE, Nat.reduceLT, reduceIte, Nat.reduceEqDiff, Nat.reduceAdd, Nat.reduceLeDiff, Nat.reduceMul, Nat.reduceBEq, QXHHdP4, hR.len, hR.base, hR.base0, hR.bset, hR.bset0, hR.at1, hR.at0, hR.map1, hR.map0]
    try simp
   ·(repeat (first | simp only [↓QA, QB, Nat.reduceLT, reduceIte, Nat.reduceEqDiff, Nat.reduceAdd, Nat.reduceLeDiff, Nat.reduceMul, Nat.reduceBEq, QXHHdP4, hR.len, hR.base, hR.base0, hR.bset, hR.bset0, hR.at1, hR.at0, hR.map1, hR.map0, L101_0] | refine rd0 rfl ?_))
    refine iteP_intro (fun h => ?_) fun h => ?_
    ·have hi1 : i < 6 := by simp at h; omega
     have hwi : IntKind.i64.wrap ((i : Int) + 1) = ((i + 1 : Nat) : Int) := wrapN hi1 (by omega)
     have i1 : (0 : Int) ≤ (i : Int) ∧ (i : Int) < ((7 : Nat) : Int) := ⟨by omega, by omega⟩
     have i2 : (0 : Int) ≤ ((i + 1 : Nat) : Int) ∧ ((i + 1 : Nat) : Int) < ((7 : Nat) : Int) := ⟨by omega, by omega⟩
     have c1 : i ≤ 5 := by omega
     have hg := arr_get (crsTo s w i) i (by omega)
     have hgi : crsTo s w i i = crs s w i := by simp [crsTo]
     rw [hgi] at hg
     have hs := arr_set (crsTo s w i) (crs s w (i + 1)) (i + 1) (by omega)
     rw [crsTo_succ] at hs
     by_cases hlt : i < s.heat.length
     ·have g : decide ((s.heat.length : Int) ≤ (i : Int)) = false := by simp; omega
      have hci : crs s w i = marksAt s w.h.toNat w.n w.c i := by simp only [crs]; rw [Nat.min_eq_left (by omega)]
      have hci1 : crs s w (i + 1) = marksAt s w.h.toNat w.n w.c (i + 1) := by simp only [crs]; rw [Nat.min_eq_left (by omega)]
      have hmb := marks_bd hv (h := w.h.toNat) hn w.c i (by omega)
      rw [← hci] at hmb
      cases hc : w.c
      ·have hmk : crs s w (i + 1) = towards (crs s w i) s.heat[i] s.warm := by rw [hci1, hci, hc]; simp [marksAt, hlt]
       rw [hmk] at hs
       (repeat (first | simp only [↓QA, QB, Nat.reduceLT, reduceIte, Nat.reduceEqDiff, Nat.reduceAdd, Nat.reduceLeDiff, Nat.reduceMul, Nat.reduceBEq, QXHHdP4, hR.len, hR.base, hR.base0, hR.bset, hR.bset0, hR.at1, hR.at0, hR.map1, hR.map0, g, hlt, hc, hwi, i1, i2, c1, hg] | refine rd0 rfl ?_))
       ((first | refine callK_d (ptowards_ok (crs s w i) s.heat[i] s.warm (by omega) (by omega)) rfl dd ?_ | refine callD_d (ptowards_ok (crs s w i) s.heat[i] s.warm (by omega) (by omega)) rfl dd ?_); (repeat (first | simp only [↓QA, QB, Nat.reduceLT, reduceIte, Nat.reduceEqDiff, Nat.reduceAdd, Nat.reduceLeDiff, Nat.reduceMul, Nat.reduceBEq, QXHHdP4, hR.len, hR.base, hR.base0, hR.bset, hR.bset0, hR.at1, hR.at0, hR.map1, hR.map0, g, hlt, hc, hwi, i1, i2, c1, hg, hs] | refine rd0 rfl ?_)))
       refine ⟨i + 1, by omega, by omega, ?_⟩
       try simp only [TrimX, QE, Nat.reduceLT, reduceIte, Nat.reduceEqDiff, Nat.reduceAdd, Nat.reduceLeDiff, Nat.reduceMul, Nat.reduceBEq, QXHHdP4, hR.len, hR.base, hR.base0, hR.bset, hR.bset0, hR.at1, hR.at0, hR.map1, hR.map0, hwi, hR.pl]
       have := hR.pl
       simp [okBlk, okVs, okV, arr_ok]
       try omega
      ·have hmk : crs s w (i + 1) = towards (crs s w i) s.cold (max 1 (s.power - w.h)) := by
        rw [hci1, hci, hc]; simp only [marksAt, if_true]; rw [Int.toNat_of_nonneg hw.1]
       have hws : IntKind.i64.wrap (s.power - w.h) = s.power - w.h := wrap64 ⟨by omega, by omega⟩
       rw [hmk] at hs
       (repeat (first | simp only [↓QA, QB, Nat.reduceLT, reduceIte, Nat.reduceEqDiff, Nat.reduceAdd, Nat.reduceLeDiff, Nat.reduceMul, Nat.reduceBEq, QXHHdP4, hR.len, hR.base, hR.base0, hR.bset, hR.bset0, hR.at1, hR.at0, hR.map1, hR.map0, g, hlt, hc, hwi, i1, i2, c1, hg, hws] | refine rd0 rfl ?_))
       ((first | refine callK_d (ptowards_ok (crs s w i) s.cold (max 1 (s.power - w.h)) (by omega) (by omega)) rfl dd ?_ | refine callD_d (ptowards_ok (crs s w i) s.cold (max 1 (s.power - w.h)) (by omega) (by omega)) rfl dd ?_); (repeat (first | simp only [↓QA, QB, Nat.reduceLT, reduceIte, Nat.reduceEqDiff, Nat.reduceAdd, Nat.reduceLeDiff, Nat.reduceMul, Nat.reduceBEq, QXHHdP4, hR.len, hR.base, hR.base0, hR.bset, hR.bset0, hR.at1, hR.at0, hR.map1, hR.map0, g, hlt, hc, hwi, i1, i2, c1, hg, hs, hws] | refine rd0 rfl ?_)))
       refine ⟨i + 1, by omega, by omega, ?_⟩
       try simp only [TrimX, QE, Nat.reduceLT, reduceIte, Nat.reduceEqDiff, Nat.reduceAdd, Nat.reduceLeDiff, Nat.reduceMul, Nat.reduceBEq, QXHHdP4, hR.len, hR.base, hR.base0, hR.bset, hR.bset0, hR.at1, hR.at0, hR.map1, hR.map0, hwi, hR.pl]
       have := hR.pl
       simp [okBlk, okVs, okV, arr_ok]
       try omega
     ·have g : decide ((s.heat.length : Int) ≤ (i : Int)) = true := by simp; omega
      have hmk : crs s w (i + 1) = crs s w i := by simp only [crs]; rw [Nat.min_eq_right (by omega), Nat.min_eq_right (by omega)]
      rw [hmk] at hs
      (repeat (first | simp only [↓QA, QB, Nat.reduceLT, reduceIte, Nat.reduceEqDiff, Nat.reduceAdd, Nat.reduceLeDiff, Nat.reduceMul, Nat.reduceBEq, QXHHdP4, hR.len, hR.base, hR.base0, hR.bset, hR.bset0, hR.at1, hR.at0, hR.map1, hR.map0, g, hwi, i1, i2, c1, hg, hs] | refine rd0 rfl ?_))
      refine ⟨i + 1, by omega, by omega, ?_⟩
      try simp only [TrimX, QE, Nat.reduceLT, reduceIte, Nat.reduceEqDiff, Nat.reduceAdd, Nat.reduceLeDiff, Nat.reduceMul, Nat.reduceBEq, QXHHdP4, hR.len, hR.base, hR.base0, hR.bset, hR.bset0, hR.at1, hR.at0, hR.map1, hR.map0, hwi, hR.pl]
      have := hR.pl
      simp [okBlk, okVs, okV, arr_ok]
      try omega
    ·have hi1 : i = 6 := by simp at h; omega
     subst hi1
     have harr : arr7 (crsTo s w 6) = arr7 (crs s w) := arr_congr fun j hj => by simp [crsTo, show j ≤ 6 by omega]
     rw [harr]
     (repeat (first | simp only [↓QA, QB, Nat.reduceLT, reduceIte, Nat.reduceEqDiff, Nat.reduceAdd, Nat.reduceLeDiff, Nat.reduceMul, Nat.reduceBEq, QXHHdP4, hR.len, hR.base, hR.base0, hR.bset, hR.bset0, hR.at1, hR.at0, hR.map1, hR.map0, hput] | refine rd0 rfl ?_))
     exact ⟨_, rfl⟩
 ·obtain ⟨hj, τ, hres, hσ⟩ := ho
  refine ⟨hj, crsOf s w, hres, .inr ⟨20, crsOf s w, crsOf s w, ?_, .inl rfl, ?_, ?_, rfl, ?_⟩⟩
  ·simp [crsOf, encCrs, arr7, snap, snaps]
  ·exact hR.kept hσ
  ·rw [hσ, List.length_append, hR.len, hR.len]; omega
  ·rw [hσ, hR.len, ← hR.len (memoStep M w), List.take_left]
theorem ofInt_nat {a : Nat} (h : a < 9223372036854775808) : (BitVec.ofInt 64 (a : Int)).toNat = a := by
 rw [BitVec.toNat_ofInt]
 omega
theorem V_and (a b : Nat) (ha : a < 9223372036854775808) (hb : b < 9223372036854775808) : binAV .and (.int .i64 (a : Int)) (.int .i64 (b : Int)) = some (.int .i64 ((a &&& b : Nat) : Int)) := by
 have h1 : (BitVec.ofInt 64 (a : Int) &&& BitVec.ofInt 64 (b : Int)).toNat = a &&& b := by rw [BitVec.toNat_and, ofInt_nat ha, ofInt_nat hb]
 have h2 : a &&& b ≤ a := Nat.and_le_left
 have h3 : Go.Am.bits .and .i64 (a : Int) (b : Int) = ((a &&& b : Nat) : Int) := by
  show IntKind.i64.wrap (((BitVec.ofInt 64 (a : Int) &&& BitVec.ofInt 64 (b : Int)).toNat : Nat) : Int) = _
  rw [h1]
  exact wrap64 ⟨by omega, by omega⟩
 simp [binAV, binInt, h3]
theorem V_or (a b : Nat) (ha : a < 4611686018427387904) (hb : b < 4611686018427387904) : binAV .or (.int .i64 (a : Int)) (.int .i64 (b : Int)) = some (.int .i64 ((a ||| b : Nat) : Int)) := by
 have h1 : (BitVec.ofInt 64 (a : Int) ||| BitVec.ofInt 64 (b : Int)).toNat = a ||| b := by rw [BitVec.toNat_or, ofInt_nat (by omega), ofInt_nat (by omega)]
 have h2 : a ||| b < 2 ^ 62 := Nat.or_lt_two_pow (by omega) (by omega)
 have h3 : Go.Am.bits .or .i64 (a : Int) (b : Int) = ((a ||| b : Nat) : Int) := by
  show IntKind.i64.wrap (((BitVec.ofInt 64 (a : Int) ||| BitVec.ofInt 64 (b : Int)).toNat : Nat) : Int) = _
  rw [h1]
  exact wrap64 ⟨by omega, by omega⟩
 simp [binAV, binInt, h3]
def andN (a b : Nat) : Nat := a &&& (2 ^ 64 - (b + 1))
theorem andN_bit {b : Nat} (hb : b < 9223372036854775808) (a i : Nat) (ha : a < 9223372036854775808) : (andN a b).testBit i = (a.testBit i && !b.testBit i) := by
 rw [andN, Nat.testBit_and, Nat.testBit_two_pow_sub_succ (by omega)]
 by_cases hi : i < 64
 ·simp [hi]
 ·have : a.testBit i = false := Nat.testBit_lt_two_pow (Nat.lt_of_lt_of_le (show a < 2 ^ 63 by omega) (Nat.pow_le_pow_right (by omega) (by omega)))
  simp [this]
theorem andN_le (a b : Nat) : andN a b ≤ a := Nat.and_le_left
theorem V_andNot (a b : Nat) (ha : a < 9223372036854775808) (hb : b < 9223372036854775808) : binAV .andNot (.int .i64 (a : Int)) (.int .i64 (b : Int)) = some (.int .i64 ((andN a b : Nat) : Int)) := by
 have h1 : (BitVec.ofInt 64 (a : Int) &&& ~~~BitVec.ofInt 64 (b : Int)).toNat = andN a b := by
  rw [BitVec.toNat_and, BitVec.toNat_not, ofInt_nat ha, ofInt_nat hb, andN]
  congr 1
  omega
 have h2 := andN_le a b
 have h3 : Go.Am.bits .andNot .i64 (a : Int) (b : Int) = ((andN a b : Nat) : Int) := by
  show IntKind.i64.wrap (((BitVec.ofInt 64 (a : Int) &&& ~~~BitVec.ofInt 64 (b : Int)).toNat : Nat) : Int) = _
  rw [h1]
  exact wrap64 ⟨by omega, by omega⟩
 simp [binAV, binInt, h3]
theorem pow_small {i : Nat} (h : i ≤ 60) : 2 ^ i ≤ 1152921504606846976 := by
 calc 2 ^ i ≤ 2 ^ 60 := Nat.pow_le_pow_right (by omega) h
  _ = 1152921504606846976 := by decide
theorem V_shl1 (i : Nat) (h : i ≤ 60) : binAV .shl (.int .i64 1) (.int .i64 (i : Int)) = some (.int .i64 ((2 ^ i : Nat) : Int)) := by
 have hm : Nat.min i 64 = i := Nat.min_eq_left (by omega)
 have h0 : ¬ (i : Int) < 0 := by omega
 have hp := pow_small h
 have hc : (1 : Int) * 2 ^ i = ((2 ^ i : Nat) : Int) := by rw [Int.one_mul]; exact (Int.natCast_pow 2 i).symm
 simp only [binAV, h0, if_false, IntKind.bits, Int.toNat_natCast, hm, hc]
 generalize 2 ^ i = q at hp
 rw [wrap64 ⟨by omega, by omega⟩]
theorem bit_div (a i : Nat) : a.testBit i = decide (a / 2 ^ i % 2 = 1) := Nat.testBit_eq_decide_div_mod_eq
theorem and_zero {a b : Nat} : a &&& b = 0 ↔ ∀ i, ¬ (a.testBit i = true ∧ b.testBit i = true) := by
 constructor
 ·intro h i hi
  have := congrArg (fun x => x.testBit i) h
  simp [Nat.testBit_and, hi.1, hi.2] at this
 ·intro h
  refine Nat.eq_of_testBit_eq fun i => ?_
  rw [Nat.testBit_and, Nat.zero_testBit]
  have := h i
  cases h1 : a.testBit i <;> cases h2 : b.testBit i <;> simp_all
theorem low_zero {a k : Nat} : a &&& (2 ^ k - 1) = 0 ↔ ∀ i, i < k → a.testBit i = false := by
 rw [and_zero]
 constructor
 ·intro h i hi
  have := h i
  rw [Nat.testBit_two_pow_sub_one] at this
  simpa [hi] using this
 ·intro h i hi
  rw [Nat.testBit_two_pow_sub_one] at hi
  have h2 : i < k := by simpa using hi.2
  rw [h i h2] at hi
  simp at hi
end Go.Am.Room
set_option maxRecDepth 4000
namespace Go.Am.Room
theorem ShipAt.app {S : Memo → St} {s : Ship} {b c p m N : Nat} (h : ShipAt S s b c p m N) (τ : St) : ShipAt (fun M => S M ++ τ) s b c p m (N + τ.length) :=
 ⟨fun M => by rw [List.length_append, h.len], fun M => h.at1 M τ, fun M => h.map1 M τ, fun M M' => h.mset1 M M' τ, by have := h.pl; omega, by have := h.ml; omega⟩
theorem ShipAt.eqS {S : Memo → St} {s : Ship} {b c p m N : Nat} (h : ShipAt S s b c p m N) (k : Nat) (M M' : Memo) (x y z : St) : EqS k (S M ++ x) (S M' ++ y) (S M' ++ z) = EqS k x y z := by
 rw [← h.mset M M']
 exact eqS_set k _ (ShipAt.memo_ok s M' k) _ _ _ _ _
structure ButIs (b : Nat) (bl : List Int) : Prop where
 lt : b < 9223372036854775808
 bit : ∀ i : Nat, i < 5 → (((b / 2 ^ i % 2 : Nat) : Int) == 0) = !bl.contains (i : Int)
def linesUpTo (s : Ship) (h : Nat) (c : Nat → Int) (but : List Int) (k : Nat) : Bool := (List.range k).all fun i => match s.log[i]? with | some x => lineOk h c but i x | none => true
theorem linesUpTo_succ {s : Ship} {k : Nat} (hk : k < s.log.length) (h : Nat) (c : Nat → Int) (but : List Int) : linesUpTo s h c but (k + 1) = (linesUpTo s h c but k && lineOk h c but k s.log[k]) := by
 simp [linesUpTo, List.range_succ, List.all_append, hk]
theorem linesUpTo_le {s : Ship} {h : Nat} {c : Nat → Int} {but : List Int} {k j : Nat} (hkj : k ≤ j) (hf : linesUpTo s h c but k = false) : linesUpTo s h c but j = false := by
 simp only [linesUpTo, List.all_eq_false, List.mem_range] at hf ⊢
 obtain ⟨i, hi, h1⟩ := hf
 exact ⟨i, by omega, h1⟩
def okStart (s : Ship) (bl : List Int) (h : Nat) (c1 : Bool) (n : Int) : Bool := linesOk s h (marksAt s h n c1) bl
def crsStep (s : Ship) (bl : List Int) (h : Nat) (c1 c2 : Bool) (M : Memo) (n : Int) : Memo :=
 if okStart s bl h c1 n = true then memoStep (memoStep M ⟨h, n, c1⟩) ⟨h, n, c2⟩ else memoStep M ⟨h, n, c1⟩
def rangeOf (x : Hold) : List Int := numbers x.start.lo (x.start.hi + 1 - x.start.lo).toNat
def crsWays (s : Ship) (bl : List Int) (x : Hold) (h : Nat) (c1 c2 : Bool) : List Way := ((rangeOf x).filter (okStart s bl h c1)).map fun n => ⟨h, n, c2⟩
def crsMemo (s : Ship) (bl : List Int) (x : Hold) (h : Nat) (c1 c2 : Bool) (M : Memo) : Memo := (rangeOf x).foldl (crsStep s bl h c1 c2) M
def crssAV (s : Ship) (l : List Way) : AV := .lit (l.map (crsOf s)) false none
theorem data_crsOf (s : Ship) (w : Way) : Data (crsOf s w) := data_crs _
theorem data_crss (s : Ship) (l : List Way) : Data (crssAV s l) := data_list (data_crsOf s) l
theorem S_crs (s : Ship) (σ : St) (m d : Nat) (l : List Way) : snapMs σ m d (l.map (crsOf s)) = some (l.map (crsOf s)) := S_datas (datas_map (data_crsOf s) l) σ m d
theorem allCells_crs (s : Ship) (l : List Way) : allCells 7 (l.map (crsOf s)) = true := L_allM 7 (crsOf s) l fun x => by simp [cellsOk, crsOf, encCrs, arr7, AV.cells, AV.cell]
theorem beyond_near (a mk : Int) : beyond (mk - 1) (mk + 1) [a] = !inR (a - mk) (-1) 1 := by
 rw [beyond1]
 simp only [inR]
 rw [Bool.eq_iff_iff]
 simp
 omega
end Go.Am.Room
set_option maxRecDepth 4000
namespace Go.Am.Room
def QXHHdP6 := And.intro @encShip_eq (And.intro @shipCells_eq (And.intro @encHold_eq (And.intro @encLine_eq (And.intro @encSpan_eq (And.intro @S_mapHold (And.intro @S_mapLine (And.intro @List.length_append.{0} (And.intro @sb_0 (And.intro @sb_1 (And.intro @sb_2 (And.intro @sb_3 (And.intro @sb_4 (And.intro @sb_5 (And.intro @sb_6 (And.intro @sb_7 (And.intro @sb_8 (And.intro @sb_9 (And.intro @T_sapp (And.intro @Nat.add_lt_add_iff_left (And.intro @Nat.lt_add_right_iff_pos (And.intro @Nat.mul_one (And.intro @Int.toNat_natCast (And.intro @arr_len (And.intro @arr_take (And.intro @arr_drop (And.intro @arr_cell (And.intro @encWay_eq (And.intro @crsOf_eq (@S_crs)))))))))))))))))))))))))))))
theorem S_arr (f : Nat → Int) (σ : St) (m d : Nat) : snapMs σ m d (arr7 f) = some (arr7 f) := S_datas (datas_cons (data_int _ _) (datas_cons (data_int _ _) (datas_cons (data_int _ _) (datas_cons (data_int _ _) (datas_cons (data_int _ _) (datas_cons (data_int _ _) (datas_cons (data_int _ _) datas_nil))))))) σ m d
theorem does_memo {S : Memo → St} {s : Ship} {b c p m N : Nat} (hR : ShipAt S s b c p m N) {f : FuncId} {first cap args : List AV} {af : AFunc} {v : AV} {M M' : Memo} (hf : T f = some af) (hn : (first ++ args ++ cap).length ≤ af.ntmps)
  (h : wp T af.body (argsEnv 0 (first ++ args ++ cap)) (S M) (fun j e σ1 => (j = none ∨ j = some .ret) ∧ ∃ v0 τ, resOf af.results e σ1 = some v0 ∧ σ1 = S M' ++ τ ∧ snapM σ1 N 20 v0 = some v)) : Does T (.func f first cap) args (S M) v (S M') := by
 refine .callf (.call hf hn (run_wp h fun o ho => ho) fun o ho => ?_)
 obtain ⟨hj, v0, τ, hres, hσ, h4⟩ := ho
 refine ⟨hj, v0, hres, ?_⟩
 unfold snapM at h4
 cases hs : snap o.σ N 20 v0 with
 | none => rw [hs] at h4; cases h4
 | some v1 =>
  rw [hs] at h4
  simp at h4
  refine .inr ⟨20, v1, v, by rw [hR.len]; exact hs, .inr h4.symm, hR.kept hσ, ?_, rfl, ?_⟩
  ·rw [hσ, List.length_append, hR.len, hR.len]; omega
  ·rw [hσ, hR.len, ← hR.len M', List.take_left]
def coolB (set h : Nat) : Bool := decide (set &&& (2 ^ (h + 1) - 1) = 0)
theorem nat_eq0 (a : Nat) : ((a : Int) == 0) = decide (a = 0) := by rw [Bool.eq_iff_iff]; simp
theorem courses_does {S : Memo → St} {s : Ship} {b c p m N : Nat} (hR : ShipAt S s b c p m N) (hv : Vd s) (bl : List Int) (hb : ButIs b bl) (M : Memo) (h set : Nat) (hh : h < s.holds.length) (hset : set < 1000000) (hcl : c < 1000000) :
  Does T (.func 95 [] []) [.ptr p 0, .int .i64 h, .int .i64 set] (S M) (crssAV s (crsWays s bl s.holds[h] h (coolB set h) (coolB (andN set c) h))) (S (crsMemo s bl s.holds[h] h (coolB set h) (coolB (andN set c) h) M)) := by
 have hno := hv.nholds
 have hnh := hv.nheat
 have hnl := hv.nlog
 have hpl := hR.pl
 have hst := (hv.holds _ (List.getElem_mem hh)).start
 obtain ⟨x, hx⟩ : ∃ x, s.holds[h] = x := ⟨_, rfl⟩
 rw [hx] at hst ⊢
 obtain ⟨U, hU⟩ : ∃ U, 2 ^ (h + 1) - 1 = U := ⟨_, rfl⟩
 have hp2 := pow_small (show h + 1 ≤ 60 by omega)
 have hpos : 0 < 2 ^ (h + 1) := Nat.two_pow_pos _
 have hUl : U < 9223372036854775808 := by omega
 have hwU : IntKind.i64.wrap (((2 ^ (h + 1) : Nat) : Int) - 1) = (U : Int) := by
  have : ((2 ^ (h + 1) : Nat) : Int) - 1 = (U : Int) := by omega
  rw [this]
  exact wrap64 ⟨by omega, by omega⟩
 have hw1 : IntKind.i64.wrap ((h : Int) + 1) = ((h + 1 : Nat) : Int) := wrapN hh (by omega)
 have hsh := V_shl1 (h + 1) (by omega)
 have hand := V_and set U (by omega) hUl
 have hal := andN_le set c
 have hand2 := V_and (andN set c) U (by omega) hUl
 have hnot := V_andNot set c (by omega) (by omega)
 obtain ⟨c1, hc1⟩ : ∃ c1, coolB set h = c1 := ⟨_, rfl⟩
 obtain ⟨c2, hc2⟩ : ∃ c2, coolB (andN set c) h = c2 := ⟨_, rfl⟩
 have g1 : (((set &&& U : Nat) : Int) == 0) = c1 := by rw [nat_eq0, ← hc1, ← hU]; rfl
 have g2 : (((andN set c &&& U : Nat) : Int) == 0) = c2 := by rw [nat_eq0, ← hc2, ← hU]; rfl
 rw [hc1, hc2]
 obtain ⟨K, hK⟩ : ∃ K, (x.start.hi + 1 - x.start.lo).toNat = K := ⟨_, rfl⟩
 obtain ⟨q, hq⟩ : ∃ q : Int → Bool, okStart s bl h c1 = q := ⟨_, rfl⟩
 obtain ⟨W, hW⟩ : ∃ W, crsWays s bl x h c1 c2 = W := ⟨_, rfl⟩
 obtain ⟨E, hE⟩ : ∃ E, crsMemo s bl x h c1 c2 M = E := ⟨_, rfl⟩
 have hW' : [] ++ ((numbers (x.start.lo + ((0 : Nat) : Int)) (K - 0)).filter q).map (fun n => (⟨h, n, c2⟩ : Way)) = W := by rw [← hW, ← hq, ← hK]; simp [crsWays, rangeOf]
 have hE' : (numbers (x.start.lo + ((0 : Nat) : Int)) (K - 0)).foldl (crsStep s bl h c1 c2) M = E := by rw [← hE, ← hK]; simp [crsMemo, rangeOf]
 rw [hW, hE]
 refine does_memo hR (af := a95) rfl (by simp [a95]) ?_
 (repeat (first | simp only [↓QA, QB, Nat.reduceLT, reduceIte, Nat.reduceEqDiff, Nat.reduceAdd, Nat.reduceLeDiff, Nat.reduceMul, Nat.reduceBEq, QXHHdP6, hR.len, hR.base, hR.base0, hR.bset, hR.bset0, hR.at1, hR.at0, hR.map1, hR.map0, S_arr, a95, hw1, hsh, hwU, hh, hx] | refine rd0 rfl ?_))
 refine ghostK 6 7 [] rfl ?_
 refine loopE (S := Nat × List Way × Bool × Memo) (0, [], false, M) (fun a => a.1 ≤ K ∧ a.2.1.length ≤ a.1 ∧ a.2.1 ++ ((numbers (x.start.lo + (a.1 : Int)) (K - a.1)).filter q).map (fun n => (⟨h, n, c2⟩ : Way)) = W ∧ (numbers (x.start.lo + (a.1 : Int)) (K - a.1)).foldl (crsStep s bl h c1 c2) a.2.2.2 = E) (fun a => K - a.1)
  (fun a => [(0, .ptr p 0), (1, .int .i64 h), (2, .int .i64 set), (6, .lit (a.2.1.map (crsOf s)) false (some (N + 1))), (7, .int .i64 U), (8, .ptr N 0), (9, .int .i64 (x.start.lo + (a.1 : Int)))])
  (fun a => S a.2.2.2 ++ [.cells [.int .i64 x.start.lo, .int .i64 x.start.hi, .int .i64 x.duct, .int .i64 x.keep.lo, .int .i64 x.keep.hi], .tok 7 a.2.1.length a.2.2.1]) ⟨Nat.zero_le _, Nat.le_refl _, hW', hE'⟩ (by simp) ?_ fun a ha => ?_
 ·try simp only [TrimX, QE, Nat.reduceLT, reduceIte, Nat.reduceEqDiff, Nat.reduceAdd, Nat.reduceLeDiff, Nat.reduceMul, Nat.reduceBEq, QXHHdP6, hR.len, hR.base, hR.base0, hR.bset, hR.bset0, hR.at1, hR.at0, hR.map1, hR.map0, S_arr]
  try simp
 ·obtain ⟨k, acc, ex, M1⟩ := a
  obtain ⟨hk, hal, hacc, hmem⟩ := ha
  simp only at hk hal hacc hmem
  obtain ⟨n, hn⟩ : ∃ n, x.start.lo + (k : Int) = n := ⟨_, rfl⟩
  simp only [hn]
  rw [hn] at hacc hmem
  (repeat (first | simp only [↓QA, QB, Nat.reduceLT, reduceIte, Nat.reduceEqDiff, Nat.reduceAdd, Nat.reduceLeDiff, Nat.reduceMul, Nat.reduceBEq, QXHHdP6, hR.len, hR.base, hR.base0, hR.bset, hR.bset0, hR.at1, hR.at0, hR.map1, hR.map0, S_arr, L95_0] | refine rd0 rfl ?_))
  refine iteP_intro (fun hd => ?_) fun hd => ?_
  ·have hd' : n ≤ x.start.hi := by simpa using hd
   have hk1 : k < K := by omega
   have hn80 : 0 ≤ n ∧ n ≤ 80 := by omega
   have hw : IntKind.i64.wrap (n + 1) = n + 1 := wrap64 ⟨by omega, by omega⟩
   have hn1 : x.start.lo + ((k + 1 : Nat) : Int) = n + 1 := by omega
   rw [show K - k = (K - (k + 1)) + 1 by omega] at hacc hmem
   simp only [numbers, List.filter_cons, List.foldl_cons] at hacc hmem
   obtain ⟨M2, hM2⟩ : ∃ M2, memoStep M1 ⟨h, n, c1⟩ = M2 := ⟨_, rfl⟩
   have hrun := run_does (hR.app [.cells [.int .i64 x.start.lo, .int .i64 x.start.hi, .int .i64 x.duct, .int .i64 x.keep.lo, .int .i64 x.keep.hi], .tok 7 acc.length ex]) hv M1 ⟨h, n, c1⟩ (by simp only; omega) hn80
   rw [hM2] at hrun
   obtain ⟨f1, hf1⟩ : ∃ f1, crs s ⟨h, n, c1⟩ = f1 := ⟨_, rfl⟩
   have hrun2 := fun Mx => run_does (hR.app [.cells [.int .i64 x.start.lo, .int .i64 x.start.hi, .int .i64 x.duct, .int .i64 x.keep.lo, .int .i64 x.keep.hi], .tok 7 acc.length ex, .cells (arr7 f1)]) hv Mx ⟨h, n, c2⟩ (by simp only; omega) hn80
   try simp only [↓QA, QB, Nat.reduceLT, reduceIte, Nat.reduceEqDiff, Nat.reduceAdd, Nat.reduceLeDiff, Nat.reduceMul, Nat.reduceBEq, QXHHdP6, hR.len, hR.base, hR.base0, hR.bset, hR.bset0, hR.at1, hR.at0, hR.map1, hR.map0, S_arr] at hrun hrun2
   rw [hf1] at hrun
   have hq1 : q n = linesUpTo s h (marksAt s h n c1) bl s.log.length := by rw [← hq]; rfl
   have hstep : crsStep s bl h c1 c2 M1 n = if q n = true then memoStep M2 ⟨h, n, c2⟩ else M2 := by simp only [crsStep, hq, hM2]
   rw [hstep] at hmem
   have hap := fun (Mx : Memo) (τ : St) => append_at (σ := S Mx ++ (.cells [.int .i64 x.start.lo, .int .i64 x.start.hi, .int .i64 x.duct, .int .i64 x.keep.lo, .int .i64 x.keep.hi] :: .tok 7 acc.length ex :: τ)) (t := N + 1) (ex := ex) (sz := 7) (b := 56) (xs := acc.map (crsOf s)) (ys := [.agg (arr7 (crs s ⟨h, n, c2⟩))]) (f := true) (tk := none) ⟨allCells_crs s acc, by simp [allCells, AV.cells, AV.cell, arr7], by simp [room]; omega, by simp [room]; omega⟩ (by simp) acc.length (by simp) (by rw [← hR.len Mx, st_get]; rfl)
   try simp only [↓QA, QB, Nat.reduceLT, reduceIte, Nat.reduceEqDiff, Nat.reduceAdd, Nat.reduceLeDiff, Nat.reduceMul, Nat.reduceBEq, QXHHdP6, hR.len, hR.base, hR.base0, hR.bset, hR.bset0, hR.at1, hR.at0, hR.map1, hR.map0, S_arr] at hap
   (repeat (first | simp only [↓QA, QB, Nat.reduceLT, reduceIte, Nat.reduceEqDiff, Nat.reduceAdd, Nat.reduceLeDiff, Nat.reduceMul, Nat.reduceBEq, QXHHdP6, hR.len, hR.base, hR.base0, hR.bset, hR.bset0, hR.at1, hR.at0, hR.map1, hR.map0, S_arr, hand, g1] | refine rd0 rfl ?_))
   refine callK_do hrun ?_
   (repeat (first | simp only [↓QA, QB, Nat.reduceLT, reduceIte, Nat.reduceEqDiff, Nat.reduceAdd, Nat.reduceLeDiff, Nat.reduceMul, Nat.reduceBEq, QXHHdP6, hR.len, hR.base, hR.base0, hR.bset, hR.bset0, hR.at1, hR.at0, hR.map1, hR.map0, S_arr] | refine rd0 rfl ?_))
   refine loopE (S := Nat) 0 (fun i => i ≤ s.log.length ∧ linesUpTo s h (marksAt s h n c1) bl i = true) (fun i => s.log.length - i)
    (fun i => [(0, .ptr p 0), (1, .int .i64 h), (2, .int .i64 set), (6, .lit (acc.map (crsOf s)) false (some (N + 1))), (7, .int .i64 U), (8, .ptr N 0), (9, .int .i64 n), (10, .ptr (N + 2) 0), (48, .lit (s.log.map encLine) false none), (49, .int .i64 s.log.length), (50, .int .i64 i)])
    (fun i => S M2 ++ [.cells [.int .i64 x.start.lo, .int .i64 x.start.hi, .int .i64 x.duct, .int .i64 x.keep.lo, .int .i64 x.keep.hi], .tok 7 acc.length ex, .cells (arr7 f1)]) ⟨Nat.zero_le _, rfl⟩ (by simp) ?_ fun i hi => ?_
   ·try simp only [TrimX, QE, Nat.reduceLT, reduceIte, Nat.reduceEqDiff, Nat.reduceAdd, Nat.reduceLeDiff, Nat.reduceMul, Nat.reduceBEq, QXHHdP6, hR.len, hR.base, hR.base0, hR.bset, hR.bset0, hR.at1, hR.at0, hR.map1, hR.map0, S_arr]
    try simp
   ·obtain ⟨hi, hlu⟩ := hi
    (repeat (first | simp only [↓QA, QB, Nat.reduceLT, reduceIte, Nat.reduceEqDiff, Nat.reduceAdd, Nat.reduceLeDiff, Nat.reduceMul, Nat.reduceBEq, QXHHdP6, hR.len, hR.base, hR.base0, hR.bset, hR.bset0, hR.at1, hR.at0, hR.map1, hR.map0, S_arr, L95_2] | refine rd0 rfl ?_))
    refine iteP_intro (fun hd2 => ?_) fun hd2 => ?_
    ·have hi1 : i < s.log.length := by simpa using hd2
     have hwi := wrapN hi1 (by omega)
     have hln := hv.log _ (List.getElem_mem hi1)
     obtain ⟨y, hy⟩ : ∃ y, s.log[i] = y := ⟨_, rfl⟩
     have hsucc := linesUpTo_succ hi1 h (marksAt s h n c1) bl
     rw [hy] at hln hsucc
     rw [hlu, Bool.true_and] at hsucc
     have hdiv : b / 2 ^ i < 9223372036854775808 := Nat.lt_of_le_of_lt (Nat.div_le_self _ _) hb.lt
     have hbit := hb.bit i (by omega)
     have vs := V_shr b i (by omega)
     have va := V_and1 (b / 2 ^ i) hdiv
     have i1 : (0 : Int) ≤ y.watch ∧ y.watch < ((7 : Nat) : Int) := ⟨by omega, by omega⟩
     have hg := arr_get f1 y.watch.toNat (by omega)
     have hfw : f1 y.watch.toNat = marksAt s h n c1 y.watch.toNat := by rw [← hf1]; simp only [crs, Int.toNat_natCast]; rw [Nat.min_eq_left (by omega)]
     rw [hfw] at hg
     have hwm1 : IntKind.i64.wrap (y.marks - 1) = y.marks - 1 := wrap64 ⟨by omega, by omega⟩
     have hwm2 : IntKind.i64.wrap (y.marks + 1) = y.marks + 1 := wrap64 ⟨by omega, by omega⟩
     cases h1 : (y.hold == (h : Int))
     ·have h1' : ¬ y.hold = (h : Int) := by simpa using h1
      have hl : lineOk h (marksAt s h n c1) bl i y = true := by simp [lineOk, h1']
      rw [hl] at hsucc
      (repeat (first | simp only [↓QA, QB, Nat.reduceLT, reduceIte, Nat.reduceEqDiff, Nat.reduceAdd, Nat.reduceLeDiff, Nat.reduceMul, Nat.reduceBEq, QXHHdP6, hR.len, hR.base, hR.base0, hR.bset, hR.bset0, hR.at1, hR.at0, hR.map1, hR.map0, S_arr, hi1, hy, h1] | refine rd0 rfl ?_))
      refine ⟨i + 1, ⟨by omega, hsucc⟩, by omega, ?_⟩
      try simp only [TrimX, QE, Nat.reduceLT, reduceIte, Nat.reduceEqDiff, Nat.reduceAdd, Nat.reduceLeDiff, Nat.reduceMul, Nat.reduceBEq, QXHHdP6, hR.len, hR.base, hR.base0, hR.bset, hR.bset0, hR.at1, hR.at0, hR.map1, hR.map0, S_arr, hwi]
      try simp [okBlk, arr_ok]
      try omega
     ·have h1' : y.hold = (h : Int) := by simpa using h1
      cases h2 : bl.contains (i : Int)
      ·rw [h2] at hbit
       have hl : lineOk h (marksAt s h n c1) bl i y = inR (marksAt s h n c1 y.watch.toNat - y.marks) (-1) 1 := by simp only [lineOk, h1', h2]; simp
       rw [hl] at hsucc
       (repeat (first | simp only [↓QA, QB, Nat.reduceLT, reduceIte, Nat.reduceEqDiff, Nat.reduceAdd, Nat.reduceLeDiff, Nat.reduceMul, Nat.reduceBEq, QXHHdP6, hR.len, hR.base, hR.base0, hR.bset, hR.bset0, hR.at1, hR.at0, hR.map1, hR.map0, S_arr, hi1, hy, h1, vs, va, hbit, hwm1, hwm2, i1, hg] | refine rd0 rfl ?_))
       ((first | refine callK_v (beyond_ok (y.marks - 1) (y.marks + 1) [marksAt s h n c1 y.watch.toNat] (by simp)) (by simp [clr, clrs, ints]) (by simp [okV, okVs]) ?_ | refine callD_v (beyond_ok (y.marks - 1) (y.marks + 1) [marksAt s h n c1 y.watch.toNat] (by simp)) (by simp [clr, clrs, ints]) (by simp [okV, okVs]) ?_); (repeat (first | simp only [↓QA, QB, Nat.reduceLT, reduceIte, Nat.reduceEqDiff, Nat.reduceAdd, Nat.reduceLeDiff, Nat.reduceMul, Nat.reduceBEq, QXHHdP6, hR.len, hR.base, hR.base0, hR.bset, hR.bset0, hR.at1, hR.at0, hR.map1, hR.map0, S_arr, beyond_near, hi1, hy, h1, vs, va, hbit, hwm1, hwm2, i1, hg] | refine rd0 rfl ?_)))
       cases h3 : inR (marksAt s h n c1 y.watch.toNat - y.marks) (-1) 1
       ·rw [h3] at hsucc
        have hqf : q n = false := by rw [hq1]; exact linesUpTo_le (show i + 1 ≤ s.log.length by omega) hsucc
        rw [hqf] at hacc hmem
        (repeat (first | simp only [↓QA, QB, Nat.reduceLT, reduceIte, Nat.reduceEqDiff, Nat.reduceAdd, Nat.reduceLeDiff, Nat.reduceMul, Nat.reduceBEq, QXHHdP6, hR.len, hR.base, hR.base0, hR.bset, hR.bset0, hR.at1, hR.at0, hR.map1, hR.map0, S_arr, hi1, hy, h1, hw] | refine rd0 rfl ?_))
        refine ⟨(k + 1, acc, ex, M2), ⟨by simp only; omega, by simp only; omega, by simp only [hn1]; simpa using hacc, by simp only [hn1]; simpa using hmem⟩, by simp only; omega, ?_⟩
        try simp only [TrimX, QE, Nat.reduceLT, reduceIte, Nat.reduceEqDiff, Nat.reduceAdd, Nat.reduceLeDiff, Nat.reduceMul, Nat.reduceBEq, QXHHdP6, hR.len, hR.base, hR.base0, hR.bset, hR.bset0, hR.at1, hR.at0, hR.map1, hR.map0, S_arr, hw, hn1, hR.eqS, T_sr, T_sr0]
        try simp [okBlk, okVs, okV]
        try omega
       ·rw [h3] at hsucc
        (repeat (first | simp only [↓QA, QB, Nat.reduceLT, reduceIte, Nat.reduceEqDiff, Nat.reduceAdd, Nat.reduceLeDiff, Nat.reduceMul, Nat.reduceBEq, QXHHdP6, hR.len, hR.base, hR.base0, hR.bset, hR.bset0, hR.at1, hR.at0, hR.map1, hR.map0, S_arr, hi1, hy, h1] | refine rd0 rfl ?_))
        refine ⟨i + 1, ⟨by omega, hsucc⟩, by omega, ?_⟩
        try simp only [TrimX, QE, Nat.reduceLT, reduceIte, Nat.reduceEqDiff, Nat.reduceAdd, Nat.reduceLeDiff, Nat.reduceMul, Nat.reduceBEq, QXHHdP6, hR.len, hR.base, hR.base0, hR.bset, hR.bset0, hR.at1, hR.at0, hR.map1, hR.map0, S_arr, hwi]
        try simp [okBlk, arr_ok]
        try omega
      ·rw [h2] at hbit
       have hl : lineOk h (marksAt s h n c1) bl i y = true := by simp only [lineOk, h2]; simp
       rw [hl] at hsucc
       (repeat (first | simp only [↓QA, QB, Nat.reduceLT, reduceIte, Nat.reduceEqDiff, Nat.reduceAdd, Nat.reduceLeDiff, Nat.reduceMul, Nat.reduceBEq, QXHHdP6, hR.len, hR.base, hR.base0, hR.bset, hR.bset0, hR.at1, hR.at0, hR.map1, hR.map0, S_arr, hi1, hy, h1, vs, va, hbit] | refine rd0 rfl ?_))
       refine ⟨i + 1, ⟨by omega, hsucc⟩, by omega, ?_⟩
       try simp only [TrimX, QE, Nat.reduceLT, reduceIte, Nat.reduceEqDiff, Nat.reduceAdd, Nat.reduceLeDiff, Nat.reduceMul, Nat.reduceBEq, QXHHdP6, hR.len, hR.base, hR.base0, hR.bset, hR.bset0, hR.at1, hR.at0, hR.map1, hR.map0, S_arr, hwi]
       try simp [okBlk, arr_ok]
       try omega
    ·have hi1 : i = s.log.length := by simp at hd2; omega
     rw [hi1] at hlu
     have hqt : q n = true := by rw [hq1]; exact hlu
     rw [hqt] at hacc hmem
     (repeat (first | simp only [↓QA, QB, Nat.reduceLT, reduceIte, Nat.reduceEqDiff, Nat.reduceAdd, Nat.reduceLeDiff, Nat.reduceMul, Nat.reduceBEq, QXHHdP6, hR.len, hR.base, hR.base0, hR.bset, hR.bset0, hR.at1, hR.at0, hR.map1, hR.map0, S_arr, hnot, hand2, g2] | refine rd0 rfl ?_))
     refine callK_do (hrun2 M2) ?_
     (repeat (first | simp only [↓QA, QB, Nat.reduceLT, reduceIte, Nat.reduceEqDiff, Nat.reduceAdd, Nat.reduceLeDiff, Nat.reduceMul, Nat.reduceBEq, QXHHdP6, hR.len, hR.base, hR.base0, hR.bset, hR.bset0, hR.at1, hR.at0, hR.map1, hR.map0, S_arr, hap] | refine rd0 rfl ?_))
     refine ⟨(k + 1, acc ++ [⟨h, n, c2⟩], true, memoStep M2 ⟨h, n, c2⟩), ⟨by simp only; omega, by simp only [List.length_append, List.length_cons, List.length_nil]; omega, by simp only [hn1]; simpa using hacc, by simp only [hn1]; simpa using hmem⟩, by simp only; omega, ?_⟩
     try simp only [TrimX, QE, Nat.reduceLT, reduceIte, Nat.reduceEqDiff, Nat.reduceAdd, Nat.reduceLeDiff, Nat.reduceMul, Nat.reduceBEq, QXHHdP6, hR.len, hR.base, hR.base0, hR.bset, hR.bset0, hR.at1, hR.at0, hR.map1, hR.map0, S_arr, hw, hn1, hR.eqS, T_sr, T_sr0, List.map_append, List.map_cons, List.map_nil]
     try simp [okBlk, okVs, okV]
     try omega
  ·have hd' : ¬ n ≤ x.start.hi := by simpa using hd
   have hk1 : k = K := by omega
   rw [hk1, Nat.sub_self] at hacc hmem
   simp only [numbers, List.filter_nil, List.map_nil, List.append_nil, List.foldl_nil] at hacc hmem
   subst hacc
   subst hmem
   (repeat (first | simp only [↓QA, QB, Nat.reduceLT, reduceIte, Nat.reduceEqDiff, Nat.reduceAdd, Nat.reduceLeDiff, Nat.reduceMul, Nat.reduceBEq, QXHHdP6, hR.len, hR.base, hR.base0, hR.bset, hR.bset0, hR.at1, hR.at0, hR.map1, hR.map0, S_arr, crssAV] | refine rd0 rfl ?_))
   refine ⟨_, _, rfl, rfl, ?_⟩
   try simp only [QS, QC, Nat.reduceLT, reduceIte, Nat.reduceEqDiff, Nat.reduceAdd, Nat.reduceLeDiff, Nat.reduceMul, Nat.reduceBEq, QXHHdP6, hR.len, hR.base, hR.base0, hR.bset, hR.bset0, hR.at1, hR.at0, hR.map1, hR.map0, S_arr, crssAV]
   try simp
def QXHHdPR := And.intro @encShip_eq (And.intro @shipCells_eq (And.intro @encHold_eq (And.intro @encLine_eq (@encSpan_eq))))
def rulesC : List AV := [.func 103 [] [], .func 104 [] [], .func 105 [] []]
theorem rules_ok : Pure T 99 [] (.agg rulesC) := by
 refine pure_fn (af := a99) rfl (by simp [a99]) dd ?_
 (repeat (first | simp only [↓QA, QB, Nat.reduceLT, reduceIte, Nat.reduceEqDiff, Nat.reduceAdd, Nat.reduceLeDiff, Nat.reduceMul, Nat.reduceBEq, QXHHdPR, a99, rulesC, show (0 : Int) ≤ 0 ∧ (0 : Int) < ((3 : Nat) : Int) from by decide, show (0 : Int) ≤ 1 ∧ (1 : Int) < ((3 : Nat) : Int) from by decide, show (0 : Int) ≤ 2 ∧ (2 : Int) < ((3 : Nat) : Int) from by decide, Int.toNat_zero, show Int.toNat 1 = 1 from rfl, show Int.toNat 2 = 2 from rfl, clrs] | refine rd0 rfl ?_))
theorem rule1_ok (b : Bool) : Pure T 103 [.bool b] (.bool !b) := by
 refine pure_fn (af := a103) rfl (by simp [a103]) dd ?_
 (repeat (first | simp only [↓QA, QB, Nat.reduceLT, reduceIte, Nat.reduceEqDiff, Nat.reduceAdd, Nat.reduceLeDiff, Nat.reduceMul, Nat.reduceBEq, QXHHdPR, a103] | refine rd0 rfl ?_))
theorem rule2_ok (b : Bool) : Pure T 104 [.bool b] (.bool b) := by
 refine pure_fn (af := a104) rfl (by simp [a104]) dd ?_
 (repeat (first | simp only [↓QA, QB, Nat.reduceLT, reduceIte, Nat.reduceEqDiff, Nat.reduceAdd, Nat.reduceLeDiff, Nat.reduceMul, Nat.reduceBEq, QXHHdPR, a104] | refine rd0 rfl ?_))
theorem rule3_ok (b : Bool) : Pure T 105 [.bool b] (.bool true) := by
 refine pure_fn (af := a105) rfl (by simp [a105]) dd ?_
 (repeat (first | simp only [↓QA, QB, Nat.reduceLT, reduceIte, Nat.reduceEqDiff, Nat.reduceAdd, Nat.reduceLeDiff, Nat.reduceMul, Nat.reduceBEq, QXHHdPR, a105] | refine rd0 rfl ?_))
end Go.Am.Room
set_option maxRecDepth 4000
namespace Go.Am.Room
def iterF {A X : Type} (f : A → X → X × Bool) : List A → X → X × Bool
 | [], x => (x, true)
 | a :: az, x => if (f a x).2 = true then iterF f az (f a x).1 else ((f a x).1, false)
theorem iterF_app {A X : Type} (f : A → X → X × Bool) : ∀ (az bs : List A) (x : X), iterF f (az ++ bs) x = if (iterF f az x).2 = true then iterF f bs (iterF f az x).1 else ((iterF f az x).1, false)
 | [], bs, x => by simp [iterF]
 | a :: az, bs, x => by
  simp only [List.cons_append, iterF]
  split
  ·exact iterF_app f az bs _
  ·simp
structure Fam {X : Type} (Z ZD : X → St) (s : Ship) (b c p m q N : Nat) : Prop where
 len : ∀ x, (Z x).length = N
 lenD : ∀ x, (ZD x).length = N
 at0 : ∀ x, cellsAt (Z x) p = some (sb s b c m)
 atq0 : ∀ x, cellsAt (Z x) q = some [.ptr p 0]
 keep : ∀ x y k i, N ≤ k → i < N → blkKept (Z x) (Z y) k i
 keepD : ∀ x y k i, N ≤ k → i < N → blkKept (Z x) (ZD y) k i
 pl : p < N
 ql : q < N
namespace Fam
variable {X : Type} {Z ZD : X → St} {s : Ship} {b c p m q N : Nat}
theorem base (h : Fam Z ZD s b c p m q N) (x : X) (τ : St) (k : Nat) : cellsAt (Z x ++ τ) (N + k) = cellsAt τ k := by rw [← h.len x]; exact M_base _ _ _
theorem base0 (h : Fam Z ZD s b c p m q N) (x : X) (τ : St) : cellsAt (Z x ++ τ) N = cellsAt τ 0 := h.base x τ 0
theorem bset (h : Fam Z ZD s b c p m q N) (x : X) (τ : St) (k : Nat) (y : ABlk) : (Z x ++ τ).set (N + k) y = Z x ++ τ.set k y := by rw [← h.len x]; exact st_set _ _ _ _
theorem bset0 (h : Fam Z ZD s b c p m q N) (x : X) (τ : St) (y : ABlk) : (Z x ++ τ).set N y = Z x ++ τ.set 0 y := h.bset x τ 0 y
theorem at1 (h : Fam Z ZD s b c p m q N) (x : X) (τ : St) : cellsAt (Z x ++ τ) p = some (sb s b c m) := by
 have := h.at0 x
 have hl := h.pl
 rw [← h.len x] at hl
 simp only [cellsAt] at this ⊢
 rw [List.getElem?_append_left hl]
 exact this
theorem atq1 (h : Fam Z ZD s b c p m q N) (x : X) (τ : St) : cellsAt (Z x ++ τ) q = some [.ptr p 0] := by
 have := h.atq0 x
 have hl := h.ql
 rw [← h.len x] at hl
 simp only [cellsAt] at this ⊢
 rw [List.getElem?_append_left hl]
 exact this
theorem leaveW (h : Fam Z ZD s b c p m q N) {x : X} {W υ τ' σ' : St} (hW : W.length = N) (hk : ∀ k i, N ≤ k → i < N → blkKept (Z x) W k i) {v : Bool} {Q : Out → Prop} (hσ : σ' = W ++ (υ ++ τ')) (hQ : Q ⟨none, [], W ++ υ, .bool v⟩) : Leave (Z x ++ υ) σ' (.bool v) Q := by
 refine .inr ⟨20, .bool v, .bool v, by simp [snap], .inl rfl, fun i hi => ?_, ?_, ?_⟩
 ·rw [hσ]
  rw [List.length_append, h.len] at hi ⊢
  by_cases hn : i < N
  ·have := hk (N + υ.length) i (by omega) hn
   have e1 : (Z x ++ υ)[i]? = (Z x)[i]? := List.getElem?_append_left (by rw [h.len]; exact hn)
   have e2 : (W ++ (υ ++ τ'))[i]? = W[i]? := List.getElem?_append_left (by rw [hW]; exact hn)
   simp only [blkKept, e1, e2] at this ⊢
   exact this
  ·refine .inl ?_
   have e1 : (W ++ (υ ++ τ'))[i]? = (υ ++ τ')[i - N]? := by rw [List.getElem?_append_right (by omega), hW]
   have e2 : (Z x ++ υ)[i]? = υ[i - N]? := by rw [List.getElem?_append_right (by rw [h.len]; omega), h.len]
   rw [e1, e2, List.getElem?_append_left (by omega)]
 ·rw [hσ]
  simp only [List.length_append, h.len, hW]
  omega
 ·have e1 : σ'.take (Z x ++ υ).length = W ++ υ := by
   have q1 : (Z x ++ υ).length = (W ++ υ).length := by simp only [List.length_append, h.len, hW]
   rw [hσ, q1, ← List.append_assoc]
   exact List.take_left
  rw [e1]
  exact hQ
def out (Z ZD : X → St) (r : X × Bool) : St := if r.2 = true then Z r.1 else ZD r.1
theorem leave (h : Fam Z ZD s b c p m q N) {x : X} {r : X × Bool} {υ τ' σ' : St} {Q : Out → Prop} (hσ : σ' = out Z ZD r ++ (υ ++ τ')) (hQ : Q ⟨none, [], out Z ZD r ++ υ, .bool r.2⟩) : Leave (Z x ++ υ) σ' (.bool r.2) Q := by
 unfold out at hσ hQ
 split at hσ
 ·rename_i hr
  rw [if_pos hr] at hQ
  exact h.leaveW (h.len _) (fun k i hk hi => h.keep _ _ k i hk hi) hσ hQ
 ·rename_i hr
  rw [if_neg hr] at hQ
  exact h.leaveW (h.lenD _) (fun k i hk hi => h.keepD _ _ k i hk hi) hσ hQ
end Fam
def Yields {A X : Type} (Z ZD : X → St) (id : Nat) (args : A → List AV) (P : A → Prop) (f : A → X → X × Bool) : Prop :=
 ∀ a, P a → ∀ x τ, Run T (.callv (.yield id) (args a) (Z x ++ τ)) fun o => o.v = .bool (f a x).2 ∧ ∃ τ', o.σ = Fam.out Z ZD (f a x) ++ (τ ++ τ')
def nextL : List Hold → Nat → Nat → List Nat
 | [], _, set => [set]
 | x :: xs, h, set => (if x.duct = 1 then [] else nextL xs (h + 1) set) ++ (if x.duct = 0 then [] else nextL xs (h + 1) (set ||| 2 ^ h))
theorem nextL_lt : ∀ (xs : List Hold) (h set : Nat), set < 2 ^ h → ∀ a ∈ nextL xs h set, a < 2 ^ (h + xs.length)
 | [], h, set, hs, a, ha => by simp [nextL] at ha; subst ha; simpa using hs
 | x :: xs, h, set, hs, a, ha => by
  simp only [nextL, List.mem_append] at ha
  have e : h + (x :: xs).length = (h + 1) + xs.length := by simp; omega
  have h1 : set < 2 ^ (h + 1) := by rw [Nat.pow_succ]; omega
  have h2 : set ||| 2 ^ h < 2 ^ (h + 1) := Nat.or_lt_two_pow h1 (by rw [Nat.pow_succ]; have := Nat.two_pow_pos h; omega)
  rw [e]
  rcases ha with ha | ha
  ·split at ha
   ·simp at ha
   ·exact nextL_lt xs (h + 1) set h1 a ha
  ·split at ha
   ·simp at ha
   ·exact nextL_lt xs (h + 1) _ h2 a ha
end Go.Am.Room
set_option maxRecDepth 4000
namespace Go.Am.Room
def QXHHdP8 := And.intro @encShip_eq (And.intro @shipCells_eq (And.intro @encHold_eq (And.intro @encLine_eq (And.intro @encSpan_eq (And.intro @S_mapHold (And.intro @S_mapLine (And.intro @List.length_append.{0} (And.intro @sb_0 (And.intro @sb_1 (And.intro @sb_2 (And.intro @sb_3 (And.intro @sb_4 (And.intro @sb_5 (And.intro @sb_6 (And.intro @sb_7 (And.intro @sb_8 (And.intro @sb_9 (And.intro @T_sapp (And.intro @Nat.add_lt_add_iff_left (And.intro @Nat.lt_add_right_iff_pos (And.intro @Nat.mul_one (@Int.toNat_natCast))))))))))))))))))))))
theorem iterF_one {A X : Type} (f : A → X → X × Bool) (a : A) (x : X) : iterF f [a] x = f a x := by
 simp only [iterF]
 obtain ⟨y, bb⟩ := f a x
 cases bb <;> simp
def NEXT (N q : Nat) : AV := .func 100 [] [.ptr q 0, .ptr N 0, .ptr (N + 1) 0, .ptr (N + 2) 0]
def setsB (id N q : Nat) : St := [.cells [.yield id], .cells rulesC, .cells [NEXT N q]]
theorem next_ok {X : Type} {Z ZD : X → St} {s : Ship} {b c p m q N : Nat} (hR : Fam Z ZD s b c p m q N) (hv : Vd s) {id : Nat} {P : Nat → Prop} {f : Nat → X → X × Bool} (hy : Yields Z ZD id (fun a : Nat => [.int .i64 a]) P f) :
  ∀ (k h set : Nat) (x : X) (τ : St), h + k = s.holds.length → set < 2 ^ h → (∀ a ∈ nextL (s.holds.drop h) h set, P a) →
   Does T (NEXT N q) [.int .i64 h, .int .i64 set] (Z x ++ (setsB id N q ++ τ)) (.bool (iterF f (nextL (s.holds.drop h) h set) x).2) (Fam.out Z ZD (iterF f (nextL (s.holds.drop h) h set) x) ++ (setsB id N q ++ τ))
 | 0, h, set, x, τ, hk, hset, hP => by
  have hh : h = s.holds.length := by omega
  have hd : s.holds.drop h = [] := by rw [hh, List.drop_length]
  have hPs := hP set (by rw [hd]; simp [nextL])
  have hyy := hy set hPs x (setsB id N q ++ τ)
  rw [hd]
  simp only [nextL, iterF_one]
  obtain ⟨r, hr⟩ : ∃ r, f set x = r := ⟨_, rfl⟩
  rw [hr] at hyy ⊢
  have g : ((h : Int) == (s.holds.length : Int)) = true := by rw [hh]; simp
  refine .callf (.call (af := a100) rfl (by simp [a100]) (run_wp (K := fun j e σ1 => (j = none ∨ j = some .ret) ∧ Env.get e 8 = .bool r.2 ∧ ∃ τ', σ1 = Fam.out Z ZD r ++ ((setsB id N q ++ τ) ++ τ')) ?_ fun o ho => ho) fun o ho => ?_)
  ·simp only [setsB, NEXT] at hyy ⊢
   (repeat (first | simp only [↓QA, QB, Nat.reduceLT, reduceIte, Nat.reduceEqDiff, Nat.reduceAdd, Nat.reduceLeDiff, Nat.reduceMul, Nat.reduceBEq, QXHHdP8, hR.len, hR.base, hR.base0, hR.bset, hR.bset0, hR.at1, hR.atq1, a100, g] | refine rd0 rfl ?_))
   refine .mono hyy fun o ho => ?_
   obtain ⟨hv1, τ', hσ⟩ := ho
   rw [hv1, hσ]
   (repeat (first | simp only [↓QA, QB, Nat.reduceLT, reduceIte, Nat.reduceEqDiff, Nat.reduceAdd, Nat.reduceLeDiff, Nat.reduceMul, Nat.reduceBEq, QXHHdP8, hR.len, hR.base, hR.base0, hR.bset, hR.bset0, hR.at1, hR.atq1] | refine rd0 rfl ?_))
   exact ⟨τ', rfl⟩
  ·obtain ⟨hj, h8, τ', hσ⟩ := ho
   refine ⟨hj, .bool r.2, ?_, hR.leave hσ ⟨rfl, rfl⟩⟩
   simp only [a100, resOf, resAV]
   rw [h8]
   rfl
 | k + 1, h, set, x, τ, hk, hset, hP => by
  have hno := hv.nholds
  have hh : h < s.holds.length := by omega
  have hdu := (hv.holds _ (List.getElem_mem hh)).duct
  obtain ⟨y, hye⟩ : ∃ y, s.holds[h] = y := ⟨_, rfl⟩
  rw [hye] at hdu
  have hd : s.holds.drop h = y :: s.holds.drop (h + 1) := by rw [← hye]; exact List.drop_eq_getElem_cons hh
  rw [hd] at hP ⊢
  simp only [nextL] at hP ⊢
  have g : ((h : Int) == (s.holds.length : Int)) = false := by simp; omega
  have hw : IntKind.i64.wrap ((h : Int) + 1) = ((h + 1 : Nat) : Int) := wrapN hh (by omega)
  have hp2 := pow_small (show h ≤ 60 by omega)
  have hset1 : set < 2 ^ (h + 1) := by rw [Nat.pow_succ]; omega
  have hset2 : set ||| 2 ^ h < 2 ^ (h + 1) := Nat.or_lt_two_pow hset1 (by rw [Nat.pow_succ]; have := Nat.two_pow_pos h; omega)
  have hsh := V_shl1 h (by omega)
  have hor := V_or set (2 ^ h) (by omega) (by omega)
  obtain ⟨L1, hL1⟩ : ∃ L, nextL (s.holds.drop (h + 1)) (h + 1) set = L := ⟨_, rfl⟩
  obtain ⟨L2, hL2⟩ : ∃ L, nextL (s.holds.drop (h + 1)) (h + 1) (set ||| 2 ^ h) = L := ⟨_, rfl⟩
  have ih1 := fun (x : X) (own : AV) (h1 : ∀ a ∈ L1, P a) => next_ok hR hv hy k (h + 1) set x (τ ++ [.cells [own]]) (by omega) hset1 (by rw [hL1]; exact h1)
  have ih2 := fun (x : X) (own : AV) (h1 : ∀ a ∈ L2, P a) => next_ok hR hv hy k (h + 1) (set ||| 2 ^ h) x (τ ++ [.cells [own]]) (by omega) hset2 (by rw [hL2]; exact h1)
  rw [hL1] at ih1 hP ⊢
  rw [hL2] at ih2 hP ⊢
  obtain ⟨r, hr⟩ : ∃ r, iterF f ((if y.duct = 1 then [] else L1) ++ (if y.duct = 0 then [] else L2)) x = r := ⟨_, rfl⟩
  rw [hr]
  have fin : ∀ own : AV, Fam.out Z ZD r ++ (ABlk.cells [.yield id] :: .cells rulesC :: .cells [NEXT N q] :: (τ ++ [.cells [own]])) = Fam.out Z ZD r ++ ((setsB id N q ++ τ) ++ [.cells [own]]) := fun own => by simp [setsB]
  refine .callf (.call (af := a100) rfl (by simp [a100]) (run_wp (K := fun j e σ1 => (j = none ∨ j = some .ret) ∧ Env.get e 8 = .bool r.2 ∧ ∃ τ', σ1 = Fam.out Z ZD r ++ ((setsB id N q ++ τ) ++ τ')) ?_ fun o ho => ho) fun o ho => ?_)
  ·simp only [setsB, NEXT] at ih1 ih2 fin ⊢
   try simp only [↓QA, QB, Nat.reduceLT, reduceIte, Nat.reduceEqDiff, Nat.reduceAdd, Nat.reduceLeDiff, Nat.reduceMul, Nat.reduceBEq, QXHHdP8, hR.len, hR.base, hR.base0, hR.bset, hR.bset0, hR.at1, hR.atq1] at ih1 ih2
   have hcases : y.duct = 0 ∨ y.duct = 1 ∨ y.duct = 2 := by omega
   rcases hcases with hy0 | hy1 | hy2
   ·simp only [hy0, show ¬ (0 : Int) = 1 from by decide, if_false, if_true, List.append_nil] at hr hP
    have hih := ih1 x (.func 103 [] []) hP
    rw [hr] at hih
    (repeat (first | simp only [↓QA, QB, Nat.reduceLT, reduceIte, Nat.reduceEqDiff, Nat.reduceAdd, Nat.reduceLeDiff, Nat.reduceMul, Nat.reduceBEq, QXHHdP8, hR.len, hR.base, hR.base0, hR.bset, hR.bset0, hR.at1, hR.atq1, a100, g, hh, hye, hy0, rulesC, show (0 : Int) ≤ 0 ∧ (0 : Int) < ((3 : Nat) : Int) from by decide, Int.toNat_zero] | refine rd0 rfl ?_))
    ((first | refine callK_d (rule1_ok false) rfl dd ?_ | refine callD_d (rule1_ok false) rfl dd ?_); (repeat (first | simp only [↓QA, QB, Nat.reduceLT, reduceIte, Nat.reduceEqDiff, Nat.reduceAdd, Nat.reduceLeDiff, Nat.reduceMul, Nat.reduceBEq, QXHHdP8, hR.len, hR.base, hR.base0, hR.bset, hR.bset0, hR.at1, hR.atq1, hw] | refine rd0 rfl ?_)))
    simp only [rulesC] at hih fin
    refine callK_do hih ?_
    cases hr2 : r.2
    ·(repeat (first | simp only [↓QA, QB, Nat.reduceLT, reduceIte, Nat.reduceEqDiff, Nat.reduceAdd, Nat.reduceLeDiff, Nat.reduceMul, Nat.reduceBEq, QXHHdP8, hR.len, hR.base, hR.base0, hR.bset, hR.bset0, hR.at1, hR.atq1] | refine rd0 rfl ?_))
     exact ⟨_, fin _⟩
    ·have ho : Fam.out Z ZD r = Z r.1 := if_pos hr2
     rw [ho] at fin ⊢
     (repeat (first | simp only [↓QA, QB, Nat.reduceLT, reduceIte, Nat.reduceEqDiff, Nat.reduceAdd, Nat.reduceLeDiff, Nat.reduceMul, Nat.reduceBEq, QXHHdP8, hR.len, hR.base, hR.base0, hR.bset, hR.bset0, hR.at1, hR.atq1] | refine rd0 rfl ?_))
     ((first | refine callK_d (rule1_ok true) rfl dd ?_ | refine callD_d (rule1_ok true) rfl dd ?_); (repeat (first | simp only [↓QA, QB, Nat.reduceLT, reduceIte, Nat.reduceEqDiff, Nat.reduceAdd, Nat.reduceLeDiff, Nat.reduceMul, Nat.reduceBEq, QXHHdP8, hR.len, hR.base, hR.base0, hR.bset, hR.bset0, hR.at1, hR.atq1] | refine rd0 rfl ?_)))
     exact ⟨_, fin _⟩
   ·simp only [hy1, show ¬ (1 : Int) = 0 from by decide, if_false, if_true, List.nil_append] at hr hP
    have hih := ih2 x (.func 104 [] []) hP
    rw [hr] at hih
    (repeat (first | simp only [↓QA, QB, Nat.reduceLT, reduceIte, Nat.reduceEqDiff, Nat.reduceAdd, Nat.reduceLeDiff, Nat.reduceMul, Nat.reduceBEq, QXHHdP8, hR.len, hR.base, hR.base0, hR.bset, hR.bset0, hR.at1, hR.atq1, a100, g, hh, hye, hy1, rulesC, show (0 : Int) ≤ 1 ∧ (1 : Int) < ((3 : Nat) : Int) from by decide, show Int.toNat 1 = 1 from rfl] | refine rd0 rfl ?_))
    ((first | refine callK_d (rule2_ok false) rfl dd ?_ | refine callD_d (rule2_ok false) rfl dd ?_); (repeat (first | simp only [↓QA, QB, Nat.reduceLT, reduceIte, Nat.reduceEqDiff, Nat.reduceAdd, Nat.reduceLeDiff, Nat.reduceMul, Nat.reduceBEq, QXHHdP8, hR.len, hR.base, hR.base0, hR.bset, hR.bset0, hR.at1, hR.atq1] | refine rd0 rfl ?_)))
    ((first | refine callK_d (rule2_ok true) rfl dd ?_ | refine callD_d (rule2_ok true) rfl dd ?_); (repeat (first | simp only [↓QA, QB, Nat.reduceLT, reduceIte, Nat.reduceEqDiff, Nat.reduceAdd, Nat.reduceLeDiff, Nat.reduceMul, Nat.reduceBEq, QXHHdP8, hR.len, hR.base, hR.base0, hR.bset, hR.bset0, hR.at1, hR.atq1, hw, hsh, hor] | refine rd0 rfl ?_)))
    simp only [rulesC] at hih fin
    refine callD_do hih ?_
    (repeat (first | simp only [↓QA, QB, Nat.reduceLT, reduceIte, Nat.reduceEqDiff, Nat.reduceAdd, Nat.reduceLeDiff, Nat.reduceMul, Nat.reduceBEq, QXHHdP8, hR.len, hR.base, hR.base0, hR.bset, hR.bset0, hR.at1, hR.atq1] | refine rd0 rfl ?_))
    exact ⟨_, fin _⟩
   ·simp only [hy2, show ¬ (2 : Int) = 0 from by decide, show ¬ (2 : Int) = 1 from by decide, if_false] at hr hP
    have hih := ih1 x (.func 105 [] []) (fun a ha => hP a (List.mem_append_left _ ha))
    have hih2 := fun x => ih2 x (.func 105 [] []) (fun a ha => hP a (List.mem_append_right _ ha))
    rw [iterF_app] at hr
    obtain ⟨r1, hr1⟩ : ∃ r1, iterF f L1 x = r1 := ⟨_, rfl⟩
    rw [hr1] at hr hih
    (repeat (first | simp only [↓QA, QB, Nat.reduceLT, reduceIte, Nat.reduceEqDiff, Nat.reduceAdd, Nat.reduceLeDiff, Nat.reduceMul, Nat.reduceBEq, QXHHdP8, hR.len, hR.base, hR.base0, hR.bset, hR.bset0, hR.at1, hR.atq1, a100, g, hh, hye, hy2, rulesC, show (0 : Int) ≤ 2 ∧ (2 : Int) < ((3 : Nat) : Int) from by decide, show Int.toNat 2 = 2 from rfl] | refine rd0 rfl ?_))
    ((first | refine callK_d (rule3_ok false) rfl dd ?_ | refine callD_d (rule3_ok false) rfl dd ?_); (repeat (first | simp only [↓QA, QB, Nat.reduceLT, reduceIte, Nat.reduceEqDiff, Nat.reduceAdd, Nat.reduceLeDiff, Nat.reduceMul, Nat.reduceBEq, QXHHdP8, hR.len, hR.base, hR.base0, hR.bset, hR.bset0, hR.at1, hR.atq1, hw] | refine rd0 rfl ?_)))
    simp only [rulesC] at hih hih2 fin
    refine callK_do hih ?_
    cases hr2 : r1.2
    ·rw [hr2] at hr
     simp only [Bool.false_eq_true, if_false] at hr
     have ho : Fam.out Z ZD r1 = Fam.out Z ZD r := by rw [← hr, Fam.out, Fam.out, hr2]
     rw [ho]
     (repeat (first | simp only [↓QA, QB, Nat.reduceLT, reduceIte, Nat.reduceEqDiff, Nat.reduceAdd, Nat.reduceLeDiff, Nat.reduceMul, Nat.reduceBEq, QXHHdP8, hR.len, hR.base, hR.base0, hR.bset, hR.bset0, hR.at1, hR.atq1] | refine rd0 rfl ?_))
     exact ⟨by rw [← hr], _, fin _⟩
    ·rw [hr2] at hr
     simp only [if_true] at hr
     have ho : Fam.out Z ZD r1 = Z r1.1 := if_pos hr2
     have hih3 := hih2 r1.1
     rw [hr] at hih3
     rw [ho]
     (repeat (first | simp only [↓QA, QB, Nat.reduceLT, reduceIte, Nat.reduceEqDiff, Nat.reduceAdd, Nat.reduceLeDiff, Nat.reduceMul, Nat.reduceBEq, QXHHdP8, hR.len, hR.base, hR.base0, hR.bset, hR.bset0, hR.at1, hR.atq1] | refine rd0 rfl ?_))
     ((first | refine callK_d (rule3_ok true) rfl dd ?_ | refine callD_d (rule3_ok true) rfl dd ?_); (repeat (first | simp only [↓QA, QB, Nat.reduceLT, reduceIte, Nat.reduceEqDiff, Nat.reduceAdd, Nat.reduceLeDiff, Nat.reduceMul, Nat.reduceBEq, QXHHdP8, hR.len, hR.base, hR.base0, hR.bset, hR.bset0, hR.at1, hR.atq1, hw, hsh, hor] | refine rd0 rfl ?_)))
     refine callD_do hih3 ?_
     (repeat (first | simp only [↓QA, QB, Nat.reduceLT, reduceIte, Nat.reduceEqDiff, Nat.reduceAdd, Nat.reduceLeDiff, Nat.reduceMul, Nat.reduceBEq, QXHHdP8, hR.len, hR.base, hR.base0, hR.bset, hR.bset0, hR.at1, hR.atq1] | refine rd0 rfl ?_))
     exact ⟨_, fin _⟩
  ·obtain ⟨hj, h8, τ', hσ⟩ := ho
   refine ⟨hj, .bool r.2, ?_, hR.leave hσ ⟨rfl, rfl⟩⟩
   simp only [a100, resOf, resAV]
   rw [h8]
   rfl
end Go.Am.Room
