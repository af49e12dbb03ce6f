/- A part of the proofs: an abstract machine, or what functions come to on it. -/
import Derived.Test.YtnioeddjaihmmaaCmpQ2
import Derived.OrdersIn
import Derived.RangeFuncRecord
import Derived.RangeFuncLeaves
import Derived.WalkKit
import Derived.ChangeArms
import Derived.SizedLaws
import Derived.ChangeBears
import Derived.ChangeShapes
import Derived.WideShapes
import Derived.ProofKit
import Derived.OpenShut
import Derived.Lib.Strings
import Derived.Laws.RangeAny
set_option linter.unusedVariables false
set_option linter.unusedSimpArgs false
set_option linter.defProp false
namespace Go.Am
variable {P : Program} {hh : String → Bool} {G G0 G1 G' : Gh} {w w0 w1 w' : World} {σ σ' σ1 : St} {env env' : Env} {n m m' : Nat} {v : AV} {a : Act}
def exOf : Option AJump → Exit
 | none => .normal
 | some .ret => .ret
 | some (.exit id) => .exit id
def Post (P : Program) (hh : String → Bool) (G : Gh) (w : World) (n B : Nat) (Q : Out → Prop) : Exit → Act → World → Prop := fun e a' w' =>
 ∃ o G', Q o ∧ e = exOf o.j ∧ RelE G' w' n o.env a'.tmps ∧ RelS P hh G' w' o.σ ∧ Evo G w G' w' ∧ Marks G' B a'.defers
structure Ctx (P : Program) (hh : String → Bool) (ops : Array Oper) (os : List AOper) (ds : List ADOper) (n : Nat) (hist : List St) (vs : List AV) (env : Env) (σ : St) : Prop where
 comp : compOpers P hh n ops ops.toList = some os
 dsEq : ds = windows (Region.before ops) os
 drawn : Drawn (Region.before ops) os
 facts : AllFacts P hh hist ds env 0 σ.length vs
structure DInv (P : Program) (hh : String → Bool) (ops : Array Oper) (os : List AOper) (ds : List ADOper) (n : Nat) (hist : List St) (vs : List AV) (env : Env) (σ : St) (G0 : Gh) (w0 : World) (dfs : List Deferred)
  (listed : Array Bool) (m : Nat) (a : Act) (w : World) (G : Gh) : Prop where
 size : listed.size = ops.size
 closed : ∀ (j : Nat) (o : Oper), ops[j]? = some o → listed.getD j false = true → ∀ e ∈ o.after.toList, Region.binds .any e = true → listed.getD e.on false = true
 acts : ∀ (q i : Nat), (actPlaces os)[q]? = some i → (listed.getD i false = true ↔ q < m)
 mle : m ≤ (actPlaces os).length
 rel : ∃ s, hist[m]? = some s ∧ RelS P hh G w s
 evo : Evo G0 w0 G w
 tsize : a.tmps.size = n
 tset : ∀ (j : Nat) (d : ADOper) (t : Nat) (v : AV), listed.getD j false = true → ds[j]? = some d → d.o.dst = some t → vs[j]? = some v → RelV G w v (a.tmps.getD t undef)
 told : ∀ t, (∀ (j : Nat) (d : ADOper), listed.getD j false = true → ds[j]? = some d → d.o.dst ≠ some t) → RelV G w (Env.get env t) (a.tmps.getD t undef)
 res : ∀ (j : Nat) (d : ADOper) (z : List AV), listed.getD j false = false → ds[j]? = some d → d.o.op = .alloc z → G.res (σ.length + (ds.take j).countP (·.o.op.allocs)) = some (some z)
 defers : a.defers = dfs
section
variable {ops : Array Oper} {os : List AOper} {ds : List ADOper} {hist : List St} {vs : List AV} {dfs : List Deferred} {listed : Array Bool} {md : Region.Mode}
theorem ctx_len (hc : Ctx P hh ops os ds n hist vs env σ) : os.length = ops.size ∧ ds.length = ops.size := by
 have h1 := (compOpers_get hc.comp).1
 have h2 : ds.map (·.o) = os := by rw [hc.dsEq]; exact windows_map _ _
 have h3 := congrArg List.length h2
 simp at h1 h3
 omega
theorem ctx_get (hc : Ctx P hh ops os ds n hist vs env σ) {i : Nat} {o : Oper} (ho : ops[i]? = some o) :
  ∃ d, ds[i]? = some d ∧ os[i]? = some d.o ∧ compOper P hh n ops o = some d.o ∧ d.lo = ((actPlaces os).filter fun a => ((Region.before ops).getD i 0).testBit a).length ∧
   d.hi = ((actPlaces os).takeWhile fun a => !((Region.before ops).getD a 0).testBit i).length := by
 obtain ⟨x, h1, h2⟩ := (compOpers_get hc.comp).2 i o (by simpa using ho)
 have hi : i < ds.length := by rw [(ctx_len hc).2]; exact (Array.getElem?_eq_some_iff.1 ho).1
 have hd : ds[i]? = some ds[i] := List.getElem?_eq_getElem hi
 have hw : (windows (Region.before ops) os)[i]? = some ds[i] := by rw [← hc.dsEq]; exact hd
 obtain ⟨q1, q2, q3⟩ := windows_get hw
 rw [h1] at q1
 cases q1
 exact ⟨_, hd, h1, h2, q2, q3⟩
theorem getD_same {b : Bool} {i j : Nat} (h : j ≠ i) : (listed.setIfInBounds i true).getD j b = listed.getD j b := by
 simp [Array.getD_eq_getD_getElem?, Array.getElem?_setIfInBounds_ne (Ne.symm h)]
theorem getD_self {b : Bool} {i : Nat} (h : i < listed.size) : (listed.setIfInBounds i true).getD i b = true := by
 simp [Array.getD_eq_getD_getElem?, Array.getElem?_setIfInBounds_self, h]
theorem getD_ff {i : Nat} (h : i < listed.size) : listed.getD i true = listed.getD i false := by
 simp [Array.getD_eq_getD_getElem?, Array.getElem?_eq_getElem h]
theorem DInv.next {i : Nat} {o : Oper} {d : ADOper} {u : Value} {s' : St} (hc : Ctx P hh ops os ds n hist vs env σ) (h : DInv P hh ops os ds n hist vs env σ G0 w0 dfs listed m a w G)
  (ho : ops[i]? = some o) (hi : listed.getD i false = false) (hall : ∀ e ∈ o.after.toList, Region.binds .any e = true → listed.getD e.on false = true) (hd : ds[i]? = some d) (hcomp : compOper P hh n ops o = some d.o)
  (hv : vs[i]? = some v) (hmono : ∀ (x : AV) (u : Value), RelV G w x u → RelV G' w' x u) (hevo : Evo G0 w0 G' w') (hs : hist[m']? = some s') (hS : RelS P hh G' w' s')
  (hm : (d.o.op.acts = true ∧ (actPlaces os)[m]? = some i ∧ m' = m + 1) ∨ (d.o.op.acts = false ∧ m' = m))
  (hres : ∀ (j : Nat) (d' : ADOper) (z : List AV), j ≠ i → ds[j]? = some d' → d'.o.op = .alloc z → G.res (σ.length + (ds.take j).countP (·.o.op.allocs)) = some (some z) → G'.res (σ.length + (ds.take j).countP (·.o.op.allocs)) = some (some z))
  (hu : RelV G' w' v u) : DInv P hh ops os ds n hist vs env σ G0 w0 dfs (listed.setIfInBounds i true) m' (a.put o.dst u) w' G' := by
 obtain ⟨c1, c2, c3, c4⟩ := compOper_spec hcomp
 have hin : i < ops.size := (Array.getElem?_eq_some_iff.1 ho).1
 have hil : i < listed.size := by rw [h.size]; exact hin
 have hosd : ∀ (j : Nat) (d : ADOper), ds[j]? = some d → os[j]? = some d.o := fun j d e => by
  have : (windows (Region.before ops) os)[j]? = some d := by rw [← hc.dsEq]; exact e
  exact (windows_get this).1
 have lst : ∀ j, (listed.setIfInBounds i true).getD j false = true ↔ (j = i ∨ listed.getD j false = true) := by
  intro j
  by_cases hj : j = i
  ·subst hj; simp only [getD_self hil, true_or]
  ·simp only [getD_same hj, hj, false_or]
 have putne : ∀ t, o.dst ≠ some t → (a.put o.dst u).tmps.getD t undef = a.tmps.getD t undef := by
  intro t ht
  cases hdst : o.dst with
  | none => rfl
  | some t' =>
   have : t' ≠ t := fun e => ht (by rw [hdst, e])
   simp [Act.put, Array.getD_eq_getD_getElem?, Array.getElem?_setIfInBounds_ne this]
 have putself : ∀ t, o.dst = some t → (a.put o.dst u).tmps.getD t undef = u := by
  intro t ht
  have : t < a.tmps.size := by rw [h.tsize]; exact c3 t ht
  rw [ht]
  simp [Act.put, Array.getD_eq_getD_getElem?, Array.getElem?_setIfInBounds_self, this]
 refine ⟨by simpa using h.size, fun j o' ho' hl e he hb => ?_, fun q i' hq => ?_, ?_, ⟨s', hs, hS⟩, hevo, ?_, fun j d' t v' hl hd' hdst hv' => ?_, fun t ht => ?_, fun j d' z hl hd' hz => ?_, ?_⟩
 ·rw [lst] at hl ⊢
  rcases hl with rfl | hl
  ·rw [ho] at ho'
   cases ho'
   exact .inr (hall e he hb)
  ·exact .inr (h.closed j o' ho' hl e he hb)
 ·rw [lst]
  rcases hm with ⟨h1, h2, rfl⟩ | ⟨h1, rfl⟩
  ·by_cases hi' : i' = i
   ·subst hi'
    have : q = m := by
     obtain ⟨_, _, _, q1⟩ := actPlaces_iff.1 hq
     obtain ⟨_, _, _, q2⟩ := actPlaces_iff.1 h2
     rw [q1, q2]
    simp [this]
   ·have hqm : q ≠ m := fun e => by subst e; rw [h2] at hq; cases hq; exact hi' rfl
    rw [h.acts q i' hq]
    simp only [hi', false_or]
    omega
  ·have hi' : i' ≠ i := fun e => by
    subst e
    obtain ⟨x, q1, q2, _⟩ := actPlaces_iff.1 hq
    rw [hosd _ _ hd] at q1
    cases q1
    rw [h1] at q2
    cases q2
   simp only [hi', false_or]
   exact h.acts q i' hq
 ·rcases hm with ⟨h1, h2, rfl⟩ | ⟨h1, rfl⟩
  ·exact (List.getElem?_eq_some_iff.1 h2).1
  ·exact h.mle
 ·have := h.tsize
  cases hdst : o.dst <;> simp [Act.put, this]
 ·rw [lst] at hl
  by_cases hji : j = i
  ·subst hji
   rw [hd] at hd'
   cases hd'
   rw [hv] at hv'
   cases hv'
   rw [putself t (by rw [← c2]; exact hdst)]
   exact hu
  ·have hl := hl.resolve_left hji
   rw [putne t fun e => hc.drawn.one j i _ _ t (hosd _ _ hd') (hosd _ _ hd) hji hdst (by rw [c2]; exact e)]
   exact hmono _ _ (h.tset j d' t v' hl hd' hdst hv')
 ·have hne : o.dst ≠ some t := fun e => ht i d ((lst i).2 (.inl rfl)) hd (by rw [c2]; exact e)
  rw [putne t hne]
  exact hmono _ _ (h.told t fun j d' hl hd' => ht j d' ((lst j).2 (.inr hl)) hd')
 ·have hji : j ≠ i := fun e => by subst e; rw [getD_self hil] at hl; cases hl
  rw [getD_same hji] at hl
  exact hres j d' z hji hd' hz (h.res j d' z hl hd' hz)
 ·have := h.defers
  cases hdst : o.dst <;> simpa [Act.put] using this
theorem DInv.step {F : Fence} {i : Nat} {K : Act → World → Prop} {Q : Exit → Act → World → Prop} (hF : FW F) (hc : Ctx P hh ops os ds n hist vs env σ) (h : DInv P hh ops os ds n hist vs env σ G0 w0 dfs listed m a w G) (h0 : ∀ id r, G0.res id = some r → id < σ.length)
  (hr : i ∈ Region.ready md ops listed) (hK : ∀ m' a' w' G', DInv P hh ops os ds n hist vs env σ G0 w0 dfs (listed.setIfInBounds i true) m' a' w' G' → K a' w') : wpOpIn F 0 P ops Q i K a w := by
 obtain ⟨hl0, o, ho, hall0⟩ := mem_ready.1 hr
 have hin : i < ops.size := (Array.getElem?_eq_some_iff.1 ho).1
 have hi : listed.getD i false = false := by rw [← getD_ff (by rw [h.size]; exact hin)]; exact hl0
 have hall : ∀ e ∈ o.after.toList, Region.binds .any e = true → listed.getD e.on false = true := fun e he hb => hall0 e (by simpa using he) (binds_any hb)
 obtain ⟨d, hd, hos, hcomp, hlo, hhi⟩ := ctx_get hc ho
 obtain ⟨c1, c2, c3, c4⟩ := compOper_spec hcomp
 obtain ⟨flen, fget⟩ := facts_get hc.facts
 obtain ⟨v, hv, fact⟩ := fget i d hd
 have hbef : ∀ k, ((Region.before ops).getD i 0).testBit k = true → listed.getD k false = true := before_closed (L := fun j => listed.getD j false = true) h.closed i o ho hall
 have hbefL : ∀ j, listed.getD j false = true → ∀ k, ((Region.before ops).getD j 0).testBit k = true → listed.getD k false = true := by
  intro j hj k hk
  have hjn : j < ops.size := by
   rcases Nat.lt_or_ge j ops.size with h' | h'
   ·exact h'
   ·rw [Array.getD_eq_getD_getElem?, Array.getElem?_eq_none (by rw [h.size]; exact h')] at hj; simp at hj
  exact before_closed (L := fun j => listed.getD j false = true) h.closed j _ (Array.getElem?_eq_getElem hjn) (h.closed j _ (Array.getElem?_eq_getElem hjn) hj) k hk
 have hosd : ∀ (j : Nat) (d : ADOper), ds[j]? = some d → os[j]? = some d.o := fun j d e => by
  have : (windows (Region.before ops) os)[j]? = some d := by rw [← hc.dsEq]; exact e
  exact (windows_get this).1
 -- what the text's environment has is what the machine's has
 have look : ∀ t ∈ d.o.tmps, RelV G w (Env.get (envAfter (ds.take i) env vs) t) (a.tmps.getD t undef) := by
  intro t ht
  by_cases hw : ∃ (j : Nat) (d' : ADOper), ds[j]? = some d' ∧ d'.o.dst = some t
  ·obtain ⟨j, d', hj, hdst⟩ := hw
   have uniq : ∀ (j' : Nat) (e : ADOper), j' ≠ j → ds[j']? = some e → e.o.dst ≠ some t := fun j' e hne he => hc.drawn.one j j' _ _ t (hosd _ _ hj) (hosd _ _ he) (Ne.symm hne) hdst
   rcases hc.drawn.uses i _ t j _ hos ht (hosd _ _ hj) hdst with ⟨hlt, hb⟩ | ⟨hlt, hb⟩
   ·obtain ⟨vj, hvj, _⟩ := fget j d' hj
    have he : Env.get (envAfter (ds.take i) env vs) t = vj := by
     refine envAfter_one (j := j) (d := d') ?_ hdst hvj fun j' e hne he => uniq j' e hne ?_
     ·rw [List.getElem?_take_of_lt hlt]; exact hj
     ·rw [List.getElem?_take] at he
      split at he
      ·exact he
      ·cases he
    rw [he]
    exact h.tset j d' t vj (hbef j hb) hj hdst hvj
   ·have he : Env.get (envAfter (ds.take i) env vs) t = Env.get env t := by
     refine envAfter_no fun j' e he => ?_
     rw [List.getElem?_take] at he
     split at he
     ·exact uniq j' e (by omega) he
     ·cases he
    rw [he]
    refine h.told t fun j' e hl he hdst' => ?_
    by_cases hjj : j' = j
    ·subst hjj
     have := hbefL _ hl i hb
     rw [hi] at this
     cases this
    ·exact uniq j' e hjj he hdst'
  ·have he : Env.get (envAfter (ds.take i) env vs) t = Env.get env t := by
    refine envAfter_no fun j' e he hdst => hw ⟨j', e, ?_, hdst⟩
    rw [List.getElem?_take] at he
    split at he
    ·exact he
    ·cases he
   rw [he]
   exact h.told t fun j' e _ he hdst => hw ⟨j', e, he, hdst⟩
 obtain ⟨E, hEdef⟩ : ∃ E : Env, E = d.o.tmps.map fun t => (t, Env.get (envAfter (ds.take i) env vs) t) := ⟨_, rfl⟩
 have hEget : ∀ t, (t ∈ d.o.tmps → Env.get E t = Env.get (envAfter (ds.take i) env vs) t) ∧ (t ∉ d.o.tmps → Env.get E t = .undef) := by
  intro t
  rw [hEdef]
  generalize d.o.tmps = ts
  induction ts with
  | nil => exact ⟨fun h => by simp at h, fun _ => rfl⟩
  | cons x ts ih =>
   simp only [List.map_cons, Env.get]
   by_cases hx : x = t
   ·subst hx
    simp
   ·rw [if_neg hx]
    refine ⟨fun hm => ih.1 ?_, fun hm => ih.2 fun h => hm (List.mem_cons_of_mem _ h)⟩
    rcases List.mem_cons.1 hm with e | e
    ·exact absurd e.symm hx
    ·exact e
 have hE : RelE G w n E a.tmps := by
  refine ⟨h.tsize, fun t => ?_⟩
  by_cases ht : t ∈ d.o.tmps
  ·rw [(hEget t).1 ht]; exact look t ht
  ·rw [(hEget t).2 ht]; exact .undef _
 have hcongr : ∀ t ∈ d.o.op.tmps, Env.get E t = Env.get (envAfter (ds.take i) env vs) t := fun t ht => (hEget t).1 (by unfold AOper.tmps; exact List.mem_append_left _ ht)
 have hguard : ∀ t want, d.o.guard = some (t, want) → RelV G w (Env.get (envAfter (ds.take i) env vs) t) (a.tmps.getD t undef) := fun t want hg => look t (by unfold AOper.tmps; rw [hg]; simp)
 obtain ⟨s, hs, hS⟩ := h.rel
 -- which acting operation this is
 have hact : d.o.op.acts = true → (actPlaces os)[m]? = some i ∧ (ds.take i).countP (·.o.op.acts) = m := by
  intro ha
  have hq : (actPlaces os)[(os.take i).countP (·.op.acts)]? = some i := actPlaces_iff.2 ⟨d.o, hos, ha, rfl⟩
  have hcnt : (ds.take i).countP (·.o.op.acts) = (os.take i).countP (·.op.acts) := by rw [hc.dsEq]; exact windows_count _ i
  have hge : m ≤ (os.take i).countP (·.op.acts) := by
   rcases Nat.lt_or_ge ((os.take i).countP (·.op.acts)) m with hlt | hge
   ·have := (h.acts _ _ hq).2 hlt
    rw [hi] at this
    cases this
   ·exact hge
  have hle : (os.take i).countP (·.op.acts) ≤ m := by
   rcases Nat.lt_or_ge m ((os.take i).countP (·.op.acts)) with hlt | hge
   ·exfalso
    have hml : m < (actPlaces os).length := by have := (List.getElem?_eq_some_iff.1 hq).1; omega
    obtain ⟨i', hi'⟩ : ∃ i', (actPlaces os)[m]? = some i' := ⟨_, List.getElem?_eq_getElem hml⟩
    have hlt' : i' < i := by
     obtain ⟨x, q1, q2, q3⟩ := actPlaces_iff.1 hi'
     rcases Nat.lt_trichotomy i' i with h' | h' | h'
     ·exact h'
     ·subst h'; omega
     ·have := countP_take_lt (p := fun o : AOper => o.op.acts) h' hos ha
      omega
    have := hbef i' (hc.drawn.acts m _ i' i hi' hq hlt')
    have := (h.acts m i' hi').1 this
    omega
   ·exact hge
  have : (os.take i).countP (·.op.acts) = m := by omega
  exact ⟨by rw [← this]; exact hq, by rw [hcnt, this]⟩
 have hkeep : ∀ {G' : Gh} {w' : World}, Evo G w G' w' → ∀ (j : Nat) (d' : ADOper) (z : List AV), j ≠ i → ds[j]? = some d' → d'.o.op = .alloc z → G.res (σ.length + (ds.take j).countP (·.o.op.allocs)) = some (some z) →
   G'.res (σ.length + (ds.take j).countP (·.o.op.allocs)) = some (some z) := fun he j d' z _ _ _ q => he.res _ _ q
 have fin : ∀ {σ' : St} {m' : Nat} {r : Result Next}, OpRes P hh G w v σ' r → hist[m']? = some σ' → ((d.o.op.acts = true ∧ (actPlaces os)[m]? = some i ∧ m' = m + 1) ∨ (d.o.op.acts = false ∧ m' = m)) → o.uponIn F 0 P a K Q r := by
  intro σ' m' r hres hs' hm
  refine upon_res hres fun u G' w' hu hS' he => hK m' _ _ G' ?_
  exact h.next hc ho hi hall hd hcomp hv (fun x u hx => hx.mono he) (h.evo.trans he) hs' hS' hm (hkeep he) hu
 unfold wpOpIn
 rw [ho]
 dsimp only
 rcases fact with ⟨hw, hv0, hst⟩ | ⟨hw, fact⟩
 ·rw [wanted_ok hcomp hguard hw]
  simp only [Bool.false_eq_true, if_false]
  refine ⟨fun f _ => hF.fn f, ?_⟩
  by_cases ha : d.o.op.acts = true
  ·obtain ⟨p1, p2⟩ := hact ha
   obtain ⟨s1, q1, q2⟩ := hst ha
   rw [Nat.zero_add, p2] at q1 q2
   rw [hs] at q1
   cases q1
   exact hK (m + 1) _ _ G (h.next hc ho hi hall hd hcomp hv (fun x u hx => hx) h.evo q2 hS (.inl ⟨ha, p1, rfl⟩) (fun j d' z _ _ _ q => q) (put_undef hv0))
  ·exact hK m _ _ G (h.next hc ho hi hall hd hcomp hv (fun x u hx => hx) h.evo hs hS (.inr ⟨by simpa using ha, rfl⟩) (fun j d' z _ _ _ q => q) (put_undef hv0))
 ·rw [wanted_ok hcomp hguard hw]
  simp only [if_true]
  refine ⟨fun f _ => hF.fn f, ?_⟩
  rw [sem_at c1]
  rcases fact with ⟨z, hz, hvz⟩ | ⟨f1, f2, f3, s1, s2, f4⟩ | ⟨f1, f2⟩ | ⟨f1, s1, s2, f2, f3, f4⟩ | ⟨f, args, s1, s2, f1, f2, f3, f4⟩
  ·
   rw [hz] at c1
   obtain ⟨T, hT, hzc⟩ := comp_alloc c1
   obtain ⟨cs, e1, e2, e3⟩ := alloc_run hzc w
   have hrun : (execOp a.eval o).run P w = .ok (.value (.pointer (some ⟨w.heap.size, 0, none⟩))) (w.alloc (.cells cs T)) := by simp [execOp, hT, e1]
   rw [hrun, Oper.uponIn_value]
   have hid := h.res i d z hi hd hz
   obtain ⟨id, hidd⟩ : ∃ id, id = σ.length + (ds.take i).countP (·.o.op.allocs) := ⟨_, rfl⟩
   rw [← hidd] at hid hvz
   obtain ⟨q1, q2, q3⟩ := hS.res _ _ hid
   have q4 := q3 z rfl
   have hS1 : RelS P hh { G with res := fun x => if x = id then none else G.res x } w s := hS.reserve _ fun x r hx => by
    split at hx
    ·cases hx
    ·exact hS.res x r hx
   have he1 : Evo G0 w0 { G with res := fun x => if x = id then none else G.res x } w :=
    ⟨h.evo.loc, h.evo.lim, h.evo.tok, h.evo.own, h.evo.defs, h.evo.B0, h.evo.h0, h.evo.os, h.evo.tape, h.evo.output, h.evo.size, fun x r hx => by
     have := h0 x r hx
     have hne : x ≠ id := by omega
     simp only [hne, if_false]
     exact h.evo.res x r hx⟩
   obtain ⟨p1, p2⟩ := hS1.place (id := id) (x := .cells z) (o := .cells cs T) (by simp) q1 q4 (cells_blk (by omega) fun k x u g1 g2 => e3 _ _ k x u g1 g2)
   refine hK m _ _ _ (h.next hc ho hi hall hd hcomp hv (fun x u hx => (hx.ghost (G' := { G with res := fun x => if x = id then none else G.res x }) rfl rfl rfl rfl).mono p2) (he1.trans p2) hs p1
    (.inr ⟨by rw [hz]; rfl, rfl⟩) (fun j d' z' hji hd' hz' q => p2.res _ _ ?_) (by rw [hvz]; exact .ptr withLoc_self))
   have hne : σ.length + (ds.take j).countP (·.o.op.allocs) ≠ id := by
    rw [hidd]
    have a1 : d.o.op.allocs = true := by rw [hz]; rfl
    have a2 : d'.o.op.allocs = true := by rw [hz']; rfl
    rcases Nat.lt_trichotomy j i with h' | h' | h'
    ·have := countP_take_lt (p := fun d : ADOper => d.o.op.allocs) h' hd' a2; omega
    ·exact absurd h' hji
    ·have := countP_take_lt (p := fun d : ADOper => d.o.op.allocs) h' hd a1; omega
   simp only [hne, if_false]
   exact q
  ·rw [← aop_congr hcongr] at f4
   exact fin (aop_sound c1 hE hS (aop_pure f1 f2 f3 f4 s)) hs (.inr ⟨f1, rfl⟩)
  ·have hna : d.o.op.acts = false := by revert f1; cases d.o.op <;> simp [AOp.reads, AOp.acts]
   have hlo' : d.lo ≤ m := by
    rw [hlo]
    refine filter_le fun q x hq hx => ?_
    exact (h.acts q x hq).1 (hbef x hx)
   have hhi' : m ≤ d.hi := by
    rw [hhi]
    refine takeWhile_ge h.mle fun q x hq hx => ?_
    have hx' := (h.acts q x hx).2 hq
    cases hb : ((Region.before ops).getD x 0).testBit i with
    | false => rfl
    | true =>
     have := hbefL x hx' i hb
     rw [hi] at this
     cases this
   have f2' := f2 m s hlo' hhi' hs
   rw [← aop_congr hcongr] at f2'
   exact fin (aop_sound c1 hE hS f2') hs (.inr ⟨hna, rfl⟩)
  ·obtain ⟨p1, p2⟩ := hact f1
   rw [Nat.zero_add, p2] at f2 f3
   rw [hs] at f2
   cases f2
   rw [← aop_congr hcongr] at f4
   exact fin (aop_sound c1 hE hS f4) f3 (.inl ⟨f1, p1, rfl⟩)
  ·have hacts : d.o.op.acts = true := by rw [f1]; rfl
   obtain ⟨p1, p2⟩ := hact hacts
   rw [Nat.zero_add, p2] at f2 f3
   rw [hs] at f2
   cases f2
   have hc' := c1
   rw [f1] at hc' hcongr
   have hf : f.ev E = f.ev (envAfter (ds.take i) env vs) := ev_congr fun t ht => hcongr t (by simp [AOp.tmps, ht])
   have hargs : args.map (·.ev E) = args.map (·.ev (envAfter (ds.take i) env vs)) := evs_congr fun t ht => hcongr t (by simp only [AOp.tmps, List.mem_append]; exact .inr ht)
   rw [← hf, ← hargs] at f4
   refine upon_call hF hc' hE hS f4 fun r G' w' u hr hu hS' he => hK (m + 1) _ _ G' ?_
   obtain ⟨hr1, hr2⟩ := hr
   rw [hr1] at hu
   rw [hr2] at hS'
   exact h.next hc ho hi hall hd hcomp hv (fun x u hx => hx.mono he) (h.evo.trans he) f3 hS' (.inl ⟨hacts, p1, rfl⟩) (hkeep he) hu
theorem DInv.all {F : Fence} {Q : Exit → Act → World → Prop} (hF : FW F) (hc : Ctx P hh ops os ds n hist vs env σ) (h0 : ∀ id r, G0.res id = some r → id < σ.length) (hed : edgesIn md ops = true)
  (hQ : ∀ listed m a w G, DInv P hh ops os ds n hist vs env σ G0 w0 dfs listed m a w G → (∀ i, i < ops.size → listed.getD i false = true) → Q .normal a w) :
  ∀ (fuel : Nat) (listed : Array Bool) (m : Nat) (a : Act) (w : World) (G : Gh), DInv P hh ops os ds n hist vs env σ G0 w0 dfs listed m a w G → (List.range ops.size).countP (fun i => !listed.getD i false) ≤ fuel →
   wpAnyIn F 0 P md ops Q fuel listed a w
 | 0, listed, m, a, w, G, h, hle => by
  have hall : ∀ i, i < ops.size → listed.getD i false = true := by
   intro i hi
   have := List.countP_eq_zero.1 (Nat.le_zero.1 hle) i (List.mem_range.2 hi)
   simpa using this
  refine ⟨?_, hQ _ _ _ _ _ h hall⟩
  rw [List.eq_nil_iff_forall_not_mem]
  intro i hi
  obtain ⟨q1, o, ho, _⟩ := mem_ready.1 hi
  have hin : i < ops.size := (Array.getElem?_eq_some_iff.1 ho).1
  rw [getD_ff (by rw [h.size]; exact hin), hall i hin] at q1
  cases q1
 | fuel + 1, listed, m, a, w, G, h, hle => by
  refine ⟨fun hr => hQ _ _ _ _ _ h (edges_done hed h.size hr), fun i hi => h.step hF hc h0 hi fun m' a' w' G' h' => DInv.all hF hc h0 hed hQ fuel _ m' a' w' G' h' ?_⟩
  obtain ⟨q1, o, ho, _⟩ := mem_ready.1 hi
  have hin : i < ops.size := (Array.getElem?_eq_some_iff.1 ho).1
  have hil : i < listed.size := by rw [h.size]; exact hin
  rw [getD_ff hil] at q1
  have key : ∀ (l : List Nat), i ∈ l → l.countP (fun j => !(listed.setIfInBounds i true).getD j false) + 1 ≤ l.countP (fun j => !listed.getD j false) := by
   intro l
   have mono : ∀ l : List Nat, l.countP (fun j => !(listed.setIfInBounds i true).getD j false) ≤ l.countP (fun j => !listed.getD j false) := fun l =>
    List.countP_mono_left fun j _ hj => by
     by_cases hji : j = i
     ·subst hji; rw [q1]; rfl
     ·rw [getD_same hji] at hj; exact hj
   induction l with
   | nil => intro hm; cases hm
   | cons x l ih =>
    intro hm
    simp only [List.countP_cons]
    by_cases hx : x = i
    ·subst hx
     rw [getD_self hil, q1]
     have := mono l
     simp only [Bool.not_true, Bool.not_false, Bool.false_eq_true, if_false, if_true]
     omega
    ·have := ih ((List.mem_cons.1 hm).resolve_left fun e => hx e.symm)
     rw [getD_same hx]
     omega
  have := key _ (List.mem_range.2 hin)
  omega
end
theorem draw_sound {F : Fence} {ops : Array Oper} {os : List AOper} {hist : List St} {vs : List AV} {id B : Nat} {σf : St} {Q : Out → Prop} (hF : FW F) (hc : compOpers P hh n ops ops.toList = some os) (he : edgesOk ops = true)
  (hd : drawOk (Region.before ops) os = true) (hE : RelE G w n env a.tmps) (hS : RelS P hh G w σ) (hM : Marks G B a.defers)
  (facts : AllFacts P hh hist (windows (Region.before ops) os) env 0 σ.length vs) (hst : hist[0]? = some (σ ++ allocsOf (windows (Region.before ops) os)))
  (hend : hist[(actPlaces os).length]? = some σf) (hQ : Q ⟨none, envAfter (windows (Region.before ops) os) env vs, σf, .undef⟩) : (Code.region id ops true).wpIn F 0 P (Post P hh G w n B Q) a w := by
 have hctx : Ctx P hh ops os (windows (Region.before ops) os) n hist vs env σ := ⟨hc, rfl, drawOk_spec hd, facts⟩
 obtain ⟨ds, hds⟩ : ∃ ds, ds = windows (Region.before ops) os := ⟨_, rfl⟩
 rw [← hds] at hctx hst hQ
 have h0 : ∀ id r, G.res id = some r → id < σ.length := fun id r e => (hS.res id r e).2.1
 obtain ⟨G1, hG1⟩ : ∃ G1 : Gh, G1 = { G with res := fun id => if σ.length ≤ id then (match (allocsOf ds)[id - σ.length]? with | some (.cells z) => some (some z) | _ => none) else G.res id } := ⟨_, rfl⟩
 have hS1 : RelS P hh G1 w.drew (σ ++ allocsOf ds) := by
  rw [hG1]
  refine ((hS.drew).more (allocsOf ds)).reserve _ fun id r e => ?_
  split at e
  ·rename_i hle
   split at e
   ·rename_i z hz
    cases e
    have hlt := (List.getElem?_eq_some_iff.1 hz).1
    refine ⟨loc_none hS hle, by simp; omega, fun cs hcs => ?_⟩
    cases hcs
    rw [List.getElem?_append_right hle]
    exact hz
   ·cases e
  ·obtain ⟨q1, q2, q3⟩ := hS.res id r e
   exact ⟨q1, by simp; omega, fun cs hcs => by rw [List.getElem?_append_left q2]; exact q3 cs hcs⟩
 have he1 : Evo G w G1 w.drew := by
  have := evo_drew (G := G) (w := w)
  rw [hG1]
  exact ⟨this.loc, this.lim, this.tok, this.own, this.defs, this.B0, this.h0, this.os, this.tape, this.output, this.size, fun id r e => by
   have := h0 id r e
   simp only [show ¬ σ.length ≤ id by omega, if_false]
   exact e⟩
 have hE1 : RelE G1 w.drew n env a.tmps := (hE.mono evo_drew).ghost (by rw [hG1]) (by rw [hG1]) (by rw [hG1]) (by rw [hG1])
 have hstart : DInv P hh ops os ds n hist vs env σ G w a.defers (Array.replicate ops.size false) 0 a w.drew G1 := by
  have hf : ∀ j, (Array.replicate ops.size false).getD j false = false := fun j => by
   rw [Array.getD_eq_getD_getElem?, Array.getElem?_replicate]
   split <;> rfl
  refine ⟨by simp, fun j o _ hl => (by rw [hf] at hl; cases hl), fun q i _ => (by rw [hf]; simp), Nat.zero_le _, ⟨_, hst, hS1⟩, he1, hE.1, fun j d t v hl => (by rw [hf] at hl; cases hl), fun t _ => hE1.2 t, fun j d z _ hd' hz => ?_, rfl⟩
  rw [hG1]
  simp only [Nat.le_add_right, if_true, Nat.add_sub_cancel_left, allocs_get hd' hz]
 have hed : ∀ md, edgesIn md ops = true := by
  unfold edgesOk at he
  simp only [Bool.and_eq_true] at he
  intro md
  cases md
  ·exact he.1.2
  ·exact he.2
  ·exact he.1.1
 have hany : ∀ md, wpAnyIn F 0 P md ops (Post P hh G w n B Q) ops.size (Array.replicate ops.size false) a w.drew := by
  intro md
  refine DInv.all hF hctx h0 (hed md) ?_ _ _ _ _ _ _ hstart (by have := List.countP_le_length (p := fun i => !(Array.replicate ops.size false).getD i false) (l := List.range ops.size); simpa using this)
  intro listed m a' w' G' h hall
  obtain ⟨s, hs, hS'⟩ := h.rel
  have hm : m = (actPlaces os).length := by
   have h1 := h.mle
   rcases Nat.lt_or_ge m (actPlaces os).length with hlt | hge
   ·exfalso
    obtain ⟨i, hi⟩ : ∃ i, (actPlaces os)[m]? = some i := ⟨_, List.getElem?_eq_getElem hlt⟩
    have hin : i < ops.size := by
     obtain ⟨x, q, _⟩ := actPlaces_iff.1 hi
     have := (List.getElem?_eq_some_iff.1 q).1
     rw [(ctx_len hctx).1] at this
     exact this
    have := (h.acts m i hi).1 (hall i hin)
    omega
   ·omega
  rw [hm, hend] at hs
  cases hs
  have hlen := (ctx_len hctx).2
  have hE' : RelE G' w' n (envAfter ds env vs) a'.tmps := by
   refine ⟨h.tsize, fun t => ?_⟩
   by_cases hw : ∃ (j : Nat) (d' : ADOper), ds[j]? = some d' ∧ d'.o.dst = some t
   ·obtain ⟨j, d', hj, hdst⟩ := hw
    obtain ⟨vj, hvj, _⟩ := (facts_get hctx.facts).2 j d' hj
    have hosd : ∀ (j : Nat) (d : ADOper), ds[j]? = some d → os[j]? = some d.o := fun j d e => by
     rw [hds] at e
     exact (windows_get e).1
    rw [envAfter_one hj hdst hvj fun j' e hne he => hctx.drawn.one j j' _ _ t (hosd _ _ hj) (hosd _ _ he) (Ne.symm hne) hdst]
    exact h.tset j d' t vj (hall j (by rw [← hlen]; exact (List.getElem?_eq_some_iff.1 hj).1)) hj hdst hvj
   ·rw [envAfter_no fun j' e he hdst => hw ⟨j', e, he, hdst⟩]
    exact h.told t fun j' e _ he hdst => hw ⟨j', e, he, hdst⟩
  refine ⟨_, { G' with res := G.res }, hQ, rfl, hE'.ghost rfl rfl rfl rfl, hS'.reserve _ fun id r e => hS'.res id r (h.evo.res id r e), ?_, ?_⟩
  ·exact ⟨h.evo.loc, h.evo.lim, h.evo.tok, h.evo.own, h.evo.defs, h.evo.B0, h.evo.h0, h.evo.os, h.evo.tape, h.evo.output, h.evo.size, fun _ _ e => e⟩
  ·rw [h.defers]
   exact hM.mono h.evo.defs
 refine wpIn_region_draw fun t => ?_
 unfold Region.schedule
 have hdrew : ({ w with drawn := w.drawn + 1 } : World) = w.drew := rfl
 rw [hdrew]
 split
 ·exact wpAnyIn_sound ops.size t _ a _ (hany _)
 ·exact wpAnyIn_sound ops.size _ _ a _ (hany _)
end Go.Am
namespace Go.Am
variable {P : Program} {hh : String → Bool} {G G0 G1 G' : Gh} {w w0 w1 w' : World} {σ σ' σ1 : St} {env env' : Env} {n m m' : Nat} {v : AV} {a : Act}
section
variable {cd : Code}
theorem comp_skip (h : comp P hh n cd = some .skip) : cd = .skip ∨ ∃ l, cd = .label l := by
 cases cd <;> simp only [comp] at h <;> (repeat' split at h) <;> first | (cases h; done) | exact .inl rfl | exact .inr ⟨_, rfl⟩
theorem comp_jump {j : AJump} (h : comp P hh n cd = some (.jump j)) : cd = jumpOf j := by
 cases cd <;> simp only [comp] at h <;> (repeat' split at h) <;> first | (cases h; done) | (cases h; rfl)
theorem comp_seq {x y : ACode} (h : comp P hh n cd = some (.seq x y)) : ∃ c d, cd = .seq c d ∧ comp P hh n c = some x ∧ comp P hh n d = some y := by
 cases cd <;> simp only [comp] at h <;> (repeat' split at h) <;> first | (cases h; done) | (cases h; exact ⟨_, _, rfl, by assumption, by assumption⟩)
theorem comp_cond {c : AOpd} {x y : ACode} (h : comp P hh n cd = some (.cond c x y)) : ∃ o p q, cd = .cond o p q ∧ opd o = some c ∧ comp P hh n p = some x ∧ comp P hh n q = some y := by
 cases cd <;> simp only [comp] at h <;> (repeat' split at h) <;> first | (cases h; done) | (cases h; exact ⟨_, _, _, rfl, by assumption, by assumption, by assumption⟩)
theorem comp_block {id : Nat} {x : ACode} (h : comp P hh n cd = some (.block id x)) : ∃ c, cd = .block id c ∧ comp P hh n c = some x := by
 cases cd <;> simp only [comp] at h <;> (repeat' split at h) <;> first | (cases h; done) | (cases h; exact ⟨_, rfl, by assumption⟩)
theorem comp_loop {x : ACode} (h : comp P hh n cd = some (.loop x)) : ∃ c, cd = .loop c ∧ comp P hh n c = some x := by
 cases cd <;> simp only [comp] at h <;> (repeat' split at h) <;> first | (cases h; done) | (cases h; exact ⟨_, rfl, by assumption⟩)
theorem comp_scope {x : ACode} (h : comp P hh n cd = some (.scope x)) : ∃ c, cd = .scope c ∧ comp P hh n c = some x := by
 cases cd <;> simp only [comp] at h <;> (repeat' split at h) <;> first | (cases h; done) | (cases h; exact ⟨_, rfl, by assumption⟩)
theorem comp_reg {os : List AOper} (h : comp P hh n cd = some (.reg os)) : ∃ id ops, cd = .region id ops false ∧ compOpers P hh n ops ops.toList = some os := by
 cases cd <;> simp only [comp] at h <;> (repeat' split at h) <;> first | (cases h; done) | skip
 rename_i id ops dr _ os' h1 h2
 cases h
 have : dr = false := by simpa using h2
 subst this
 exact ⟨id, ops, rfl, h1⟩
theorem comp_dreg {ds : List ADOper} (h : comp P hh n cd = some (.dreg ds)) :
  ∃ id ops os, cd = .region id ops true ∧ compOpers P hh n ops ops.toList = some os ∧ edgesOk ops = true ∧ drawOk (Region.before ops) os = true ∧ ds = windows (Region.before ops) os := by
 cases cd <;> simp only [comp] at h <;> (repeat' split at h) <;> first | (cases h; done) | skip
 rename_i id ops dr _ os' h1 h2 h3
 cases h
 subst h2
 simp only [Bool.and_eq_true] at h3
 exact ⟨id, ops, os', rfl, h1, h3.1, h3.2, rfl⟩
theorem comp_range {f : AOpd} {ps : List Nat} {x y : ACode} (h : comp P hh n cd = some (.rangeFunc f ps x y)) :
  ∃ o pa c d, cd = .rangeFunc o pa c d ∧ opd o = some f ∧ comp P hh n c = some x ∧ comp P hh n d = some y ∧ pa.toList = ps ∧ (∀ p ∈ ps, p < n) ∧ noRF c = true ∧ noRF d = true := by
 cases cd <;> simp only [comp] at h <;> (repeat' split at h) <;> first | (cases h; done) | skip
 rename_i o pa c d _ _ _ f' x' y' h1 h2 h3 h4
 cases h
 simp only [Bool.and_eq_true, List.all_eq_true, decide_eq_true_eq] at h4
 exact ⟨o, pa, c, d, rfl, h1, h2, h3, rfl, h4.1.1, h4.1.2, h4.2⟩
end
theorem stepR_scope' {b : Frame} {a : Act} {k : List Item} {cs : List Frame} {w : World} {c : Code} : step P (lone (b.atR a (.code (.scope c) :: k)) cs w) = .next (lone (b.atR a (.code c :: .inScope c :: k)) cs w) :=
 step_lone_go (by simp [stepG, stepG.exec, Frame.atR])
theorem stepR_inScope' {b : Frame} {a : Act} {k : List Item} {cs : List Frame} {w : World} {c : Code} : step P (lone (b.atR a (.inScope c :: k)) cs w) = .next (lone (b.atR a k) cs w) :=
 step_lone_go (by simp [stepG, stepG.exec, Frame.atR])
theorem wpIn_scope' {F : Fence} {c : Code} {Q : Exit → Act → World → Prop} (hg : ∀ l a w, ¬ Q (.goto l) a w) (h : c.wpIn F n P Q a w) : (Code.scope c).wpIn F n P Q a w := by
 intro b k cs hro hb hr
 have h0 : (lone (b.atR a (.code (.scope c) :: k)) cs w).fenced P F := fenced_calm hb hr rfl
 obtain ⟨e, a₁, w₁, hq, harr⟩ := h b (.inScope c :: k) cs hro hb hr
 cases e with
 | normal => exact ⟨.normal, a₁, w₁, hq, .head h0 stepR_scope' (StepsIn.trans harr (.one (fenced_calm hb hr rfl) stepR_inScope'))⟩
 | exit id' =>
  have hx : exitTo id' (.inScope c :: k) = exitTo id' k := by simp [exitTo]
  exact ⟨.exit id', a₁, w₁, hq, fun k' hk => .head h0 stepR_scope' (harr.1 k' (by rw [hx]; exact hk)),
   fun hr' hk => let ⟨k₁, h1, h2⟩ := harr.2 hr' (by rw [hx]; exact hk); ⟨k₁, h1, .head h0 stepR_scope' h2⟩⟩
 | goto l => exact absurd hq (hg _ _ _)
 | ret => exact ⟨_, a₁, w₁, hq, .of_steps (.one h0 stepR_scope') harr⟩
 | panic ch => exact ⟨_, a₁, w₁, hq, .of_steps (.one h0 stepR_scope') harr⟩
 | outgrown => exact ⟨_, a₁, w₁, hq, .of_steps (.one h0 stepR_scope') harr⟩
def LoopIn (F : Fence) (n : Nat) (P : Program) (c : Code) (Q : Exit → Act → World → Prop) (a : Act) (w : World) : Prop :=
 ∀ (b : Frame) (k : List Item) (cs : List Frame), b.roundOf = F.round → F.fn b.fn → F.room (cs.length + 1 + n) →
  ∃ e a' w', Q e a' w' ∧ ArrivesIn (Machine.fenced P F) P (lone (b.atR a (.code c :: .inLoop c :: k)) cs w) b k cs e a' w'
theorem LoopIn.round {F : Fence} {c : Code} {Q : Exit → Act → World → Prop} (h : c.wpIn F n P (Exit.then (LoopIn F n P c Q) Q) a w) : LoopIn F n P c Q a w := by
 intro b k cs hro hb hr
 obtain ⟨e, a₁, w₁, hq, harr⟩ := h b (.inLoop c :: k) cs hro hb hr
 cases e with
 | normal =>
  obtain ⟨e₂, a₂, w₂, hq₂, harr₂⟩ := hq b k cs hro hb hr
  exact ⟨e₂, a₂, w₂, hq₂, .of_steps (StepsIn.trans harr (.one (fenced_calm hb hr rfl) stepR_inLoop)) harr₂⟩
 | exit id => exact ⟨_, a₁, w₁, hq, .pass (x := .inLoop c) rfl (fun _ _ => .inl (by simp)) harr⟩
 | goto l => exact ⟨_, a₁, w₁, hq, .pass (x := .inLoop c) rfl (fun _ _ => .inl (by simp)) harr⟩
 | ret => exact ⟨_, a₁, w₁, hq, .pass (x := .inLoop c) rfl (fun _ _ => .inl (by simp)) harr⟩
 | panic ch => exact ⟨_, a₁, w₁, hq, .pass (x := .inLoop c) rfl (fun _ _ => .inl (by simp)) harr⟩
 | outgrown => exact ⟨_, a₁, w₁, hq, .pass (x := .inLoop c) rfl (fun _ _ => .inl (by simp)) harr⟩
theorem LoopIn.mono {F : Fence} {c : Code} {Q Q' : Exit → Act → World → Prop} (h : LoopIn F n P c Q a w) (hq : ∀ e a w, Q e a w → Q' e a w) : LoopIn F n P c Q' a w :=
 fun b k cs hro hb hr => let ⟨e, a', w', q, r⟩ := h b k cs hro hb hr; ⟨e, a', w', hq _ _ _ q, r⟩
theorem LoopIn.wpIn {F : Fence} {c : Code} {Q : Exit → Act → World → Prop} (h : LoopIn F n P c Q a w) : (Code.loop c).wpIn F n P Q a w :=
 fun b k cs hro hb hr => let ⟨e, a', w', q, r⟩ := h b k cs hro hb hr; ⟨e, a', w', q, .of_steps (.one (fenced_calm hb hr rfl) stepR_loop) r⟩
def wpL (F : Fence) (P : Program) (cd : Code) (Q : Exit → Act → World → Prop) (a : Act) (w : World) : Prop :=
 match cd with
 | .loop c => LoopIn F 0 P c Q a w
 | cd => cd.wpIn F 0 P Q a w
theorem wpL.wpIn {F : Fence} {cd : Code} {Q : Exit → Act → World → Prop} (h : wpL F P cd Q a w) : cd.wpIn F 0 P Q a w := by
 cases cd <;> first | exact h | exact LoopIn.wpIn h
theorem wpL.mono {F : Fence} {cd : Code} {Q Q' : Exit → Act → World → Prop} (h : wpL F P cd Q a w) (hq : ∀ e a w, Q e a w → Q' e a w) : wpL F P cd Q' a w := by
 cases cd <;> first | exact wpIn_mono h hq | exact LoopIn.mono h hq
theorem choose_lt (k : Nat) (hk : 0 < k) (w : World) : ∃ j w', j < k ∧ (w' = w ∨ w' = w.drew) ∧ (choose (.mapNext k)).run P w = .ok j w' := by
 rw [run_choose_drew]
 by_cases h : (Question.mapNext k).forced = true
 ·rw [if_pos h]; exact ⟨0, w, hk, .inl rfl, rfl⟩
 ·rw [if_neg h]; exact ⟨_, _, Nat.mod_lt _ hk, .inr rfl, rfl⟩
theorem mnext_sound {ty : TypeId} {id k : Nat} {left : List Nat} {last : Option Nat} {es : List (AV × AV)} {u : Value} (hS : RelS P hh G w σ) (hx : RelV G w (.ptr id 0) u) (hσ : σ[id]? = some (.miter m k left last))
  (he : σ[m]? = some (.map es)) (hk : es.length = k) :
  (left = [] ∧ ∃ w', (Instr.next u false ty).run P w = .ok (.tuple #[.bool false]) w' ∧ RelS P hh G w' σ ∧ Evo G w G w') ∨
  ∃ i x y w' q, i ∈ left ∧ es[i]? = some (x, y) ∧ (Instr.next u false ty).run P w = .ok q w' ∧ RelV G w' (.tuple [.bool true, x, y]) q ∧ RelS P hh G w' (σ.set id (.miter m k (left.filter (· ≠ i)) (some i))) ∧ Evo G w G w' := by
 cases hx with
 | ptr hl =>
  rename_i b
  obtain ⟨bm, seen, stepped, h1, h2, h3, h4, h5⟩ := hS.blk _ _ _ hl hσ
  obtain ⟨ents, hb, hlen, hborn, hrel⟩ := hS.blk _ _ _ h1 he
  have hbl : ∀ e ∈ ents, e.born < k := fun e hm => by
   obtain ⟨i, hi⟩ := Array.getElem?_of_mem hm
   have := (Array.getElem?_eq_some_iff.1 hi).1
   rw [hborn i e hi]
   omega
  obtain ⟨L, hL⟩ : ∃ L, L = ents.filter fun e => !seen.contains e.born := ⟨_, rfl⟩
  have hLm : ∀ e ∈ L, e ∈ ents ∧ seen.contains e.born = false := fun e hm => by
   rw [hL, Array.mem_filter] at hm
   exact ⟨hm.1, by simpa using hm.2⟩
  have hold : L.filter (·.born < k) = L := by
   rw [Array.filter_eq_self]
   intro e hm
   simpa using hbl e (hLm e hm).1
  have hnew : L.filter (·.born ≥ k) = #[] := by
   rw [Array.filter_eq_empty_iff]
   intro e hm
   have := hbl e (hLm e hm).1
   simp
   omega
  have hchk : (!seen.isEmpty && !ents.isEmpty && ents.all (·.born ≥ stepped)) = false := by
   cases hs : seen.isEmpty with
   | true => simp
   | false =>
    rw [h5 hs]
    cases hn : ents.isEmpty with
    | true => simp
    | false =>
     simp only [Bool.not_false, Bool.true_and]
     rw [Bool.eq_false_iff]
     intro hall
     have h0 : 0 < ents.size := by
      rcases Nat.eq_zero_or_pos ents.size with h | h
      ·simp [Array.isEmpty, h] at hn
      ·exact h
     have := Array.all_eq_true.1 hall 0 h0
     have h' := hbl ents[0] (Array.getElem_mem h0)
     simp at this
     omega
  have hpre : ∀ (j : Nat) (w1 : World) (c : Array (Option MapEntry)) (x : Option MapEntry), c = (if L.isEmpty then #[none] else #[]) ++ L.map some → c[j]? = some x → (choose (.mapNext c.size)).run P w = .ok j w1 →
    (Instr.next (.pointer (some ⟨b, 0, none⟩)) false ty).run P w = (match x with
     | some e => (do setObj b (.mapIter (some bm) k (seen.push e.born) es.length); pure (.tuple #[.bool true, e.key, e.val]) : Sem Value)
     | none => (pure (.tuple #[.bool false]) : Sem Value)).run P w1 := by
   intro j w1 c x hc hx hch
   unfold Instr.next
   simp only [Sem.run_bind, getObj_at h2 (fun _ _ _ e => by cases e), Result.andThen_ok, getObj_map hb, hchk, Bool.false_eq_true, if_false, ← hL, hold, hnew, Array.append_empty, Sem.run_pure]
   rw [← hc, hch]
   simp only [Result.andThen_ok, hx]
   cases x <;> rfl
  have hleft : ∀ i, i ∈ left ↔ i < k ∧ seen.contains i = false := fun i => by rw [h3]; simp [List.mem_filter]
  have hdrew : ∀ w1, (w1 = w ∨ w1 = w.drew) → RelS P hh G w1 σ ∧ Evo G w G w1 ∧ w1.heap = w.heap := fun w1 h => by
   rcases h with rfl | rfl
   ·exact ⟨hS, .refl _ _, rfl⟩
   ·exact ⟨hS.drew, evo_drew, rfl⟩
  by_cases hemp : L.isEmpty = true
  ·left
   obtain ⟨j, w1, hj, hw1, hch⟩ := choose_lt (P := P) 1 (by omega) w
   have hL0 : L = #[] := by simpa using hemp
   have hcs : ((if L.isEmpty then #[none] else #[]) ++ L.map some : Array (Option MapEntry)) = #[none] := by rw [hL0]; simp
   have hj0 : j = 0 := by omega
   subst hj0
   have hrun := hpre 0 w1 #[none] none hcs.symm rfl hch
   refine ⟨?_, w1, by rw [hrun]; rfl, (hdrew w1 hw1).1, (hdrew w1 hw1).2.1⟩
   rw [List.eq_nil_iff_forall_not_mem]
   intro i hi
   obtain ⟨q1, q2⟩ := (hleft i).1 hi
   have hie : i < ents.size := by omega
   have : ents[i] ∈ L := by
    rw [hL, Array.mem_filter]
    refine ⟨Array.getElem_mem hie, ?_⟩
    rw [hborn i _ (Array.getElem?_eq_getElem hie), q2]
    rfl
   rw [hL0] at this
   simp at this
  ·right
   have hpos : 0 < L.size := by
    rcases Nat.eq_zero_or_pos L.size with h | h
    ·simp [Array.isEmpty, h] at hemp
    ·exact h
   have hcs : ((if L.isEmpty then #[none] else #[]) ++ L.map some : Array (Option MapEntry)) = L.map some := by simp [hemp]
   obtain ⟨j, w1, hj, hw1, hch⟩ := choose_lt (P := P) L.size hpos w
   have hje : (L.map some)[j]? = some (some L[j]) := by simp [hj]
   have hrun := hpre j w1 (L.map some) (some L[j]) hcs.symm hje (by simpa using hch)
   obtain ⟨hm, hns⟩ := hLm L[j] (Array.getElem_mem hj)
   obtain ⟨i, hi⟩ := Array.getElem?_of_mem hm
   have hbi := hborn i _ hi
   have hik : i < es.length := by have := (Array.getElem?_eq_some_iff.1 hi).1; omega
   have hei : es[i]? = some es[i] := List.getElem?_eq_getElem hik
   obtain ⟨hS1, he1, hh1⟩ := hdrew w1 hw1
   have hb1 : w1.heap[b]? = some (.mapIter (some bm) k seen stepped) := by rw [hh1]; exact h2
   have hw := hS1.write (y := .miter m k (left.filter (· ≠ i)) (some i)) hl (part_setObj w1 b (.mapIter (some bm) k (seen.push L[j].born) es.length)) hσ (fun _ _ _ e => by cases e)
    ⟨bm, seen.push L[j].born, es.length, h1, heap_setObj hb1, by
     rw [h3, List.filter_filter]
     refine List.filter_congr fun x _ => ?_
     rw [hbi]
     simp only [Array.contains_push]
     by_cases hxi : x = i <;> simp [hxi, Bool.and_comm], by simp [hbi], fun _ => hk⟩
   refine ⟨i, es[i].1, es[i].2, _, _, (hleft i).2 ⟨by omega, by rw [← hbi]; exact hns⟩, hei, hrun.trans (by simp only [Sem.run_bind, setObj_at _ hb1 (fun _ _ _ e => by cases e), Result.andThen_ok, Sem.run_pure]; rfl), .tuple rfl fun q x y g1 g2 => ?_, hw.1, he1.trans hw.2⟩
   have hr := hrel i _ _ hei hi
   have he2 : Evo G w G _ := he1.trans hw.2
   match q with
   | 0 => simp at g1 g2; subst g1; subst g2; exact .bool _
   | 1 => simp at g1 g2; subst g1; subst g2; exact hr.1.mono he2
   | 2 => simp at g1 g2; subst g1; subst g2; exact hr.2.mono he2
   | _ + 3 => simp at g1
end Go.Am
namespace Go.Am
variable {P : Program} {hh : String → Bool} {G G0 G1 G' : Gh} {w w0 w1 w' : World} {σ σ' σ1 : St} {env env' : Env} {n m m' : Nat} {v : AV}
theorem RelV.thin (hS : RelS P hh G w σ) (hL : Last σ G m G') {a a' : AV} {u : Value} (h : RelV G w a u) (ht : Thin σ m a a') : RelV G' w a' u := by
 rcases ht with ⟨rfl, ho⟩ | ⟨d, v1, hs, rfl | rfl⟩
 ·exact h.less hL.toLess ho
 ·exact snap_sound hS hL d hs h
 ·exact (snap_sound hS hL d hs h).clr
theorem thins_spec : ∀ {cs cs' : List AV}, Thins σ m cs cs' → cs'.length = cs.length ∧ ∀ (i : Nat) (y : AV), cs'[i]? = some y → ∃ x, cs[i]? = some x ∧ Thin σ m x y
 | [], [], _ => ⟨rfl, fun i y e => by simp at e⟩
 | [], _ :: _, h => h.elim
 | _ :: _, [], h => h.elim
 | a :: az, b :: bs, h => by
  obtain ⟨h1, h2⟩ := h
  obtain ⟨l, r⟩ := thins_spec h2
  refine ⟨by simp [l], fun i y e => ?_⟩
  cases i with
  | zero => simp at e; subst e; exact ⟨a, rfl, h1⟩
  | succ i => simp at e; simpa using r i y e
theorem thinE_get : ∀ {e'' : Env}, ThinE σ m env e'' → ∀ t, Env.get e'' t = .undef ∨ Thin σ m (Env.get env t) (Env.get e'' t)
 | [], _, t => .inl rfl
 | (k, v) :: e, h, t => by
  obtain ⟨h1, h2⟩ := h
  by_cases hk : k = t
  ·subst hk; right; simpa [Env.get] using h1
  ·simpa [Env.get, hk] using thinE_get h2 t
theorem cutT_rel {σ2 : St} {envL : Env} {tmps : Array Value} (hS : RelS P hh G w σ) (he : Evo (G.shut σ) w G1 w1) (h1 : RelS P hh G1 w1 σ1) (hE : RelE G1 w1 n envL tmps) (hm1 : σ.length ≤ σ2.length) (hm2 : σ2.length ≤ σ1.length)
  (hk : ∀ i, i < σ2.length → ∃ b, σ2[i]? = some b ∧ ThinB σ envL σ1 σ2.length i b) : RelS P hh (G1.cut w1 σ1 σ2.length G.res) w1 σ2 := by
 -- the same without the thin ones
 have hL := cut_last (m := σ2.length) h1 G.res
 have loc' : ∀ id b, (G1.cut w1 σ1 σ2.length G.res).loc id = some b → id < σ2.length ∧ G1.loc id = some b := by
  intro id b e
  simp only [Gh.cut] at e
  split at e
  ·exact ⟨‹_›, e⟩
  ·cases e
 have notlim : ∀ b, G1.lim b = none → (∀ id, σ2.length ≤ id → G1.loc id ≠ some b) → (G1.cut w1 σ1 σ2.length G.res).lim b = none := by
  intro b q1 q2
  cases e : (G1.cut w1 σ1 σ2.length G.res).lim b with
  | none => rfl
  | some L =>
   obtain ⟨_, id, cs, p1, p2, _⟩ := cut_lim e q1
   exact absurd p2 (q2 id p1)
 have located : ∀ {id b y}, id < σ.length → G1.loc id = some b → σ[id]? = some y → ∃ b0, G.loc id = some b0 ∧ RelBlk P hh G w y b0 := by
  intro id b y hlt hl hy
  cases e : G.loc id with
  | none =>
   obtain ⟨r, hr⟩ := shut_res e hlt
   have := (h1.res _ _ (he.res _ _ hr)).1
   rw [hl] at this
   cases this
  | some b0 => exact ⟨b0, rfl, hS.blk _ _ _ e hy⟩
 refine ⟨fun id b e => (loc' _ _ e).1, fun id b x e1 e2 => ?_, fun i j b e1 e2 => h1.inj i j b (loc' _ _ e1).2 (loc' _ _ e2).2, fun id b e => ?_, fun b L e => ?_, fun t b n c e => ?_, fun b t e => ?_, fun r e => ?_, h1.base, h1.size, fun id r e => ?_⟩
 ·obtain ⟨q1, q2⟩ := loc' _ _ e1
  obtain ⟨y, hy, hb⟩ := hk id q1
  rw [e2] at hy
  cases hy
  rcases hb with ⟨hlt, hkp, hx⟩ | ⟨hx, ho⟩ | ⟨cs, cs', hx, rfl, ht, _⟩
  ·refine (h1.blk _ _ _ q2 hx).less hL.toLess ?_
   rcases hkp with hkp | ⟨y, hy, ho⟩ | ⟨st, pe, st', pe', env, ps, a, c, p1, p2⟩
   ·obtain ⟨b0, _, hb0⟩ := located hlt q2 (by rw [← hkp]; exact hx)
    exact okBlk'_mono hm1 (hb0.ok hS)
   ·rw [hx] at hy
    cases hy
    exact okBlk'_of ho
   ·obtain ⟨b0, _, hb0⟩ := located hlt q2 p1
    rw [hx] at p2
    cases p2
    exact okBlk'_mono hm1 (x := .loop st pe env ps a c) (hb0.ok hS)
  ·exact (h1.blk _ _ _ q2 hx).less hL.toLess (okBlk'_of ho)
  ·obtain ⟨vs, T, p1, p2, p3⟩ := h1.blk _ _ _ q2 hx
   obtain ⟨l, r⟩ := thins_spec ht
   refine ⟨vs, T, p1, by omega, fun i a v r1 r2 => ?_⟩
   obtain ⟨x, r3, r4⟩ := r i a r1
   exact (p3 i x v r3 r2).thin h1 hL r4
 ·obtain ⟨q1, q2⟩ := loc' _ _ e
  obtain ⟨f1, f2, f3, f4⟩ := h1.fresh _ _ q2
  refine ⟨f1, f2, notlim b f3 fun i hi e' => ?_, f4⟩
  have := h1.inj _ _ _ q2 e'
  omega
 ·cases hn : G1.lim b with
  | some L' =>
   have : (G1.cut w1 σ1 σ2.length G.res).lim b = some L' := by simp [Gh.cut, hn]
   rw [this] at e
   cases e
   exact h1.lim _ _ hn
  | none =>
   obtain ⟨rfl, id, cs, p1, p2, p3⟩ := cut_lim e hn
   obtain ⟨vs, T, q, l, _⟩ := h1.blk _ _ _ p2 p3
   exact ⟨vs, T, (0, 0), q, by simp [rowSize, q], fun hlt => absurd hlt (Nat.not_lt.2 (h1.fresh _ _ p2).1)⟩
 ·have ht : t < σ2.length ∧ G1.tok t = some (b, n, c) := by
   simp only [Gh.cut] at e
   split at e
   ·exact ⟨‹_›, e⟩
   ·cases e
  obtain ⟨sz, ex, q1, q2, q3, q4⟩ := h1.tok _ _ _ _ ht.2
  have hb : σ2[t]? = some (.tok sz n ex) := by
   obtain ⟨y, hy, hb⟩ := hk t ht.1
   rcases hb with ⟨_, _, hx⟩ | ⟨hx, _⟩ | ⟨cs, cs', hx, _⟩
   ·rw [hy, ← q1, hx]
   ·rw [hy, ← q1, hx]
   ·rw [hx] at q1; cases q1
  refine ⟨sz, ex, hb, q2, q3, fun hx => ?_⟩
  obtain ⟨bb, vs, T, r1, r2, r3, r4, r5, r6⟩ := q4 hx
  exact ⟨bb, vs, T, r1, by simp [Gh.cut, r2, r3, ht.1], by simp [Gh.cut, r3], r4, r5, r6⟩
 ·obtain ⟨q1, q2, _⟩ := cut_own e
  obtain ⟨p1, p, p2⟩ := h1.own _ _ q1
  exact ⟨p1, p, hL.tok _ _ q2 p2⟩
 ·obtain ⟨q1, q2, q3⟩ := h1.defs r e
  refine ⟨q1, q2, notlim r q3 fun i hi e' => ?_⟩
  exact (h1.fresh _ _ e').2.2.2 e
 ·obtain ⟨q1, q2, q3⟩ := hS.res id r e
  obtain ⟨p1, p2, p3⟩ := h1.res id r (he.res _ _ ((evo_shut hS).res _ _ e))
  have hlt : id < σ2.length := by omega
  refine ⟨by simp [Gh.cut, p1], hlt, fun cs hc => ?_⟩
  obtain ⟨y, hy, hb⟩ := hk id hlt
  have h3 := p3 cs hc
  rcases hb with ⟨_, _, hx⟩ | ⟨hx, _⟩ | ⟨ds, ds', hx, rfl, ht, hp⟩
  ·rw [hy, ← h3, hx]
  ·rw [hy, ← h3, hx]
  ·rcases hp with hp | ⟨t, off, hp⟩
   ·omega
   ·have := hE.2 t
    rw [hp] at this
    generalize tmps.getD t undef = u at this
    cases this with
    | ptr hl => rw [p1] at hl; cases hl
end Go.Am
namespace Go.Am
variable {P : Program} {hh : String → Bool} {G G0 G1 G2 G' : Gh} {w w0 w1 w2 w' : World} {σ σ' σ1 σ2 : St} {env env' : Env} {n m m' : Nat} {v : AV}
theorem noToks_iff {t : Nat} : ∀ {xs : List AV}, noToks t xs ↔ ∀ x ∈ xs, noTok t x
 | [] => by simp [noToks]
 | x :: xs => by simp [noToks, noToks_iff (xs := xs)]
theorem noToks_get {t : Nat} {xs : List AV} (h : noToks t xs) {i : Nat} {x : AV} (hx : xs[i]? = some x) : noTok t x := noToks_iff.1 h x (List.mem_of_getElem? hx)
theorem noTok_cells {t : Nat} {x : AV} : noTok t x ↔ ∀ c ∈ x.cells, noTok t c := by
 cases x <;> simp [AV.cells, noTok, noToks_iff]
theorem noTok_cell {t : Nat} {x c : AV} {j : Nat} (h : noTok t x) (hc : x.cells[j]? = some c) : noTok t c := noTok_cells.1 h c (List.mem_of_getElem? hc)
theorem flat_inv2 {sz : Nat} : ∀ {xs : List AV}, (∀ (i : Nat) (x : AV), xs[i]? = some x → x.cells.length = sz) → ∀ {k : Nat} {c : AV}, (xs.flatMap AV.cells)[k]? = some c → ∃ i j x, xs[i]? = some x ∧ x.cells[j]? = some c ∧ k = i * sz + j
 | [], _, k, c, h => by simp at h
 | x :: xs, hs, k, c, h => by
  simp only [List.flatMap_cons] at h
  have hx := hs 0 x rfl
  by_cases hk : k < x.cells.length
  ·rw [List.getElem?_append_left hk] at h
   exact ⟨0, k, x, rfl, h, by omega⟩
  ·rw [List.getElem?_append_right (by omega)] at h
   obtain ⟨i, j, y, h1, h2, h3⟩ := flat_inv2 (fun i y e => hs (i + 1) y (by simpa using e)) h
   exact ⟨i + 1, j, y, by simpa using h1, h2, by rw [Nat.add_mul]; omega⟩
theorem flat_len {sz : Nat} : ∀ {xs : List AV}, (∀ (i : Nat) (x : AV), xs[i]? = some x → x.cells.length = sz) → (xs.flatMap AV.cells).length = xs.length * sz
 | [], _ => by simp
 | x :: xs, hs => by
  have hx := hs 0 x rfl
  have := flat_len (xs := xs) (fun i y e => hs (i + 1) y (by simpa using e))
  simp only [List.flatMap_cons, List.length_append, List.length_cons, this, hx, Nat.add_mul]
  omega
def Gh.thaw (G : Gh) (t bb : Nat) : Gh :=
  { G with
    loc := fun id => if id = t then some bb else G.loc id
    lim := fun b => if b = bb then none else G.lim b
    own := fun b => if G.own b = some t then none else G.own b
    tok := fun u => if u = t then none else G.tok u }
theorem RelV.thaw {t bb : Nat} (hl : G.loc t = none) (ho : G.own bb = some t) {a : AV} {u : Value} (h : RelV G w a u) (hn : noTok t a) : RelV (G.thaw t bb) w a u := by
 have hloc : ∀ {id b}, G.loc id = some b → (G.thaw t bb).loc id = some b := fun {id b} e => by
  have : id ≠ t := fun e' => by rw [e', hl] at e; cases e
  simp [Gh.thaw, this, e]
 have hlit : ∀ {xs tk b o sz}, tk ≠ some t → LitAt G w xs tk b o sz → LitAt (G.thaw t bb) w xs tk b o sz := by
  intro xs tk b o sz hne ⟨⟨L, q1, q2⟩, q3, q4, q5⟩
  have hb : b ≠ bb := fun e => hne (q3 t (by rw [e]; exact ho))
  refine ⟨⟨L, by simp [Gh.thaw, hb, q1], q2⟩, fun u e => ?_, q4, q5⟩
  simp only [Gh.thaw] at e
  split at e
  ·cases e
  ·exact q3 u e
 have htk : ∀ {full tk n base cap}, tk ≠ some t → tkOk G full tk n base cap → tkOk (G.thaw t bb) full tk n base cap := by
  intro full tk n base cap hne ⟨q1, q2, q3⟩
  refine ⟨q1, q2, fun u e => ?_⟩
  obtain ⟨b, m, c, r1, r2⟩ := q3 u e
  have : u ≠ t := fun e' => hne (by rw [e, e'])
  exact ⟨b, m, c, by simp [Gh.thaw, this, r1], r2⟩
 induction h with
 | undef v => exact .undef v
 | int k n => exact .int k n
 | bool b => exact .bool b
 | str s => exact .str s
 | func e1 e2 _ _ e3 e4 => exact .func e1 e2 (fun i x u q1 q2 => e3 i x u q1 q2 (noToks_get hn.1 q1)) (fun i x u q1 q2 => e4 i x u q1 q2 (noToks_get hn.2 q1))
 | nilFunc => exact .nilFunc
 | yield h => exact .yield (hloc h)
 | ptr h => exact .ptr (hloc h)
 | nilPtr => exact .nilPtr
 | lptr ht hi hl _ ih =>
  refine .lptr (fun u e => ?_) hi (hlit hn.1 hl) fun i x j c u q1 q2 q3 => ih i x j c u q1 q2 q3 (noTok_cell (noToks_get hn.2 q1) q2)
  obtain ⟨p, q⟩ := ht u e
  have : u ≠ t := fun e' => hn.1 (by rw [e, e'])
  exact ⟨p, by simp [Gh.thaw, this, q]⟩
 | nil ht hb => exact .nil (htk hn.1 ht) hb
 | lit ht hl _ ih => exact .lit (htk hn.1 ht) (hlit hn.1 hl) fun i x j c u q1 q2 q3 => ih i x j c u q1 q2 q3 (noTok_cell (noToks_get hn.2 q1) q2)
 | ref h hb hc hn' => exact .ref (hloc h) hb hc hn'
 | map h => exact .map (hloc h)
 | nilMap => exact .nilMap
 | agg h _ ih => exact .agg h fun i x u q1 q2 => ih i x u q1 q2 (noToks_get hn q1)
 | tuple h _ ih => exact .tuple h fun i x u q1 q2 => ih i x u q1 q2 (noToks_get hn q1)
theorem thaw_sound {tmps : Array Value} (hS : RelS P hh G w σ) (he : Evo G w G2 w2) (h2 : RelS P hh G2 w2 σ1) (hE : RelE G2 w2 n env tmps) (hres : ∀ id r, G2.res id = some r → G.res id = some r) (ht : Thaws σ.length env σ1 env' σ2) :
  ∃ G3, RelS P hh G3 w2 σ2 ∧ RelE G3 w2 n env' tmps ∧ Evo G w G3 w2 ∧ G3.defs = G2.defs := by
 obtain ⟨t, p, xs, sz, t0, tc, t1, t2, tx, t3, t4, t5, t6⟩ := ht
 have hlt : t < σ1.length := (List.getElem?_eq_some_iff.1 t1).1
 have hp := hE.2 p
 rw [t2] at hp
 simp only [Env.get, if_true] at hp
 generalize hu : tmps.getD p undef = u at hp
 have hnl : G2.loc t = none := by
  cases e : G2.loc t with
  | none => rfl
  | some b => exact (h2.blk _ _ _ e t1).elim
 obtain ⟨base, cap, rfl, htk, hbn⟩ := lit_slice hp
 obtain ⟨b0, m0, c0, g1, g2, g3⟩ := htk.2.2 t rfl
 obtain ⟨sz1, ex1, g4, g5, _, g6⟩ := h2.tok _ _ _ _ g1
 rw [t1] at g4
 cases g4
 obtain ⟨rfl, rfl⟩ := g3 rfl rfl
 obtain ⟨bb, vs, T, rfl, r2, r3, r4, r5, r6⟩ := g6 rfl
 have hsize : ∀ (i : Nat) (x : AV), xs[i]? = some x → x.cells.length = sz := fun i x e => (allCells_get tc e).1
 have hcells : ∀ (i : Nat) (x : AV) (j : Nat) (c : AV) (q : Value), xs[i]? = some x → x.cells[j]? = some c → w2.cell? ⟨bb, i * sz + j, none⟩ = some q → RelV G2 w2 c q := by
  intro i x j c q e1 e2 e3
  cases hp with
  | nil => simp at e1
  | @lit _ _ _ b' o' sz' _ _ hl hc =>
   have : sz' = sz := by rw [← hl.size i x e1, hsize i x e1]
   subst this
   exact hc i x j c q e1 e2 (by simpa using e3)
 have hbb : bb < w2.heap.size := (Array.getElem?_eq_some_iff.1 r5).1
 have hrel : ∀ {a : AV} {u : Value}, RelV G2 w2 a u → noTok t a → RelV (G2.thaw t bb) w2 a u := fun h hn => h.thaw hnl r2 hn
 have hown : ∀ {b u}, (G2.thaw t bb).own b = some u → G2.own b = some u ∧ u ≠ t := by
  intro b u e
  simp only [Gh.thaw] at e
  split at e
  ·cases e
  ·rename_i hne; exact ⟨e, fun e' => hne (by rw [e, e'])⟩
 refine ⟨G2.thaw t bb, ⟨fun id b e => ?_, fun id b x e1 e2 => ?_, fun i j b e1 e2 => ?_, fun id b e => ?_, fun b L e => ?_, fun u b k c e => ?_, fun b u e => ?_, fun r e => ?_, h2.base, h2.size, fun id r e => ?_⟩, ⟨hE.1, fun q => ?_⟩, ⟨fun id b e => ?_, fun b L e => ?_, fun u b k c e => ?_, fun b L u e1 e2 => ?_, he.defs, he.B0, he.h0, he.os, he.tape, he.output, he.size, fun id r e => he.res id r e⟩, rfl⟩
 ·rw [t6, List.length_set]
  simp only [Gh.thaw] at e
  split at e
  ·omega
  ·exact h2.lt _ _ e
 ·simp only [Gh.thaw] at e1
  split at e1
  ·rename_i hid
   subst hid
   cases e1
   rw [t6, List.getElem?_set_self hlt] at e2
   cases e2
   refine ⟨vs, T, r5, ?_, fun i a v q1 q2 => ?_⟩
   ·rw [flat_len hsize]
    exact Nat.le_trans (Nat.mul_le_mul_right _ g5) r6
   ·obtain ⟨i', j, x, p1, p2, rfl⟩ := flat_inv2 hsize q1
    refine hrel (hcells i' x j a v p1 p2 ?_) (noTok_cell (noToks_get tx p1) p2)
    rw [cell_of_row w2 bb _ vs T (0, 0) r5]
    exact q2
  ·rename_i hid
   rw [t6, List.getElem?_set_ne (fun e => hid e.symm)] at e2
   have hb := h2.blk _ _ _ e1 e2
   have hn := t4 id x hid e2
   cases x with
   | cells cs =>
    obtain ⟨vs', T', q1, q2, q3⟩ := hb
    exact ⟨vs', T', q1, q2, fun i a v p1 p2 => hrel (q3 i a v p1 p2) (noToks_get hn p1)⟩
   | map es =>
    obtain ⟨ents, q1, q2, q3, q4⟩ := hb
    exact ⟨ents, q1, q2, q3, fun i p e p1 p2 => ⟨hrel (q4 i p e p1 p2).1 (hn p (List.mem_of_getElem? p1)).1, hrel (q4 i p e p1 p2).2 (hn p (List.mem_of_getElem? p1)).2⟩⟩
   | tok _ _ _ => exact hb
   | siter s pos => exact hb
   | miter m n left last =>
    obtain ⟨bm, seen, stepped, q1, q2⟩ := hb
    refine ⟨bm, seen, stepped, ?_, q2⟩
    have : m ≠ t := fun e => by rw [e, hnl] at q1; cases q1
    simp [Gh.thaw, this, q1]
   | loop st pend env ps a c => exact hn.elim
   | dead => trivial
 ·have aux : ∀ {i}, G2.loc i = some bb → False := fun {i} e => by have := (h2.fresh _ _ e).2.2.1; rw [r3] at this; cases this
  simp only [Gh.thaw] at e1 e2
  split at e1 <;> split at e2
  ·omega
  ·cases e1; exact (aux e2).elim
  ·cases e2; exact (aux e1).elim
  ·exact h2.inj _ _ _ e1 e2
 ·simp only [Gh.thaw] at e
  split at e
  ·cases e
   refine ⟨r4, hbb, by simp [Gh.thaw], fun hd => ?_⟩
   have := (h2.defs _ hd).2.2
   rw [r3] at this
   cases this
  ·obtain ⟨q1, q2, q3, q4⟩ := h2.fresh _ _ e
   exact ⟨q1, q2, by simp [Gh.thaw, q3], q4⟩
 ·simp only [Gh.thaw] at e
  split at e
  ·cases e
  ·exact h2.lim _ _ e
 ·simp only [Gh.thaw] at e
  split at e
  ·cases e
  ·rename_i hut
   obtain ⟨sz', ex', q1, q2, q3, q4⟩ := h2.tok _ _ _ _ e
   refine ⟨sz', ex', by rw [t6, List.getElem?_set_ne (fun e => hut e.symm)]; exact q1, q2, q3, fun hx => ?_⟩
   obtain ⟨b', vs', T', s1, s2, s3, s4, s5, s6⟩ := q4 hx
   have hb' : b' ≠ bb := fun e' => by rw [e', r2] at s2; cases s2; exact hut rfl
   exact ⟨b', vs', T', s1, by simp [Gh.thaw, s2, hut], by simp [Gh.thaw, hb', s3], s4, s5, s6⟩
 ·obtain ⟨q1, q2⟩ := hown e
  obtain ⟨p1, p, p2⟩ := h2.own _ _ q1
  exact ⟨p1, p, by simp [Gh.thaw, q2, p2]⟩
 ·obtain ⟨q1, q2, q3⟩ := h2.defs r e
  exact ⟨q1, q2, by simp [Gh.thaw, q3]⟩
 ·obtain ⟨q1, q2, q3⟩ := h2.res id r e
  have hid : id ≠ t := by have := (hS.res _ _ (hres _ _ e)).2.1; omega
  refine ⟨by simp [Gh.thaw, hid, q1], by rw [t6, List.length_set]; exact q2, fun cs hc => ?_⟩
  rw [t6, List.getElem?_set_ne (fun e => hid e.symm)]
  exact q3 cs hc
 ·rw [t5]
  by_cases hq : p = q
  ·subst hq
   rw [hu]
   simp only [Env.get, if_true]
   exact .ref (by simp [Gh.thaw]) (fun _ => rfl) g5 (fun e => by cases e)
  ·simp only [Env.get, hq, if_false]
   have h := hE.2 q
   rw [t2] at h
   simp only [Env.get, hq, if_false] at h
   refine hrel h ?_
   generalize env.tail = e at t3
   induction e with
   | nil => trivial
   | cons a e ih =>
    obtain ⟨k, v⟩ := a
    by_cases hk : k = q
    ·simp only [Env.get, hk, if_true]; exact t3 (k, v) (by simp)
    ·simp only [Env.get, hk, if_false]; exact ih fun q hq => t3 q (List.mem_cons_of_mem _ hq)
 ·have := hS.lt _ _ e
  have h := he.loc _ _ e
  simp [Gh.thaw, show id ≠ t by omega, h]
 ·obtain ⟨L', q1, q2⟩ := he.lim b L e
  have hb : b ≠ bb := by
   intro e'
   subst e'
   obtain ⟨_, p, hp'⟩ := hS.own _ _ (he.own _ _ _ e r2)
   obtain ⟨pb, pn, pc⟩ := p
   obtain ⟨_, _, q, _⟩ := hS.tok _ _ _ _ hp'
   have := (List.getElem?_eq_some_iff.1 q).1
   omega
  exact ⟨L', by simp [Gh.thaw, hb, q1], q2⟩
 ·obtain ⟨_, _, q, _⟩ := hS.tok _ _ _ _ e
  have := (List.getElem?_eq_some_iff.1 q).1
  obtain ⟨b', n', c', r1, r2⟩ := he.tok _ _ _ _ e
  exact ⟨b', n', c', by simp [Gh.thaw, show u ≠ t by omega, r1], r2⟩
 ·exact he.own b L u e1 (hown e2).1
end Go.Am
namespace Go.Am
variable {P : Program} {hh : String → Bool} {G G0 G1 G' : Gh} {w w0 w1 w' : World} {σ σ' σ1 : St} {env env' : Env} {n m m' : Nat} {v : AV} {a : Act} {Q R S : Out → Prop}
theorem Post.lift {B : Nat} {e : Exit} (he : Evo G w G1 w1) (h : Post P hh G1 w1 n B Q e a w') : Post P hh G w n B Q e a w' := by
 obtain ⟨o, G', q1, q2, q3, q4, q5, q6⟩ := h
 exact ⟨o, G', q1, q2, q3, q4, he.trans q5, q6⟩
theorem Post.mono {B : Nat} {e : Exit} (hq : ∀ o, Q o → R o) (h : Post P hh G w n B Q e a w') : Post P hh G w n B R e a w' := by
 obtain ⟨o, G', q1, q2⟩ := h
 exact ⟨o, G', hq _ q1, q2⟩
def OpsRel (P : Program) (hh : String → Bool) (n : Nat) (ops : Array Oper) : List Nat → List AOper → Prop
 | [], [] => True
 | i :: l, d :: os => (∃ o, ops[i]? = some o ∧ compOper P hh n ops o = some d) ∧ OpsRel P hh n ops l os
 | _, _ => False
def Mean (P : Program) (hh : String → Bool) : Task → (Out → Prop) → Prop
 | .code c env σ, Q => ∀ {F : Fence} {n : Nat} {cd : Code} {G : Gh} {w : World} {a : Act} {B : Nat}, (F = Fence.wide ∨ ∃ l, F = Fence.wide.inRound l ∧ noRF cd = true) → comp P hh n cd = some c → RelE G w n env a.tmps → RelS P hh G w σ →
   Marks G B a.defers → B ≤ w.heap.size → wpL F P cd (Post P hh G w n B Q) a w
 | .ops os env σ, Q => ∀ {F : Fence} {n : Nat} {ops : Array Oper} {l : List Nat} {G : Gh} {w : World} {a : Act} {B : Nat} {R : Exit → Act → World → Prop}, FW F → OpsRel P hh n ops l os → RelE G w n env a.tmps → RelS P hh G w σ → Marks G B a.defers →
   (∀ o G' a' w', Q o → o.j = none → RelE G' w' n o.env a'.tmps → RelS P hh G' w' o.σ → Evo G w G' w' → Marks G' B a'.defers → R .normal a' w') → wpOpsIn F 0 P ops R l a w
 | .dops ds env σ next hist reads, Q => ∀ k, hist.length = k + 1 → hist[k]? = some σ → ∃ vs t σf, AllFacts P hh (hist ++ t) ds env k next vs ∧ (hist ++ t)[k + ds.countP (·.o.op.acts)]? = some σf ∧
   Q ⟨none, envAfter ds env vs, σf, .undef⟩ ∧ ∀ r ∈ reads, ARead.ok r (hist ++ t)
 | .call f args σ, Q => CallSound P hh f args σ Q
 | .callv f args σ, Q => CallvSound P hh f args σ Q
 | .chain az env σ, Q => ∀ {F : Fence} {n : Nat} {c0 : ACode} {cd : Code} {G : Gh} {w : World} {a : Act} {B : Nat} {K : Exit → Act → World → Prop}, (F = Fence.wide ∨ ∃ l, F = Fence.wide.inRound l ∧ noRF cd = true) → comp P hh n cd = some (seqs az c0) →
   RelE G w n env a.tmps → RelS P hh G w σ → Marks G B a.defers → B ≤ w.heap.size →
   (∀ d o G' a' w', comp P hh n d = some c0 → (F = Fence.wide ∨ ∃ l, F = Fence.wide.inRound l ∧ noRF d = true) → Q o → o.j = none → RelE G' w' n o.env a'.tmps → RelS P hh G' w' o.σ → Evo G w G' w' → Marks G' B a'.defers → d.wpIn F 0 P K a' w') →
   (∀ o G' a' w', Q o → o.j ≠ none → RelE G' w' n o.env a'.tmps → RelS P hh G' w' o.σ → Evo G w G' w' → Marks G' B a'.defers → K (exOf o.j) a' w') → cd.wpIn F 0 P K a w
theorem fw_of {F : Fence} {p : Prop} (h : F = Fence.wide ∨ ∃ l, F = Fence.wide.inRound l ∧ p) : FW F := by
 rcases h with rfl | ⟨l, rfl, _⟩
 ·exact .inl rfl
 ·exact .inr ⟨l, rfl⟩
theorem fok_of {F : Fence} {p q : Prop} (h : F = Fence.wide ∨ ∃ l, F = Fence.wide.inRound l ∧ p) (hpq : p → q) : F = Fence.wide ∨ ∃ l, F = Fence.wide.inRound l ∧ q := by
 rcases h with rfl | ⟨l, rfl, h⟩
 ·exact .inl rfl
 ·exact .inr ⟨l, rfl, hpq h⟩
theorem mean_mono {t : Task} (h : Mean P hh t R) (hq : ∀ o, R o → Q o) : Mean P hh t Q := by
 cases t with
 | code c env σ => intro F n cd G w a B h1 h2 h3 h4 h5 h6; exact (h h1 h2 h3 h4 h5 h6).mono fun e a w => Post.mono hq
 | ops os env σ => intro F n ops l G w a B R' h1 h2 h3 h4 h5 h6; exact h h1 h2 h3 h4 h5 fun o G' a' w' q => h6 o G' a' w' (hq o q)
 | dops ds env σ next hist reads =>
  intro k h1 h2
  obtain ⟨vs, t, σf, q1, q2, q3, q4⟩ := h k h1 h2
  exact ⟨vs, t, σf, q1, q2, hq _ q3, q4⟩
 | call f args σ =>
  refine ⟨h.1, fun ha hS => (h.2 ha hS).mono fun e w' hr => ?_⟩
  obtain ⟨r, G', u, q1, q2, q3⟩ := hr
  exact ⟨r, G', u, q1, hq _ q2, q3⟩
 | callv f args σ => exact callv_mono h hq
 | chain az env σ =>
  intro F n c0 cd G w a B K h1 h2 h3 h4 h5 h6 h7 h8
  exact h h1 h2 h3 h4 h5 h6 (fun d o G' a' w' p1 p2 p3 => h7 d o G' a' w' p1 p2 (hq _ p3)) fun o G' a' w' p => h8 o G' a' w' (hq _ p)
theorem mean_skip (h : Q ⟨none, env, σ, .undef⟩) : Mean P hh (.code .skip env σ) Q := by
 intro F n cd G w a B h1 h2 h3 h4 h5 h6
 have hp : Post P hh G w n B Q .normal a w := ⟨_, G, h, rfl, h3, h4, .refl _ _, h5⟩
 rcases comp_skip h2 with rfl | ⟨l, rfl⟩
 ·exact wpIn_skip hp
 ·exact wpIn_label hp
theorem mean_jump {j : AJump} (h : Q ⟨some j, env, σ, .undef⟩) : Mean P hh (.code (.jump j) env σ) Q := by
 intro F n cd G w a B h1 h2 h3 h4 h5 h6
 have hp : Post P hh G w n B Q (exOf (some j)) a w := ⟨_, G, h, rfl, h3, h4, .refl _ _, h5⟩
 have := comp_jump h2
 subst this
 cases j with
 | ret => exact wpIn_ret hp
 | exit id => exact wpIn_exit hp
theorem mean_seq {x y : ACode} (h : Mean P hh (.code x env σ) R) (h1 : ∀ o, R o → o.j = none → Mean P hh (.code y o.env o.σ) Q) (h2 : ∀ o, R o → o.j ≠ none → Q o) : Mean P hh (.code (.seq x y) env σ) Q := by
 intro F n cd G w a B f1 f2 f3 f4 f5 f6
 obtain ⟨c, d, rfl, c1, c2⟩ := comp_seq f2
 refine wpIn_seq (wpIn_mono (h (fok_of f1 fun e => by simp [noRF] at e; exact e.1) c1 f3 f4 f5 f6).wpIn fun e a' w' hp => ?_)
 obtain ⟨o, G', q1, rfl, q3, q4, q5, q6⟩ := hp
 cases hj : o.j with
 | none => exact ((h1 o q1 hj) (fok_of f1 fun e => by simp [noRF] at e; exact e.2) c2 q3 q4 q6 (Nat.le_trans f6 q5.size)).mono (fun e a w => Post.lift q5) |>.wpIn
 | some j =>
  have := h2 o q1 (by rw [hj]; simp)
  have hp : Post P hh G w n B Q (exOf (some j)) a' w' := ⟨o, G', this, by rw [hj], q3, q4, q5, q6⟩
  cases j <;> exact hp
theorem mean_cond {c : AOpd} {x y : ACode} (b : Bool) (hc : c.ev env = .bool b) (h : Mean P hh (.code (if b then x else y) env σ) Q) : Mean P hh (.code (.cond c x y) env σ) Q := by
 intro F n cd G w a B f1 f2 f3 f4 f5 f6
 obtain ⟨o, p, q, rfl, c1, c2, c3⟩ := comp_cond f2
 have hr := ev_rel (a := a) c1 f3
 rw [hc] at hr
 have hv : a.eval o = .bool b := by generalize a.eval o = u at hr; cases hr; rfl
 refine wpIn_cond hv ?_
 cases b
 ·exact (h (fok_of f1 fun e => by simp [noRF] at e; exact e.2) c3 f3 f4 f5 f6).wpIn
 ·exact (h (fok_of f1 fun e => by simp [noRF] at e; exact e.1) c2 f3 f4 f5 f6).wpIn
theorem mean_block {id : Nat} {b : ACode} (h : Mean P hh (.code b env σ) R) (h1 : ∀ o, R o → Q (if o.j = some (.exit id) then { o with j := none } else o)) : Mean P hh (.code (.block id b) env σ) Q := by
 intro F n cd G w a B f1 f2 f3 f4 f5 f6
 obtain ⟨c, rfl, c1⟩ := comp_block f2
 refine wpIn_block (wpIn_mono (h (fok_of (q := noRF c = true) f1 fun e => e) c1 f3 f4 f5 f6).wpIn fun e a' w' hp => ?_)
 obtain ⟨o, G', q1, rfl, q3, q4, q5, q6⟩ := hp
 have hq := h1 o q1
 cases hj : o.j with
 | none =>
  rw [hj, if_neg (by simp)] at hq
  exact ⟨o, G', hq, by rw [hj], q3, q4, q5, q6⟩
 | some j =>
  cases j with
  | ret =>
   rw [hj, if_neg (by simp)] at hq
   exact ⟨o, G', hq, by rw [hj], q3, q4, q5, q6⟩
  | exit id' =>
   by_cases hid : id' = id
   ·subst hid
    rw [hj, if_pos rfl] at hq
    show Exit.inBlock id' _ (.exit id') a' w'
    simp only [Exit.inBlock, if_true]
    exact ⟨_, G', hq, rfl, q3, q4, q5, q6⟩
   ·rw [hj, if_neg (by simpa using hid)] at hq
    show Exit.inBlock id _ (.exit id') a' w'
    simp only [Exit.inBlock, hid, if_false]
    exact ⟨o, G', hq, by rw [hj]; rfl, q3, q4, q5, q6⟩
theorem mean_loop {b : ACode} (h : Mean P hh (.code b env σ) R) (h1 : ∀ o, R o → o.j = none → Mean P hh (.code (.loop b) o.env o.σ) Q) (h2 : ∀ o, R o → o.j ≠ none → Q o) : Mean P hh (.code (.loop b) env σ) Q := by
 intro F n cd G w a B f1 f2 f3 f4 f5 f6
 obtain ⟨c, rfl, c1⟩ := comp_loop f2
 refine LoopIn.round (wpIn_mono (h (fok_of (q := noRF c = true) f1 fun e => e) c1 f3 f4 f5 f6).wpIn fun e a' w' hp => ?_)
 obtain ⟨o, G', q1, rfl, q3, q4, q5, q6⟩ := hp
 cases hj : o.j with
 | none => exact LoopIn.mono ((h1 o q1 hj) f1 f2 q3 q4 q6 (Nat.le_trans f6 q5.size)) (fun e a w => Post.lift q5)
 | some j =>
  have := h2 o q1 (by rw [hj]; simp)
  have hp : Post P hh G w n B Q (exOf (some j)) a' w' := ⟨o, G', this, by rw [hj], q3, q4, q5, q6⟩
  cases j <;> exact hp
theorem mean_scope {b : ACode} (h : Mean P hh (.code b env σ) Q) : Mean P hh (.code (.scope b) env σ) Q := by
 intro F n cd G w a B f1 f2 f3 f4 f5 f6
 obtain ⟨c, rfl, c1⟩ := comp_scope f2
 refine wpIn_scope' (fun l a w hp => ?_) (h (fok_of (q := noRF c = true) f1 fun e => e) c1 f3 f4 f5 f6).wpIn
 obtain ⟨o, G', _, q2, _⟩ := hp
 cases hj : o.j with
 | none => rw [hj] at q2; cases q2
 | some j => rw [hj] at q2; cases j <;> cases q2
theorem opsRel_range {ops : Array Oper} {os : List AOper} (h : compOpers P hh n ops ops.toList = some os) : OpsRel P hh n ops (List.range ops.size) os := by
 have key : ∀ (l : List Oper) (os : List AOper) (k : Nat), compOpers P hh n ops l = some os → (∀ (i : Nat) (o : Oper), l[i]? = some o → ops[k + i]? = some o) → OpsRel P hh n ops (List.range' k l.length) os := by
  intro l
  induction l with
  | nil => intro os k h _; simp [compOpers] at h; subst h; trivial
  | cons o l ih =>
   intro os k h hk
   simp only [compOpers] at h
   split at h
   ·rename_i d ds h1 h2
    cases h
    refine ⟨⟨o, by simpa using hk 0 o rfl, h1⟩, ih ds (k + 1) h2 fun i o' e => ?_⟩
    have := hk (i + 1) o' (by simpa using e)
    rw [show k + 1 + i = k + (i + 1) by omega]
    exact this
   ·cases h
 have := key ops.toList os 0 h fun i o e => by rw [Nat.zero_add]; simpa using e
 rw [List.range_eq_range']
 simpa using this
theorem mean_reg {os : List AOper} (h : Mean P hh (.ops os env σ) Q) (hj : ∀ o, Q o → True) : Mean P hh (.code (.reg os) env σ) Q := by
 intro F n cd G w a B f1 f2 f3 f4 f5 f6
 obtain ⟨id, ops, rfl, c1⟩ := comp_reg f2
 exact wpIn_region (h (fw_of f1) (opsRel_range c1) f3 f4 f5 fun o G' a' w' q1 q2 q3 q4 q5 q6 => ⟨o, G', q1, by rw [q2]; rfl, q3, q4, q5, q6⟩)
theorem mean_dreg {ds : List ADOper} (h : Mean P hh (.dops ds env (σ ++ allocsOf ds) σ.length [σ ++ allocsOf ds] []) Q) : Mean P hh (.code (.dreg ds) env σ) Q := by
 intro F n cd G w a B f1 f2 f3 f4 f5 f6
 obtain ⟨id, ops, os, rfl, c1, c2, c3, rfl⟩ := comp_dreg f2
 obtain ⟨vs, t, σf, q1, q2, q3, _⟩ := h 0 rfl rfl
 refine draw_sound (fw_of f1) c1 c2 c3 f3 f4 f5 q1 rfl ?_ q3
 rw [← q2, Nat.zero_add, actPlaces_length]
 congr 1
 conv => lhs; rw [← windows_map (Region.before ops) os]
 rw [List.countP_map]
 rfl
theorem mean_nil (h : Q ⟨none, env, σ, .undef⟩) : Mean P hh (.ops [] env σ) Q := by
 intro F n ops l G w a B R f1 f2 f3 f4 f5 f6
 cases l with
 | nil => exact f6 _ G a w h rfl f3 f4 (.refl _ _) f5
 | cons i l => exact f2.elim
theorem guard_rel (hE : RelE G w n env a.tmps) {d : AOper} : ∀ t want, d.guard = some (t, want) → RelV G w (Env.get env t) (a.tmps.getD t undef) := fun t _ _ => hE.2 t
theorem put_defers' (dst : Option Nat) (u : Value) : (a.put dst u).defers = a.defers := by cases dst <;> rfl
theorem mean_off {o : AOper} {os : List AOper} (hw : o.wanted env = some false) (h : Mean P hh (.ops os (Env.put env o.dst (.tuple [])) σ) Q) : Mean P hh (.ops (o :: os) env σ) Q := by
 intro F n ops l G w a B R f1 f2 f3 f4 f5 f6
 cases l with
 | nil => exact f2.elim
 | cons i l =>
  obtain ⟨⟨od, ho, hcomp⟩, hrest⟩ := f2
  obtain ⟨c1, c2, c3, c4⟩ := compOper_spec hcomp
  simp only [wpOpsIn, ho, wanted_ok hcomp (guard_rel f3) hw, Bool.false_eq_true, if_false]
  refine ⟨fun f _ => f1.fn f, h f1 hrest ?_ f4 (by rw [put_defers']; exact f5) f6⟩
  rw [c2]
  exact f3.put c3 undef_rel
theorem mean_step {o : AOper} {os : List AOper} (hw : o.wanted env = some true) (ha : aop o.op env σ = some (v, σ')) (h : Mean P hh (.ops os (Env.put env o.dst v) σ') Q) : Mean P hh (.ops (o :: os) env σ) Q := by
 intro F n ops l G w a B R f1 f2 f3 f4 f5 f6
 cases l with
 | nil => exact f2.elim
 | cons i l =>
  obtain ⟨⟨od, ho, hcomp⟩, hrest⟩ := f2
  obtain ⟨c1, c2, c3, c4⟩ := compOper_spec hcomp
  simp only [wpOpsIn, ho, wanted_ok hcomp (guard_rel f3) hw, if_true, Oper.wpIn]
  refine ⟨fun f _ => f1.fn f, ?_⟩
  rw [sem_at c1]
  refine upon_res (aop_sound c1 f3 f4 ha) fun u G' w' hu hS' he => ?_
  refine h f1 hrest ?_ hS' (by rw [put_defers']; exact f5.mono he.defs) fun o' G2 a' w2 g1 g2 g3 g4 g5 g6 => f6 o' G2 a' w2 g1 g2 g3 g4 (he.trans g5) g6
  rw [c2]
  exact (f3.mono he).put c3 hu
theorem mean_stepc {o : AOper} {os : List AOper} {f : AOpd} {args : List AOpd} (hw : o.wanted env = some true) (hop : o.op = .call f args) (hc : Mean P hh (.callv (f.ev env) (args.map (·.ev env)) σ) R)
  (h : ∀ r, R r → Mean P hh (.ops os (Env.put env o.dst r.v) r.σ) Q) : Mean P hh (.ops (o :: os) env σ) Q := by
 intro F n ops l G w a B R f1 f2 f3 f4 f5 f6
 cases l with
 | nil => exact f2.elim
 | cons i l =>
  obtain ⟨⟨od, ho, hcomp⟩, hrest⟩ := f2
  obtain ⟨c1, c2, c3, c4⟩ := compOper_spec hcomp
  simp only [wpOpsIn, ho, wanted_ok hcomp (guard_rel f3) hw, if_true, Oper.wpIn]
  refine ⟨fun f _ => f1.fn f, ?_⟩
  rw [sem_at c1]
  rw [hop] at c1
  refine upon_call f1 c1 f3 f4 hc fun r G' w' u hr hu hS' he => ?_
  refine h r hr f1 hrest ?_ hS' (by rw [put_defers']; exact f5.mono he.defs) fun o' G2 a' w2 g1 g2 g3 g4 g5 g6 => f6 o' G2 a' w2 g1 g2 g3 g4 (he.trans g5) g6
  rw [c2]
  exact (f3.mono he).put c3 hu
theorem comp_mnext {pos : String} {op : Op} {x : AOpd} (h : compOp P hh pos op = some (.mnext x)) : ∃ o, op = .next o false ∧ opd o = some x := by
 cases op with
 | next o s =>
  simp only [compOp] at h
  split at h
  ·rename_i y hy
   split at h
   ·cases h
   ·rename_i hs; cases h; exact ⟨o, by simp at hs; rw [hs], hy⟩
  ·cases h
 | call c =>
  exfalso
  simp only [compOp, compCall] at h
  repeat' split at h
  all_goals first | (cases h; done) | (simp_all; done)
 | _ =>
  exfalso
  simp only [compOp] at h
  repeat' split at h
  all_goals first | (cases h; done) | (simp_all; done)
theorem mean_stepm {o : AOper} {os : List AOper} {x : AOpd} {id k : Nat} {es : List (AV × AV)} {left : List Nat} {last : Option Nat} (hw : o.wanted env = some true) (hop : o.op = .mnext x) (hx : x.ev env = .ptr id 0)
  (hl : σ[id]? = some (.miter m k left last)) (he : σ[m]? = some (.map es)) (hk : es.length = k)
  (h0 : left = [] → Mean P hh (.ops os (Env.put env o.dst (.tuple [.bool false])) σ) Q)
  (h1 : ∀ i x y, i ∈ left → es[i]? = some (x, y) → Mean P hh (.ops os (Env.put env o.dst (.tuple [.bool true, x, y])) (σ.set id (.miter m k (left.filter (· ≠ i)) (some i)))) Q) :
  Mean P hh (.ops (o :: os) env σ) Q := by
 intro F n ops l G w a B R f1 f2 f3 f4 f5 f6
 cases l with
 | nil => exact f2.elim
 | cons i l =>
  obtain ⟨⟨od, ho, hcomp⟩, hrest⟩ := f2
  obtain ⟨c1, c2, c3, c4⟩ := compOper_spec hcomp
  simp only [wpOpsIn, ho, wanted_ok hcomp (guard_rel f3) hw, if_true, Oper.wpIn]
  refine ⟨fun f _ => f1.fn f, ?_⟩
  rw [sem_at c1]
  rw [hop] at c1
  obtain ⟨xo, hxo, hxp⟩ := comp_mnext c1
  have hr := ev_rel (a := a) hxp f3
  rw [hx] at hr
  rcases mnext_sound (ty := od.type) f4 hr hl he hk with ⟨hnil, w1, hrun, hS1, he1⟩ | ⟨j, y, z, w1, q, hj, hjes, hrun, hq, hS1, he1⟩
  ·rw [show (execOp a.eval od).run P w = .ok (.value (.tuple #[.bool false])) w1 from by simp [execOp, hxo, hrun], Oper.uponIn_value]
   refine h0 hnil f1 hrest ?_ hS1 (by rw [put_defers']; exact f5.mono he1.defs) fun o' G2 a' w2 g1 g2 g3 g4 g5 g6 => f6 o' G2 a' w2 g1 g2 g3 g4 (he1.trans g5) g6
   rw [c2]
   refine (f3.mono he1).put c3 (.tuple rfl fun i a u e1 e2 => ?_)
   match i with
   | 0 => simp at e1 e2; subst e1; subst e2; exact .bool _
   | _ + 1 => simp at e1
  ·rw [show (execOp a.eval od).run P w = .ok (.value q) w1 from by simp [execOp, hxo, hrun], Oper.uponIn_value]
   refine h1 j y z hj hjes f1 hrest ?_ hS1 (by rw [put_defers']; exact f5.mono he1.defs) fun o' G2 a' w2 g1 g2 g3 g4 g5 g6 => f6 o' G2 a' w2 g1 g2 g3 g4 (he1.trans g5) g6
   rw [c2]
   exact (f3.mono he1).put c3 hq
section
variable {ds : List ADOper} {d : ADOper} {next : Nat} {hist : List St} {reads : List ARead}
theorem mean_dnil (hr : ∀ r ∈ reads, ARead.ok r hist) (h : Q ⟨none, env, σ, .undef⟩) : Mean P hh (.dops [] env σ next hist reads) Q := by
 intro k h1 h2
 exact ⟨[], [], σ, rfl, by simpa using h2, h, by simpa using hr⟩
theorem hist_get {s : St} {k : Nat} {t : List St} (h1 : hist.length = k + 1) (h2 : hist[k]? = some s) : (hist ++ t)[k]? = some s := by
 rw [List.getElem?_append_left (by omega)]; exact h2
theorem mean_dstay (hna : d.o.op.acts = false) (hf : ∀ k t, hist.length = k + 1 → hist[k]? = some σ → (∀ r ∈ reads, ARead.ok r (hist ++ t)) → OpFact P hh (hist ++ t) d env k next v) {reads' : List ARead}
  (hsub : ∀ r ∈ reads, r ∈ reads') (hf' : ∀ k t, hist.length = k + 1 → hist[k]? = some σ → (∀ r ∈ reads', ARead.ok r (hist ++ t)) → OpFact P hh (hist ++ t) d env k next v)
  (h : Mean P hh (.dops ds (Env.put env d.o.dst v) σ (if d.o.op.allocs then next + 1 else next) hist reads') Q) : Mean P hh (.dops (d :: ds) env σ next hist reads) Q := by
 intro k h1 h2
 obtain ⟨vs, t, σf, q1, q2, q3, q4⟩ := h k h1 h2
 refine ⟨v :: vs, t, σf, ⟨hf' k t h1 h2 q4, ?_⟩, ?_, q3, fun r hr => q4 r (hsub r hr)⟩
 ·rw [hna]
  exact q1
 ·rw [List.countP_cons, hna]
  exact q2
theorem mean_dacts {s' : St} (hact : d.o.op.acts = true) (hf : ∀ k t, (hist ++ [s'] ++ t)[k]? = some σ → (hist ++ [s'] ++ t)[k + 1]? = some s' → OpFact P hh (hist ++ [s'] ++ t) d env k next v)
  (h : Mean P hh (.dops ds (Env.put env d.o.dst v) s' (if d.o.op.allocs then next + 1 else next) (hist ++ [s']) reads) Q) : Mean P hh (.dops (d :: ds) env σ next hist reads) Q := by
 intro k h1 h2
 obtain ⟨vs, t, σf, q1, q2, q3, q4⟩ := h (k + 1) (by simp [h1]) (by rw [List.getElem?_append_right (by omega)]; simp [h1])
 have e : hist ++ ([s'] ++ t) = hist ++ [s'] ++ t := by simp
 refine ⟨v :: vs, [s'] ++ t, σf, ?_, ?_, q3, by rw [e]; exact q4⟩
 ·rw [e]
  refine ⟨hf k t ?_ ?_, ?_⟩
  ·rw [List.append_assoc]; exact hist_get h1 h2
  ·rw [List.append_assoc, List.getElem?_append_right (by omega)]; simp [h1]
  ·rw [hact]
   exact q1
 ·rw [e, List.countP_cons, hact, if_pos rfl, ← Nat.add_assoc, Nat.add_right_comm]
  exact q2
theorem allocs_of_acts {op : AOp} (h : op.acts = true) : op.allocs = false := by cases op <;> simp [AOp.acts, AOp.allocs] at h ⊢
theorem mean_doff (hw : d.o.wanted env = some false) (h : Mean P hh (.dops ds (Env.put env d.o.dst (.tuple [])) σ (if d.o.op.allocs then next + 1 else next) (if d.o.op.acts then hist ++ [σ] else hist) reads) Q) :
  Mean P hh (.dops (d :: ds) env σ next hist reads) Q := by
 cases ha : d.o.op.acts with
 | true =>
  rw [ha] at h
  exact mean_dacts ha (fun k t e1 e2 => .inl ⟨hw, rfl, fun _ => ⟨σ, e1, e2⟩⟩) h
 | false =>
  rw [ha] at h
  have hf : ∀ (k : Nat) (t : List St), OpFact P hh (hist ++ t) d env k next (.tuple []) := fun k t => .inl ⟨hw, rfl, fun e => by rw [ha] at e; cases e⟩
  exact mean_dstay ha (fun k t _ _ _ => hf k t) (fun r hr => hr) (fun k t _ _ _ => hf k t) h
theorem mean_dalloc {z : List AV} (hw : d.o.wanted env = some true) (ho : d.o.op = .alloc z) (h : Mean P hh (.dops ds (Env.put env d.o.dst (.ptr next 0)) σ (next + 1) hist reads) Q) : Mean P hh (.dops (d :: ds) env σ next hist reads) Q := by
 have hf : ∀ (k : Nat) (t : List St), OpFact P hh (hist ++ t) d env k next (.ptr next 0) := fun k t => .inr ⟨hw, .inl ⟨z, ho, rfl⟩⟩
 refine mean_dstay (by rw [ho]; rfl) (fun k t _ _ _ => hf k t) (fun r hr => hr) (fun k t _ _ _ => hf k t) ?_
 rw [ho]
 exact h
theorem mean_dpure (hw : d.o.wanted env = some true) (hk : (d.o.op.acts || d.o.op.allocs || d.o.op.reads) = false) (ha : aop d.o.op env σ = some (v, σ)) (h : Mean P hh (.dops ds (Env.put env d.o.dst v) σ next hist reads) Q) :
  Mean P hh (.dops (d :: ds) env σ next hist reads) Q := by
 simp only [Bool.or_eq_false_iff] at hk
 have hf : ∀ (k : Nat) (t : List St), OpFact P hh (hist ++ t) d env k next v := fun k t => .inr ⟨hw, .inr (.inl ⟨hk.1.1, hk.1.2, hk.2, σ, σ, ha⟩)⟩
 refine mean_dstay hk.1.1 (fun k t _ _ _ => hf k t) (fun r hr => hr) (fun k t _ _ _ => hf k t) ?_
 rw [hk.1.2]
 exact h
theorem mean_dread (hw : d.o.wanted env = some true) (hk : d.o.op.reads = true) (h : Mean P hh (.dops ds (Env.put env d.o.dst v) σ next hist (⟨d.lo, d.hi, d.o.op, env, v⟩ :: reads)) Q) : Mean P hh (.dops (d :: ds) env σ next hist reads) Q := by
 have hna : d.o.op.acts = false := by revert hk; cases d.o.op <;> simp [AOp.reads, AOp.acts]
 have hal : d.o.op.allocs = false := by revert hk; cases d.o.op <;> simp [AOp.reads, AOp.allocs]
 intro k h1 h2
 obtain ⟨vs, t, σf, q1, q2, q3, q4⟩ := h k h1 h2
 refine ⟨v :: vs, t, σf, ⟨.inr ⟨hw, .inr (.inr (.inl ⟨hk, q4 _ (List.mem_cons_self ..)⟩))⟩, ?_⟩, ?_, q3, fun r hr => q4 r (List.mem_cons_of_mem _ hr)⟩
 ·rw [hna, hal]
  exact q1
 ·rw [List.countP_cons, hna]
  exact q2
theorem mean_dact (hw : d.o.wanted env = some true) (hk : d.o.op.acts = true) (ha : aop d.o.op env σ = some (v, σ')) (h : Mean P hh (.dops ds (Env.put env d.o.dst v) σ' next (hist ++ [σ']) reads) Q) :
  Mean P hh (.dops (d :: ds) env σ next hist reads) Q := by
 refine mean_dacts hk (fun k t e1 e2 => .inr ⟨hw, .inr (.inr (.inr (.inl ⟨hk, σ, σ', e1, e2, ha⟩)))⟩) ?_
 rw [allocs_of_acts hk]
 exact h
theorem mean_dcall {f : AOpd} {args : List AOpd} (hw : d.o.wanted env = some true) (ho : d.o.op = .call f args) (hc : Mean P hh (.callv (f.ev env) (args.map (·.ev env)) σ) fun r => r.v = v ∧ r.σ = σ')
  (h : Mean P hh (.dops ds (Env.put env d.o.dst v) σ' next (hist ++ [σ']) reads) Q) : Mean P hh (.dops (d :: ds) env σ next hist reads) Q := by
 have hk : d.o.op.acts = true := by rw [ho]; rfl
 refine mean_dacts hk (fun k t e1 e2 => .inr ⟨hw, .inr (.inr (.inr (.inr ⟨f, args, σ, σ', ho, e1, e2, hc⟩)))⟩) ?_
 rw [allocs_of_acts hk]
 exact h
end
end Go.Am
namespace Go.Am
variable {P : Program} {hh : String → Bool} {G G0 G1 G2 G' : Gh} {w w0 w1 w2 w' : World} {σ σ' σ1 σ2 : St} {env env' : Env} {n m m' : Nat} {v : AV} {a : Act} {Q R : Out → Prop}
theorem mean_trim2 {c : ACode} (h : Mean P hh (.code c env σ) R) (h1 : ∀ o, R o → Q o ∨ ∃ env'' σ'', Trims2 σ o.env o.σ env'' σ'' ∧ Q ⟨o.j, env'', σ'', o.v⟩) : Mean P hh (.code c env σ) Q := by
 intro F n cd G w a B f1 f2 f3 f4 f5 f6
 refine (h f1 f2 (f3.ghost (G' := G.shut σ) rfl rfl rfl rfl) f4.shut (f5.mono fun r e => e) f6).mono fun e a' w' hp => ?_
 obtain ⟨o, G1, q1, q2, q3, q4, q5, q6⟩ := hp
 rcases h1 o q1 with hq | ⟨env'', σ'', ⟨t1, t2, t3, t4⟩, hq⟩
 ·refine ⟨o, { G1 with res := G.res }, hq, q2, q3.ghost rfl rfl rfl rfl, q4.reserve _ fun id x e => ?_, ?_, q6.mono fun r e => e⟩
  ·exact q4.res id x (q5.res _ _ ((evo_shut f4).res _ _ e))
  ·have h2 := (evo_shut f4).trans q5
   exact ⟨h2.loc, h2.lim, h2.tok, h2.own, h2.defs, h2.B0, h2.h0, h2.os, h2.tape, h2.output, h2.size, fun _ _ e => e⟩
 have hL := cut_last (m := σ''.length) q4 G.res
 refine ⟨_, G1.cut w' o.σ σ''.length G.res, hq, q2, ⟨q3.1, fun t => ?_⟩, cutT_rel f4 q5 q4 q3 t1 t2 t4, cutS_evo f4 q5 q4 t1, q6.mono fun r e => e⟩
 show RelV _ _ (Env.get env'' t) _
 rcases thinE_get t3 t with hu | hu
 ·rw [hu]; exact .undef _
 ·exact (q3.2 t).thin q4 hL hu
theorem mean_chain {a0 : ACode} {az : List ACode} {c : ACode} {S : Env → St → Prop} (h : Mean P hh (.chain (a0 :: az) env σ) R) (h1 : ∀ o, R o → o.j ≠ none → Q o)
  (h2 : ∀ o, R o → o.j = none → ∃ env1 σ1 env2 σ2, Trims2 σ o.env o.σ env1 σ1 ∧ ((env2 = env1 ∧ σ2 = σ1) ∨ Thaws σ.length env1 σ1 env2 σ2) ∧ S env2 σ2)
  (h3 : ∀ env2 σ2, S env2 σ2 → Mean P hh (.code c env2 σ2) Q) : Mean P hh (.code (seqs (a0 :: az) c) env σ) Q := by
 intro F n cd G w a B f1 f2 f3 f4 f5 f6
 have hwp : ∀ K, cd.wpIn F 0 P K a w → wpL F P cd K a w := by
  intro K hk
  simp only [seqs] at f2
  obtain ⟨x, y, rfl, _⟩ := comp_seq f2
  exact hk
 refine hwp _ (h f1 f2 (f3.ghost (G' := G.shut σ) rfl rfl rfl rfl) f4.shut (f5.mono fun r e => e) f6 (fun d o G1 a' w' p1 p2 p3 p4 p5 p6 p7 p8 => ?_) fun o G1 a' w' p1 p2 p3 p4 p5 p6 => ?_)
 ·obtain ⟨env1, σ1, env2, σ2, ⟨t1, t2, t3, t4⟩, ht, hs⟩ := h2 o p3 p4
  have hL := cut_last (m := σ1.length) p6 G.res
  have hE1 : RelE (G1.cut w' o.σ σ1.length G.res) w' n env1 a'.tmps := by
   refine ⟨p5.1, fun t => ?_⟩
   rcases thinE_get t3 t with hu | hu
   ·rw [hu]; exact .undef _
   ·exact (p5.2 t).thin p6 hL hu
  have hS1 := cutT_rel f4 p7 p6 p5 t1 t2 t4
  have hV1 := cutS_evo f4 p7 p6 t1
  have hM1 : Marks (G1.cut w' o.σ σ1.length G.res) B a'.defers := p8.mono fun r e => e
  rcases ht with ⟨rfl, rfl⟩ | ht
  ·exact ((h3 _ _ hs p2 p1 hE1 hS1 hM1 (Nat.le_trans f6 p7.size)).mono fun e a w => Post.lift hV1).wpIn
  ·obtain ⟨G3, s1, s2, s3, s4⟩ := thaw_sound f4 hV1 hS1 hE1 (fun id r e => e) ht
   exact ((h3 _ _ hs p2 p1 s2 s1 (hM1.mono fun r e => by rw [s4]; exact e) (Nat.le_trans f6 p7.size)).mono fun e a w => Post.lift s3).wpIn
 ·refine ⟨o, { G1 with res := G.res }, h1 o p1 p2, rfl, p3.ghost rfl rfl rfl rfl, p4.reserve _ fun id x e => ?_, ?_, p6.mono fun r e => e⟩
  ·exact p4.res id x (p5.res _ _ ((evo_shut f4).res _ _ e))
  ·have h2 := (evo_shut f4).trans p5
   exact ⟨h2.loc, h2.lim, h2.tok, h2.own, h2.defs, h2.B0, h2.h0, h2.os, h2.tape, h2.output, h2.size, fun _ _ e => e⟩
theorem mean_chainNil (h : Q ⟨none, env, σ, .undef⟩) : Mean P hh (.chain [] env σ) Q := by
 intro F n c0 cd G w a B K f1 f2 f3 f4 f5 f6 f7 f8
 exact f7 cd _ G a w f2 f1 h rfl f3 f4 (.refl _ _) f5
theorem mean_chainCons {x : ACode} {az : List ACode} (h : Mean P hh (.code x env σ) R) (h1 : ∀ o, R o → o.j = none → Mean P hh (.chain az o.env o.σ) Q) (h2 : ∀ o, R o → o.j ≠ none → Q o) : Mean P hh (.chain (x :: az) env σ) Q := by
 intro F n c0 cd G w a B K f1 f2 f3 f4 f5 f6 f7 f8
 simp only [seqs] at f2
 obtain ⟨c, d, rfl, c1, c2⟩ := comp_seq f2
 refine wpIn_seq (wpIn_mono (h (fok_of f1 fun e => by simp [noRF] at e; exact e.1) c1 f3 f4 f5 f6).wpIn fun e a' w' hp => ?_)
 obtain ⟨o, G', q1, rfl, q3, q4, q5, q6⟩ := hp
 cases hj : o.j with
 | none =>
  refine (h1 o q1 hj) (fok_of f1 fun e => by simp [noRF] at e; exact e.2) c2 q3 q4 q6 (Nat.le_trans f6 q5.size) (fun d o2 G2 a2 w2 p1 p2 p3 p4 p5 p6 p7 p8 => f7 d o2 G2 a2 w2 p1 p2 p3 p4 p5 p6 (q5.trans p7) p8)
   fun o2 G2 a2 w2 p1 p2 p3 p4 p5 p6 => f8 o2 G2 a2 w2 p1 p2 p3 p4 (q5.trans p5) p6
 | some j =>
  have := f8 o G' a' w' (h2 o q1 (by rw [hj]; simp)) (by rw [hj]; simp) q3 q4 q5 q6
  rw [hj] at this
  cases j <;> exact this
theorem RelV.free (hl : ∀ b L, G.lim b = some L → (∀ t, G.own b ≠ some t) → ∃ L', G'.lim b = some L' ∧ L ≤ L') (ho : ∀ b L, G.lim b = some L → (∀ t, G.own b ≠ some t) → ∀ t, G'.own b ≠ some t) {a : AV} {u : Value} (h : RelV G w a u) (hk : okV 0 a) : RelV G' w a u := by
 have htk : ∀ {full tk n base cap}, (∀ t, tk = some t → t < 0) → tkOk G full tk n base cap → tkOk G' full tk n base cap := fun q h => ⟨h.1, h.2.1, fun t e => absurd (q t e) (by omega)⟩
 have hlit : ∀ {xs tk b o sz}, (∀ t, tk = some t → t < 0) → LitAt G w xs tk b o sz → LitAt G' w xs tk b o sz := by
  intro xs tk b o sz q ⟨⟨L, q1, q2⟩, q3, q4, q5⟩
  have hn : ∀ t, G.own b ≠ some t := fun t e => absurd (q t (q3 t e)) (by omega)
  obtain ⟨L', r1, r2⟩ := hl b L q1 hn
  exact ⟨⟨L', r1, by omega⟩, fun t e => absurd e (ho b L q1 hn t), q4, q5⟩
 induction h with
 | undef v => exact .undef v
 | int k n => exact .int k n
 | bool b => exact .bool b
 | str s => exact .str s
 | func e1 e2 _ _ e3 e4 => exact .func e1 e2 (fun i x u q1 q2 => e3 i x u q1 q2 (okVs_get hk.1 q1)) (fun i x u q1 q2 => e4 i x u q1 q2 (okVs_get hk.2 q1))
 | nilFunc => exact .nilFunc
 | yield h => exact absurd hk (by simp [okV])
 | ptr h => exact absurd hk (by simp [okV])
 | nilPtr => exact .nilPtr
 | lptr ht hi hl _ ih =>
  exact .lptr (fun t e => absurd (hk.1 t e) (by omega)) hi (hlit hk.1 hl) fun i x j c u q1 q2 q3 => ih i x j c u q1 q2 q3 (okV_cell (okVs_get hk.2 q1) q2)
 | nil ht hb => exact .nil (htk hk.1 ht) hb
 | lit ht hl _ ih => exact .lit (htk hk.1 ht) (hlit hk.1 hl) fun i x j c u q1 q2 q3 => ih i x j c u q1 q2 q3 (okV_cell (okVs_get hk.2 q1) q2)
 | ref h hb hc hn => exact absurd hk (by simp [okV])
 | map h => exact absurd hk (by simp [okV])
 | nilMap => exact .nilMap
 | agg h _ ih => exact .agg h fun i x u q1 q2 => ih i x u q1 q2 (okVs_get hk q1)
 | tuple h _ ih => exact .tuple h fun i x u q1 q2 => ih i x u q1 q2 (okVs_get hk q1)
theorem RelV.scal {a : AV} {u : Value} (h : RelV G w a u) (hk : Scal a) : RelV G' w' a u := by
 have hs : ∀ {xs : List AV}, Scals xs → ∀ {i : Nat} {x : AV}, xs[i]? = some x → Scal x := by
  intro xs
  induction xs with
  | nil => intro _ i x e; simp at e
  | cons y ys ih =>
   intro h (i : Nat) (x : AV) e
   cases i with
   | zero => simp at e; subst e; exact h.1
   | succ i => exact ih h.2 (by simpa using e)
 induction h with
 | undef v => exact hk.elim
 | int k n => exact .int k n
 | bool b => exact .bool b
 | str s => exact .str s
 | func e1 e2 _ _ e3 e4 => exact hk.elim
 | nilFunc => exact hk.elim
 | yield h => exact hk.elim
 | ptr h => exact hk.elim
 | nilPtr => exact hk.elim
 | lptr ht hi hl _ ih => exact hk.elim
 | @nil full tk base cap ht hb =>
  cases tk with
  | none => exact .nil ⟨ht.1, ht.2.1, fun t e => by cases e⟩ hb
  | some t => exact hk.elim
 | @lit xs full tk b o sz cap ht hl _ ih =>
  cases xs with
  | nil =>
   cases tk with
   | none => exact .nil ⟨ht.1, ht.2.1, fun t e => by cases e⟩ (fun e => by cases e)
   | some t => exact hk.elim
  | cons x xs => cases tk <;> exact hk.elim
 | ref h hb hc hn => exact hk.elim
 | map h => exact hk.elim
 | nilMap => exact hk.elim
 | agg h _ ih => exact .agg h fun i x u q1 q2 => ih i x u q1 q2 (hs hk q1)
 | tuple h _ ih => exact .tuple h fun i x u q1 q2 => ih i x u q1 q2 (hs hk q1)
open Classical in
noncomputable def Gh.fresh0 (G : Gh) (w : World) (lim : Nat → Option Nat) (old : Nat → Prop) : Gh :=
  { loc := fun _ => none, lim := lim, tok := fun _ => none, own := fun _ => none, defs := fun _ => False, B0 := w.heap.size
    h0 := w.heap ++ Array.ofFn (n := w.heap.size) (fun i => if old i then marker else .deferred (some [])), res := fun _ => none }
theorem marker_old {lim : Nat → Option Nat} {old : Nat → Prop} {b : Nat} (hb : b < w.heap.size) : (G.fresh0 w lim old).h0[w.heap.size + b]? = some marker ↔ old b := by
 simp only [Gh.fresh0]
 rw [Array.getElem?_append_right (by omega)]
 simp only [Nat.add_sub_cancel_left, Array.getElem?_ofFn, hb, dite_true, Option.some.injEq]
 split
 ·rename_i h; simp [h]
 ·rename_i h; simp [h, marker]
theorem fresh0_rel {lim : Nat → Option Nat} {old : Nat → Prop} (hl : ∀ b L, lim b = some L → old b ∧ ∃ vs T fr, w.heap[b]? = some (.cells vs T fr) ∧ L ≤ vs.size) : RelS P hh (G.fresh0 w lim old) w [] :=
 ⟨fun _ _ e => (by cases e), fun _ _ _ e => (by cases e), fun _ _ _ e => (by cases e), fun _ _ e => (by cases e), fun b L e => by
  obtain ⟨h1, vs, T, fr, h2, h3⟩ := hl b L e
  exact ⟨vs, T, fr, h2, h3, fun hb => (marker_old hb).2 h1⟩, fun _ _ _ _ e => (by cases e), fun _ _ e => (by cases e), fun _ e => e.elim,
  fun b hb => by simp only [Gh.fresh0]; rw [Array.getElem?_append_left hb], Nat.le_refl _, fun _ _ e => (by cases e)⟩
theorem grown_rel {lim : Nat → Option Nat} {old : Nat → Prop} (hS : RelS P hh G w σ) (h1 : RelS P hh G1 w' []) (he : Evo (G.fresh0 w lim old) w G1 w') (nl : Nat → Option Nat)
  (hn : ∀ b, b < w.heap.size → (nl b = G.lim b) ∨ (∃ L L', G.lim b = some L ∧ (∀ t, G.own b ≠ some t) ∧ nl b = some L' ∧ L ≤ L' ∧ G1.lim b = some L')) (hn2 : ∀ b, w.heap.size ≤ b → nl b = G1.lim b) :
  RelS P hh { G with lim := nl } w' σ ∧ Evo G w { G with lim := nl } w' := by
 have hB : G1.B0 = w.heap.size := he.B0
 have hh0 : G1.h0 = _ := he.h0
 have heap : ∀ b, b < w.heap.size → w'.heap[b]? = w.heap[b]? := by
  intro b hb
  rw [h1.base b (by omega), hh0]
  simp only [Gh.fresh0]
  rw [Array.getElem?_append_left hb]
 have hsz : w.heap.size ≤ w'.heap.size := he.size
 have lt : ∀ {b L}, G.lim b = some L → b < w.heap.size := fun e => by
  obtain ⟨vs, T, fr, q, _⟩ := hS.lim _ _ e
  exact (Array.getElem?_eq_some_iff.1 q).1
 have nlnone : ∀ {b}, b < w.heap.size → G.lim b = none → nl b = none := by
  intro b hb e
  rcases hn b hb with h | ⟨L, L', q, _⟩
  ·rw [h, e]
  ·rw [q] at e; cases e
 have hev : Evo G w { G with lim := nl } w' := by
  refine ⟨fun _ _ h => h, fun b L e => ?_, fun t b n c e => ⟨b, n, c, e, Nat.le_refl _, fun _ => ⟨rfl, rfl⟩⟩, fun _ _ _ _ e => e, fun _ e => e, rfl, rfl, he.os, he.tape, he.output, hsz, fun _ _ e => e⟩
  have hb := lt e
  have hc : ∀ k, k < L → w'.cell? ⟨b, k, none⟩ = w.cell? ⟨b, k, none⟩ := by
   intro k _
   obtain ⟨vs, T, fr, q, _⟩ := hS.lim _ _ e
   rw [cell_of_row w b k vs T fr q, cell_of_row w' b k vs T fr (by rw [heap b hb]; exact q)]
  rcases hn b hb with h | ⟨L1, L', q, _, q2, q3, _⟩
  ·exact ⟨L, by show nl b = some L; rw [h, e], Nat.le_refl _, hc⟩
  ·rw [e] at q; cases q; exact ⟨L', q2, q3, hc⟩
 refine ⟨⟨hS.lt, fun id b x e1 e2 => (hS.blk id b x e1 e2).mono hev (heap b (hS.fresh _ _ e1).2.1), hS.inj, fun id b e => ?_, fun b L e => ?_, fun t b n c e => ?_, fun b t e => ?_, fun r e => ?_, fun b hb => ?_, Nat.le_trans hS.size hsz, hS.res⟩, hev⟩
 ·obtain ⟨q1, q2, q3, q4⟩ := hS.fresh id b e
  exact ⟨q1, by omega, nlnone q2 q3, q4⟩
 ·have e : nl b = some L := e
  by_cases hb : b < w.heap.size
  ·rcases hn b hb with h | ⟨L1, L', q, _, q2, q3, q4⟩
   ·rw [h] at e
    obtain ⟨vs, T, fr, p1, p2, p3⟩ := hS.lim b L e
    exact ⟨vs, T, fr, by rw [heap b hb]; exact p1, p2, p3⟩
   ·rw [q2] at e
    cases e
    obtain ⟨vs, T, fr, p1, p2, p3⟩ := h1.lim b _ q4
    obtain ⟨_, _, _, _, _, p6⟩ := hS.lim b _ q
    exact ⟨vs, T, fr, p1, p2, p6⟩
  ·rw [hn2 b (by omega)] at e
   obtain ⟨vs, T, fr, p1, p2, p3⟩ := h1.lim b L e
   exact ⟨vs, T, fr, p1, p2, fun hlt => absurd (Nat.lt_of_lt_of_le hlt hS.size) hb⟩
 ·obtain ⟨sz, ex, q1, q2, q3, q4⟩ := hS.tok t b n c e
  refine ⟨sz, ex, q1, q2, q3, fun hx => ?_⟩
  obtain ⟨bb, vs, T, r1, r2, r3, r4, r5, r6⟩ := q4 hx
  have hb := lt r3
  refine ⟨bb, vs, T, r1, r2, ?_, r4, by rw [heap bb hb]; exact r5, r6⟩
  rcases hn bb hb with h | ⟨_, _, _, q, _⟩
  ·show nl bb = _; rw [h, r3]
  ·exact absurd r2 (q t)
 ·obtain ⟨q1, q2⟩ := hS.own b t e
  exact ⟨by omega, q2⟩
 ·obtain ⟨q1, q2, q3⟩ := hS.defs r e
  have hr := (Array.getElem?_eq_some_iff.1 q1).1
  exact ⟨by rw [heap r hr]; exact q1, q2, nlnone hr q3⟩
 ·rw [heap b (Nat.lt_of_lt_of_le hb hS.size)]
  exact hS.base b hb
theorem relArgs_map {args : List AV} {vs : Array Value} (f : AV → AV) (hf : ∀ (i : Nat) (x : AV) (u : Value), args[i]? = some x → vs[i]? = some u → RelV G' w (f x) u) (h : vs.size = args.length) : RelArgs G' w (args.map f) vs := by
 refine ⟨by simp [h], fun i x u e1 e2 => ?_⟩
 rw [List.getElem?_map] at e1
 cases e : args[i]? with
 | none => rw [e] at e1; cases e1
 | some y => rw [e] at e1; cases e1; exact hf i y u e e2
theorem mean_frame {f : FuncId} {args args0 : List AV} (hf : okVs 0 args) (h0 : args0 = args ∨ args0 = clrs args) (h : Mean P hh (.call f args0 []) R) (h1 : ∀ o, R o → o.σ = [] ∧ Q ⟨none, [], σ, o.v⟩) : Mean P hh (.call f args σ) Q := by
 refine ⟨h.1, fun {G w vs} ha hS => ?_⟩
 let old : Nat → Prop := fun b => (∃ L, G.lim b = some L) ∧ ∀ t, G.own b ≠ some t
 let lim : Nat → Option Nat := fun b => match G.own b with | none => G.lim b | some _ => none
 have hlim : ∀ {b L}, lim b = some L → G.lim b = some L ∧ ∀ t, G.own b ≠ some t := by
  intro b L e
  simp only [lim] at e
  split at e
  ·rename_i hn; exact ⟨e, fun t e' => by rw [hn] at e'; cases e'⟩
  ·cases e
 have hrel0 : RelS P hh (G.fresh0 w lim old) w [] := fresh0_rel fun b L e => by
  obtain ⟨q1, q2⟩ := hlim e
  obtain ⟨vs, T, fr, p1, p2, _⟩ := hS.lim b L q1
  exact ⟨⟨⟨L, q1⟩, q2⟩, vs, T, fr, p1, p2⟩
 have hv : ∀ (i : Nat) (x : AV) (u : Value), args[i]? = some x → vs[i]? = some u → RelV (G.fresh0 w lim old) w x u := fun i x u e1 e2 =>
  (ha.2 i x u e1 e2).free (fun b L q1 q2 => ⟨L, by
   show lim b = _
   simp only [lim]
   cases e : G.own b with
   | none => exact q1
   | some t => exact absurd e (q2 t), Nat.le_refl _⟩) (fun _ _ _ _ t e => by cases e) (okVs_get hf e1)
 have ha0 : RelArgs (G.fresh0 w lim old) w args0 vs := by
  rcases h0 with rfl | rfl
  ·exact ⟨ha.1, hv⟩
  ·rw [clrs_map]
   exact relArgs_map clr (fun i x u e1 e2 => (hv i x u e1 e2).clr) ha.1
 refine (h.2 ha0 hrel0).mono fun e w' hr => ?_
 obtain ⟨r, G1, u, rfl, q1, q2, q3, q4⟩ := hr
 obtain ⟨hσ, hq⟩ := h1 r q1
 rw [hσ] at q3
 have hB : G1.B0 = w.heap.size := q4.B0
 have hold : ∀ {b L}, b < w.heap.size → G1.lim b = some L → old b := by
  intro b L hb e
  obtain ⟨_, _, _, _, _, p⟩ := q3.lim b L e
  have := p (by omega)
  rw [hB, show G1.h0 = _ from q4.h0] at this
  exact (marker_old hb).1 this
 let nl : Nat → Option Nat := fun b => if b < w.heap.size then (match G.own b, G.lim b with | none, some _ => G1.lim b | _, l => l) else G1.lim b
 have hg := grown_rel hS q3 q4 nl (fun b hb => by
  simp only [nl, hb, if_true]
  cases e1 : G.own b with
  | some t => left; rfl
  | none =>
   cases e2 : G.lim b with
   | none => left; rfl
   | some L =>
    right
    obtain ⟨L', p1, p2, _⟩ := q4.lim b L (by show lim b = _; simp only [lim, e1, e2])
    exact ⟨L, L', rfl, (fun t e => by cases e), p1, p2, p1⟩) (fun b hb => by simp only [nl]; rw [if_neg (by omega)])
 refine ⟨_, { G with lim := nl }, u, rfl, hq, ?_, hg.1, hg.2⟩
 refine q2.free (fun b L p1 p2 => ⟨L, ?_, Nat.le_refl _⟩) (fun b L p1 p2 t e => ?_) (q2.ok q3)
 ·show nl b = _
  simp only [nl]
  split
  ·rename_i hb
   obtain ⟨⟨L0, s1⟩, s2⟩ := hold hb p1
   cases e : G.own b with
   | some t => exact absurd e (s2 t)
   | none => rw [s1]; exact p1
  ·exact p1
 ·have e : G.own b = some t := e
  have hb := (hS.own b t e).1
  exact (hold hb p1).2 t e
theorem mean_frameS {f : FuncId} {args args0 as1 : List AV} {d : Nat} (hf : snaps σ 0 d args = some as1) (h0 : args0 = as1 ∨ args0 = clrs as1) (h : Mean P hh (.call f args0 []) R) (h1 : ∀ o, R o → o.σ = [] ∧ Scal o.v ∧ Q ⟨none, [], σ, o.v⟩) :
    Mean P hh (.call f args σ) Q := by
  refine ⟨h.1, fun {G w vs} ha hS => ?_⟩
  have hL := cut_last (m := 0) hS G.res
  obtain ⟨lim, hlimeq⟩ : ∃ lim, lim = (G.cut w σ 0 G.res).lim := ⟨_, rfl⟩
  have hrel0 : RelS P hh (G.fresh0 w lim fun _ => True) w [] := fresh0_rel fun b L e => by
    rw [hlimeq] at e
    refine ⟨trivial, ?_⟩
    cases hn : G.lim b with
    | some L' =>
      have : (G.cut w σ 0 G.res).lim b = some L' := by simp [Gh.cut, hn]
      rw [this] at e
      cases e
      obtain ⟨vs, T, fr, p1, p2, _⟩ := hS.lim b _ hn
      exact ⟨vs, T, fr, p1, p2⟩
    | none =>
      obtain ⟨rfl, id, cs, p1, p2, p3⟩ := cut_lim e hn
      obtain ⟨vs, T, q, l, _⟩ := hS.blk _ _ _ p2 p3
      exact ⟨vs, T, (0, 0), q, by simp [rowSize, q]⟩
  have hL' : Last σ G 0 (G.fresh0 w lim fun _ => True) :=
    { loc := fun id b h _ => absurd h (by omega), lim := fun b L e => by obtain ⟨L', q⟩ := hL.lim b L e; exact ⟨L', by rw [hlimeq.symm] at q; exact q⟩, tok := fun t p h _ => absurd h (by omega), own := fun b t e => (by cases e),
      frz := fun id b cs h1 h2 h3 => by
        obtain ⟨⟨L, q1, q2⟩, _⟩ := hL.frz id b cs h1 h2 h3
        exact ⟨⟨L, by rw [hlimeq.symm] at q1; exact q1, q2⟩, fun t e => by cases e⟩ }
  obtain ⟨hlen, hsp⟩ := snaps_spec hf
  have hv : ∀ (i : Nat) (y : AV) (u : Value), as1[i]? = some y → vs[i]? = some u → RelV (G.fresh0 w lim fun _ => True) w y u := fun i y u e1 e2 => by
    obtain ⟨x, p1, p2⟩ := snaps_inv hf e1
    exact snap_sound hS hL' d p2 (ha.2 i x u p1 e2)
  have ha0 : RelArgs (G.fresh0 w lim fun _ => True) w args0 vs := by
    rcases h0 with rfl | rfl
    · exact ⟨by rw [hlen]; exact ha.1, hv⟩
    · rw [clrs_map]
      exact relArgs_map clr (fun i x u e1 e2 => (hv i x u e1 e2).clr) (by rw [hlen]; exact ha.1)
  refine (h.2 ha0 hrel0).mono fun e w' hr => ?_
  obtain ⟨r, G1, u, rfl, q1, q2, q3, q4⟩ := hr
  obtain ⟨hσ, hs, hq⟩ := h1 r q1
  rw [hσ] at q3
  have hg := grown_rel hS q3 q4 (fun b => if b < w.heap.size then G.lim b else G1.lim b) (fun b hb => by left; simp [hb]) (fun b hb => by simp; omega)
  exact ⟨_, _, u, rfl, hq, q2.scal hs, hg.1, hg.2⟩
end Go.Am
namespace Go.Am
variable {P : Program} {hh : String → Bool} {G G0 G1 G' : Gh} {w w0 w1 w' : World} {σ σ' σ1 : St} {env env' : Env} {n m m' : Nat} {v : AV} {a : Act} {Q R S : Out → Prop}
theorem env_mem (env : Env) (t : Nat) : Env.get env t = .undef ∨ ∃ p ∈ env, p.1 = t ∧ Env.get env t = p.2 := by
 induction env with
 | nil => exact .inl rfl
 | cons p env ih =>
  obtain ⟨k, v⟩ := p
  by_cases hk : k = t
  ·exact .inr ⟨(k, v), by simp, hk, by simp [Env.get, hk]⟩
  ·rcases ih with h | ⟨p, q1, q2, q3⟩
   ·exact .inl (by simp [Env.get, hk, h])
   ·exact .inr ⟨p, by simp [q1], q2, by simp [Env.get, hk, q3]⟩
theorem mean_trim {c : ACode} (h : Mean P hh (.code c env σ) R) (h1 : ∀ o, R o → ∃ env' m, Trims σ o.env o.σ env' m ∧ Q ⟨o.j, env', o.σ.take m, o.v⟩) : Mean P hh (.code c env σ) Q := by
 intro F n cd G w a B f1 f2 f3 f4 f5 f6
 have he0 := evo_shut f4
 refine (h f1 f2 (f3.ghost (G' := G.shut σ) rfl rfl rfl rfl) f4.shut (f5.mono fun r e => e) f6).mono fun e a' w' hp => ?_
 obtain ⟨o, G1, q1, q2, q3, q4, q5, q6⟩ := hp
 obtain ⟨env', m, ⟨t1, t2, t3, t4⟩, hq⟩ := h1 o q1
 have hkept : Kept σ o.σ m := ⟨t1, t2, t4⟩
 have hless := (cut_last (m := m) q4 G.res).toLess
 refine ⟨_, G1.cut w' o.σ m G.res, hq, q2, ⟨q3.1, fun t => ?_⟩, cutS_rel f4 q5 q4 hkept, cutS_evo f4 q5 q4 t1, q6.mono fun r e => e⟩
 rcases env_mem env' t with hu | ⟨p, p1, p2, p3⟩
 ·show RelV _ _ (Env.get env' t) _
  rw [hu]
  exact .undef _
 ·show RelV _ _ (Env.get env' t) _
  obtain ⟨g1, g2⟩ := t3 p p1
  rw [p3]
  have := q3.2 t
  rw [← p2, ← g1] at this
  rw [← p2]
  exact this.less hless g2
theorem mean_ghost {c : ACode} (t sz : Nat) (xs : List AV) (ht : Env.get env t = .lit xs true none) (h : Mean P hh (.code c ((t, .lit xs false (some σ.length)) :: env) (σ ++ [.tok sz xs.length false])) Q) : Mean P hh (.code c env σ) Q := by
 intro F n cd G w a B f1 f2 f3 f4 f5 f6
 have hr := f3.2 t
 rw [ht] at hr
 generalize hu : a.tmps.getD t undef = u at hr
 obtain ⟨base, cap, rfl, htk, hbn⟩ := lit_slice hr
 have hcap := htk.2.1 rfl
 obtain ⟨G1, hG1⟩ : ∃ G1 : Gh, G1 = { G with tok := fun i => if i = σ.length then some (base, xs.length, xs.length) else G.tok i } := ⟨_, rfl⟩
 have hlt : ∀ {t b n c}, G.tok t = some (b, n, c) → t < σ.length := fun e => by
  obtain ⟨_, _, q, _⟩ := f4.tok _ _ _ _ e
  exact (List.getElem?_eq_some_iff.1 q).1
 have he : Evo G w G1 w := by
  rw [hG1]
  refine ⟨fun _ _ h => h, fun b L h => ⟨L, h, Nat.le_refl _, fun _ _ => rfl⟩, fun t b n c e => ⟨b, n, c, ?_, Nat.le_refl _, fun _ => ⟨rfl, rfl⟩⟩, fun _ _ _ _ h => h, fun _ h => h, rfl, rfl, rfl, rfl, rfl, Nat.le_refl _, fun _ _ h => h⟩
  have := hlt e
  simp only [show t ≠ σ.length by omega, if_false]
  exact e
 have hS1 : RelS P hh G1 w (σ ++ [.tok sz xs.length false]) := by
  have hm := f4.more [.tok sz xs.length false]
  rw [hG1] at he ⊢
  refine ⟨hm.lt, fun id b x e1 e2 => (hm.blk id b x e1 e2).mono he rfl, hm.inj, hm.fresh, hm.lim, fun t' b k c e => ?_, fun b t' e => ?_, hm.defs, hm.base, hm.size, hm.res⟩
  ·by_cases ht' : t' = σ.length
   ·subst ht'
    simp only [if_true, Option.some.injEq, Prod.mk.injEq] at e
    obtain ⟨rfl, rfl, rfl⟩ := e
    exact ⟨sz, false, by simp, Nat.le_refl _, fun _ => rfl, fun h => by cases h⟩
   ·simp only [ht', if_false] at e
    exact hm.tok _ _ _ _ e
  ·obtain ⟨q1, p, q2⟩ := hm.own b t' e
   refine ⟨q1, p, ?_⟩
   obtain ⟨b', n', c'⟩ := p
   have := hlt q2
   simp only [show t' ≠ σ.length by omega, if_false]
   exact q2
 have hv : RelV G1 w (.lit xs false (some σ.length)) (.slice base xs.length cap) := by
  have htk' : tkOk G1 false (some σ.length) xs.length base cap := by
   refine ⟨htk.1, by simp, fun t' e => ?_⟩
   cases e
   exact ⟨base, xs.length, xs.length, by rw [hG1]; simp, Nat.le_refl _, fun _ _ => ⟨rfl, hcap.symm⟩⟩
  have hr1 := hr.mono he
  cases hr1 with
  | nil _ hb => exact .nil htk' hb
  | lit _ hl hc =>
   refine .lit htk' ⟨hl.lim, fun t' e => ?_, hl.size, hl.cells⟩ hc
   have := hl.own t' e
   cases this
 have hE1 : RelE G1 w n ((t, .lit xs false (some σ.length)) :: env) a.tmps := by
  refine ⟨f3.1, fun t' => ?_⟩
  by_cases htt : t = t'
  ·subst htt
   rw [hu]
   simpa [Env.get] using hv
  ·simpa [Env.get, htt] using (f3.2 t').mono he
 exact (h f1 f2 hE1 hS1 (f5.mono he.defs) f6).mono fun e a w => Post.lift he
theorem argsEnv_get : ∀ (args : List AV) (k t : Nat), Env.get (argsEnv k args) t = if k ≤ t then (args[t - k]?).getD .undef else .undef
 | [], k, t => by simp [argsEnv, Env.get]
 | v :: vs, k, t => by
  simp only [argsEnv, Env.get]
  by_cases hk : k = t
  ·subst hk; simp
  ·rw [if_neg hk, argsEnv_get vs (k + 1) t]
   by_cases hlt : k ≤ t
   ·rw [if_pos hlt, if_pos (by omega), show t - k = (t - (k + 1)) + 1 by omega]
    rfl
   ·rw [if_neg hlt, if_neg (by omega)]
theorem args_rel {args : List AV} {vs : Array Value} (h : RelArgs G w args vs) (hn : args.length ≤ n) : RelE G w n (argsEnv 0 args) (vs ++ Array.replicate (n - vs.size) undef) := by
 refine ⟨by have := h.1; simp; omega, fun t => ?_⟩
 rw [argsEnv_get]
 simp only [Nat.zero_le, if_true, Nat.sub_zero]
 cases e : args[t]? with
 | none => simpa using .undef _
 | some x =>
  have ht : t < vs.size := by rw [h.1]; exact (List.getElem?_eq_some_iff.1 e).1
  have := h.2 t x vs[t] e (Array.getElem?_eq_getElem ht)
  simpa [Array.getD_eq_getD_getElem?, Array.getElem?_append_left ht, Array.getElem?_eq_getElem ht] using this
theorem compFunc_spec {fn : Func} {af : AFunc} (h : compFunc P hh fn = some af) :
  ∃ c, fn.body = some c ∧ comp P hh fn.ntmps c = some af.body ∧ compRes P fn.results.toList = some af.results ∧ (fn.name == "runtime.NumGoroutine") = false ∧ af.ntmps = fn.ntmps := by
 unfold compFunc at h
 split at h
 ·cases h
 ·rename_i c hb
  split at h
  ·rename_i b rs h1 h2
   split at h
   ·cases h
   ·rename_i hname
    cases h
    exact ⟨c, hb, h1, h2, by simpa using hname, rfl⟩
  ·cases h
theorem mean_call {T : FuncId → Option AFunc} (hT : ∀ f af, T f = some af → ∃ fn, P.funcs[f]? = some fn ∧ compFunc P hh fn = some af) {f : FuncId} {args : List AV} {af : AFunc} (hf : T f = some af) (hn : args.length ≤ af.ntmps)
  (h : Mean P hh (.code af.body (argsEnv 0 args) σ) R) (h1 : ∀ o, R o → (o.j = none ∨ o.j = some .ret) ∧ ∃ v, resOf af.results o.env o.σ = some v ∧ Leave σ o.σ v Q) : Mean P hh (.call f args σ) Q := by
 obtain ⟨fn, hfn, hcomp⟩ := hT f af hf
 obtain ⟨c, hb, hc, hres, hname, hnt⟩ := compFunc_spec hcomp
 have hname' : ¬ fn.name = "runtime.NumGoroutine" := by simpa using hname
 refine ⟨fun vs w => by simp [callFunc, hfn, hname', hb], fun {G w vs} ha hS => ?_⟩
 refine callsIn_of_wp_marks hfn hb trivial (wpIn_mono (h (F := Fence.wide) (cd := c) (n := fn.ntmps) (G := G.shut σ) (w := w) (a := { tmps := vs ++ Array.replicate (fn.ntmps - vs.size) undef, defers := [] }) (B := w.heap.size) (.inl rfl) hc ((args_rel ha (by omega)).ghost rfl rfl rfl rfl) hS.shut
  ⟨[], rfl, List.nodup_nil, fun r hr => by cases hr⟩ (Nat.le_refl _)).wpIn fun e a' w' hp => ?_)
 obtain ⟨o, G1, q1, rfl, q3, q4, q5, rs, m1, m2, m3⟩ := hp
 obtain ⟨hj, v, hv, hl⟩ := h1 o q1
 have hleave : LeavesInM Fence.wide 0 P fn a'.tmps (fun e w' => ∃ r G' u, e = .returned u ∧ Q r ∧ RelV G' w' r.v u ∧ RelS P hh G' w' r.σ ∧ Evo G w G' w') a'.defers .returning w' := by
  rw [m1]
  refine leave_marks rs m2 (fun r hr => ⟨(m3 r hr).1, fun e => ?_⟩) q4 q3 q5 fun G2 w2 s1 s2 s3 => ?_
  ·have := (Array.getElem?_eq_some_iff.1 (hS.defs r e).1).1
   have := (m3 r hr).2
   omega
  ·obtain ⟨u, r1, r2⟩ := results_sound s2 s1 hres hv
   obtain ⟨o2, G3, t1, t2, t3, t4⟩ := leave_sound hS s3 s1 r2 hl
   exact ⟨u, r1, o2, G3, u, rfl, t1, t2, t3, t4⟩
 rcases hj with hj | hj <;> rw [hj] <;> exact hleave
theorem RelS.newDef (h : RelS P hh G w σ) : RelS P hh { G with defs := fun x => G.defs x ∨ x = w.heap.size } (w.alloc (.deferred (some []))) σ ∧
  Evo G w { G with defs := fun x => G.defs x ∨ x = w.heap.size } (w.alloc (.deferred (some []))) := by
 have h1 := h.alloc (.deferred (some []))
 have he := evo_alloc h (.deferred (some []))
 refine ⟨⟨h1.lt, fun id b x e1 e2 => (h1.blk id b x e1 e2).ghost rfl rfl rfl rfl, h1.inj, fun id b e => ?_, h1.lim, h1.tok, h1.own, fun r e => ?_, h1.base, h1.size, h1.res⟩,
  ⟨he.loc, he.lim, he.tok, he.own, fun r e => .inl e, he.B0, he.h0, he.os, he.tape, he.output, he.size, he.res⟩⟩
 ·obtain ⟨q1, q2, q3, q4⟩ := h1.fresh id b e
  refine ⟨q1, q2, q3, fun hd => hd.elim q4 fun e' => ?_⟩
  have := (h.fresh id b e).2.1
  omega
 ·rcases e with e | rfl
  ·exact h1.defs r e
  ·refine ⟨by rw [alloc_heap, if_pos rfl], h.size, ?_⟩
   cases e : G.lim w.heap.size with
   | none => rfl
   | some L => have := lim_lt h e; omega
theorem part_putObj (w : World) (g : Nat) (o : Obj) : Part g w (w.putObj g o) := part_setObj w g o
theorem mean_rangeFunc {f : AOpd} {g : FuncId} {first cap : List AV} {ps : List Nat} {x y : ACode} (hf : f.ev env = .func g first cap)
  (h : Mean P hh (.call g (first ++ [.yield σ.length] ++ cap) (σ ++ [.loop .ready none env ps x y])) R)
  (h1 : ∀ o, R o → ∃ st pend env' ps' a' b', o.σ[σ.length]? = some (.loop st pend env' ps' a' b') ∧ st ≠ .busy ∧ Q ⟨pend, env, o.σ.set σ.length .dead, .undef⟩) : Mean P hh (.code (.rangeFunc f ps x y) env σ) Q := by
 intro F n cd G w a B f1 f2 f3 f4 f5 f6
 obtain ⟨fo, pa, c, d, rfl, c1, c2, c3, rfl, c5, c6, c7⟩ := comp_range f2
 have hF : F = Fence.wide := by
  rcases f1 with h | ⟨l, _, h⟩
  ·exact h
  ·simp [noRF] at h
 subst hF
 refine wpIn_rangeFunc fun fn _ => ?_
 obtain ⟨hD, heD⟩ := f4.newDef
 obtain ⟨GD, hGD⟩ : ∃ GD : Gh, GD = { G with defs := fun z => G.defs z ∨ z = w.heap.size } := ⟨_, rfl⟩
 rw [← hGD] at hD heD
 obtain ⟨rec, hrec⟩ : ∃ rec : Loop, rec = { state := .ready, pending := none, fn, tmps := a.tmps, params := pa, assign := c, body := d, defers := w.heap.size } := ⟨_, rfl⟩
 have hED := f3.mono heD
 obtain ⟨hL, heL⟩ := newObjBlk (o := .loop rec) hD (x := .loop .ready none env pa.toList x y) fun G' he' =>
  ⟨rec, n, by rw [alloc_heap, if_pos rfl], by rw [hrec]; rfl, by rw [hrec]; rfl, by rw [hrec], by rw [hrec]; exact c2, by rw [hrec]; exact c3, c5, by rw [show rec.tmps = a.tmps by rw [hrec]]; exact hED.mono he', by rw [hrec]; exact ⟨c6, c7⟩⟩
 rw [show (w.alloc (.deferred (some []))).heap.size = w.heap.size + 1 from by simp] at hL heL
 have hr := ev_rel (a := a) c1 f3
 rw [hf] at hr
 have heGL := heD.trans heL
 have hr2 := hr.mono heGL
 generalize hfu : a.eval fo = fu at hr2
 cases hr2 with
 | @func _ _ _ first' cap' e1 e2 e3 e4 =>
  refine ⟨w.heap.size + 1, [markOf w.heap.size], (w.alloc (.deferred (some []))).alloc (.loop rec), { target := .fn (.func g) cap', args := first' ++ #[.func (.yield (w.heap.size + 1)) #[] #[]] }, (w.alloc (.deferred (some []))).alloc (.loop rec), g,
   first' ++ #[.func (.yield (w.heap.size + 1)) #[] #[]] ++ cap', (w.alloc (.deferred (some []))).alloc (.loop rec), ?_, ?_, fun _ _ => trivial, ?_, (fun h0 => by cases h0), ?_⟩
  ·rw [hrec]; exact run_enterLoop_outer _ _ _ _ _
  ·simp only [resolve, rangeCall]
   rw [hfu]
   simp [Deferred.ofValue, Act.eval]
  ·simp [invoke, h.1]
  ·have hargs : RelArgs (GD.withLoc σ.length (w.heap.size + 1)) ((w.alloc (.deferred (some []))).alloc (.loop rec)) (first ++ [.yield σ.length] ++ cap) (first' ++ #[.func (.yield (w.heap.size + 1)) #[] #[]] ++ cap') := by
    refine RelArgs.append (RelArgs.append ⟨e1, e3⟩ ⟨rfl, fun i z u q1 q2 => ?_⟩) ⟨e2, e4⟩
    match i with
    | 0 => simp at q1 q2; subst q1; subst q2; exact .yield withLoc_self
    | _ + 1 => simp at q1
   refine (h.2 hargs hL).mono fun e w3 hr3 => ?_
   obtain ⟨o, G3, u, rfl, q1, q2, q3, q4⟩ := hr3
   obtain ⟨st, pend, env', ps', a', b', s1, s2, s3⟩ := h1 o q1
   have hloc : G3.loc σ.length = some (w.heap.size + 1) := q4.loc _ _ withLoc_self
   obtain ⟨l, k, l1, l2, l3, l4⟩ := q3.blk _ _ _ hloc s1
   have hst : l.state ≠ .busy := by
    rw [l2]
    cases st <;> simp [lsOf] at s2 ⊢
   have hend := run_endLoop (P := P) l1 hst
   have hw := q3.write (y := .dead) hloc (part_putObj w3 (w.heap.size + 1) (.loop { l with state := .exhausted })) s1 (fun _ _ _ e => by cases e) trivial
   refine ⟨_, _, hend, ?_⟩
   have hevo := (heGL.trans q4).trans hw.2
   have hmarks : Marks G3 B ({ a with defers := [markOf w.heap.size] ++ a.defers } : Act).defers := by
    obtain ⟨rs, m1, m2, m3⟩ := f5
    refine ⟨w.heap.size :: rs, by simp [m1], List.nodup_cons.2 ⟨fun hm => ?_, m2⟩, fun r hr => ?_⟩
    ·have := (Array.getElem?_eq_some_iff.1 (f4.defs _ (m3 _ hm).1).1).1
     omega
    ·rcases List.mem_cons.1 hr with rfl | hr
     ·exact ⟨(heL.trans q4).defs _ (by rw [hGD]; exact .inr rfl), f6⟩
     ·exact ⟨hevo.defs _ (m3 r hr).1, (m3 r hr).2⟩
   have hpost : Post P hh G w n B Q (exOf pend) { a with defers := [markOf w.heap.size] ++ a.defers } (w3.putObj (w.heap.size + 1) (.loop { l with state := .exhausted })) :=
    ⟨_, G3, s3, rfl, f3.mono hevo, hw.1, hevo, hmarks⟩
   rw [l3] at hpost ⊢
   cases pend with
   | none => exact hpost
   | some j =>
    cases j with
    | ret => exact wpIn_ret hpost
    | exit id => exact wpIn_exit hpost
theorem bindPs_rel : ∀ {ps : List Nat} {args : List AV} {us : List Value} {env : Env} {tmps : Array Value}, ps.length = args.length → us.length = args.length → (∀ p ∈ ps, p < n) →
  (∀ (i : Nat) (x : AV) (u : Value), args[i]? = some x → us[i]? = some u → RelV G w x u) → RelE G w n env tmps →
  RelE G w n (bindPs env ps args) ((ps.zip us).foldl (fun tmps (t, a) => tmps.setIfInBounds t a) tmps)
 | [], [], us, env, tmps, _, _, _, _, hE => by simpa [bindPs] using hE
 | [], _ :: _, us, env, tmps, h, _, _, _, _ => by simp at h
 | _ :: _, [], us, env, tmps, h, _, _, _, _ => by simp at h
 | p :: ps, v :: args, [], env, tmps, _, h, _, _, _ => by simp at h
 | p :: ps, v :: args, u :: us, env, tmps, h1, h2, h3, h4, hE => by
  simp only [bindPs, List.zip_cons_cons, List.foldl_cons]
  refine bindPs_rel (by simpa using h1) (by simpa using h2) (fun q hq => h3 q (List.mem_cons_of_mem _ hq)) (fun i x u e1 e2 => h4 (i + 1) x u (by simpa using e1) (by simpa using e2)) ?_
  exact hE.put (a := { tmps := tmps, defers := [] }) (dst := some p) (fun d e => by cases e; exact h3 p (by simp)) (h4 0 v u rfl rfl)
theorem heap_put {r : Nat} {o o' : Obj} (hb : w.heap[r]? = some o) : (w.putObj r o').heap[r]? = some o' := heap_setObj hb
theorem mean_round {id : Nat} {args : List AV} {ps : List Nat} {x y : ACode} (hl : σ[id]? = some (.loop .ready none env ps x y)) (hn : ps.length = args.length) (h : Mean P hh (.code x (bindPs env ps args) σ) R)
  (h0 : ∀ o, R o → o.j = none ∧ o.σ[id]? = some (.loop .ready none env ps x y)) (h1 : ∀ o, R o → Mean P hh (.code y o.env (o.σ.set id (.loop .busy none env ps x y))) S)
  (h2 : ∀ o, S o → o.σ[id]? = some (.loop .busy none env ps x y) ∧ Q ⟨none, [], o.σ.set id (.loop (if o.j = none then .ready else .done) o.j env ps x y), .bool (decide (o.j = none))⟩) :
  Mean P hh (.callv (.yield id) args σ) Q := by
 intro G w fv vs hf ha hS
 cases hf with
 | @yield _ b hloc =>
  obtain ⟨l, n, l1, l2, l3, l4, l5, l6, l7, l8, l9, l10⟩ := hS.blk _ _ _ hloc hl
  have hy := run_yield (P := P) (args := #[] ++ vs) l1 (by have := ha.1; rw [← l4] at hn; simp at hn ⊢; omega)
  refine ⟨{ target := .fn (.yield b) #[], args := #[] ++ vs }, _, w, by simp [Deferred.ofValue], by simp only [invoke]; exact hy, fun {F} o a next Qx hF hnext => ?_⟩
  rw [Oper.uponIn_round]
  refine ⟨fun e => absurd e hF.depth, hF.round ?_⟩
  have htm : ((l.params.zip (#[] ++ vs)).foldl (fun tmps (t, a) => tmps.setIfInBounds t a) l.tmps) = ((ps.zip vs.toList).foldl (fun tmps (t, a) => tmps.setIfInBounds t a) l.tmps) := by
   rw [← Array.foldl_toList, Array.toList_zip, ← l4]
   simp
  rw [htm]
  have hE := bindPs_rel (G := G) (w := w) (env := env) (tmps := l.tmps) hn (us := vs.toList) (by simpa using ha.1) l7 (fun i z u e1 e2 => ha.2 i z u e1 (by simpa using e2)) l8
  refine roundIn_of_wpIn trivial (wpIn_mono (h (F := Fence.wide.inRound b) (cd := l.assign) (n := n) (G := G) (w := w) (a := { tmps := (ps.zip vs.toList).foldl (fun tmps (t, a) => tmps.setIfInBounds t a) l.tmps, defers := [] }) (B := w.heap.size)
   (.inr ⟨b, rfl, l9⟩) l5 hE hS ⟨[], rfl, List.nodup_nil, fun r hr => by cases hr⟩ (Nat.le_refl _)).wpIn fun e a1 w1 hp => ?_)
  obtain ⟨o1, G1, q1, rfl, q3, q4, q5, q6⟩ := hp
  obtain ⟨j0, s0⟩ := h0 o1 q1
  rw [j0]
  have hloc1 := q5.loc _ _ hloc
  obtain ⟨r, n1, r1, r2, r3, r4, r5, r6, r7, r8, r9, r10⟩ := q4.blk _ _ _ hloc1 s0
  refine ⟨_, run_beginRound r1 r2, ?_⟩
  have hp1 := part_putObj w1 b (.loop { r with state := .busy })
  have hev1 : Evo G1 w1 G1 (w1.putObj b (.loop { r with state := .busy })) := evo_part hp1 (q4.fresh _ _ hloc1).2.2.1
  have hw1 := q4.write (y := .loop .busy none env ps x y) hloc1 hp1 s0 (fun _ _ _ e => by cases e)
   ⟨{ r with state := .busy }, n1, heap_put r1, rfl, r3, r4, r5, r6, r7, r8.mono hev1, r9, r10⟩
  -- the body is the record's, from the first look on
  have hbody : comp P hh n l.body = some y := l6
  refine wpIn_mono (h1 o1 q1 (F := Fence.wide.inRound b) (cd := l.body) (n := n) (G := G1) (w := w1.putObj b (.loop { r with state := .busy })) (a := a1) (B := w.heap.size)
   (.inr ⟨b, rfl, l10⟩) hbody (q3.mono hev1) hw1.1 (q6.mono hev1.defs) (Nat.le_trans q5.size hev1.size)).wpIn fun e2 a2 w2 hp2 => ?_
  obtain ⟨o2, G2, p1, rfl, p3, p4, p5, p6⟩ := hp2
  obtain ⟨t0, tq⟩ := h2 o2 p1
  have hev2 := (q5.trans hev1).trans p5
  have hloc2 := hev2.loc _ _ hloc
  obtain ⟨z, n2, z1, z2, z3, z4, z5, z6, z7, z8, z9, z10⟩ := p4.blk _ _ _ hloc2 t0
  have fin : ∀ (jump : Option Code), jump = o2.j.map jumpOf → ∃ v w', (Instr.endRound b jump).run P w2 = .ok v w' ∧ ∃ v', Ending.returned v = .returned v' ∧ next (a.put o.dst v') w' := by
   intro jump hj
   have hp2 := part_putObj w2 b (.loop { z with state := if jump.isNone then .ready else .done, pending := jump })
   have hev3 : Evo G2 w2 G2 (w2.putObj b (.loop { z with state := if jump.isNone then .ready else .done, pending := jump })) := evo_part hp2 (p4.fresh _ _ hloc2).2.2.1
   have hnone : jump.isNone = decide (o2.j = none) := by rw [hj]; cases o2.j <;> rfl
   have hw2 := p4.write (y := .loop (if o2.j = none then .ready else .done) o2.j env ps x y) hloc2 hp2 t0 (fun _ _ _ e => by cases e)
    ⟨{ z with state := if jump.isNone then .ready else .done, pending := jump }, n2, heap_put z1, by
     simp only [hnone]
     by_cases hq : o2.j = none <;> simp [hq, lsOf], hj, z4, z5, z6, z7, z8.mono hev3, z9, z10⟩
   refine ⟨_, _, run_endRound jump z1, _, rfl, ?_⟩
   refine hnext _ G2 _ (.bool jump.isNone) tq ?_ hw2.1 (hev2.trans hev3)
   rw [hnone]
   exact .bool _
  cases hj : o2.j with
  | none =>
   obtain ⟨v, w3, g1, v', g2, g3⟩ := fin none (by rw [hj]; rfl)
   cases g2
   exact ⟨v, w3, g1, g3⟩
  | some j =>
   cases j with
   | ret =>
    obtain ⟨v, w3, g1, v', g2, g3⟩ := fin (some .ret) (by rw [hj]; rfl)
    cases g2
    exact ⟨v, w3, g1, g3⟩
   | exit id' =>
    obtain ⟨v, w3, g1, v', g2, g3⟩ := fin (some (.exit id')) (by rw [hj]; rfl)
    cases g2
    exact ⟨v, w3, g1, g3⟩
theorem RelE.same {tmps : Array Value} (h : RelE G w n env' tmps) (he : ∀ t, Env.get env t = Env.get env' t) : RelE G w n env tmps := ⟨h.1, fun t => by rw [he]; exact h.2 t⟩
theorem mean_reenv {c : ACode} (he : ∀ t, Env.get env t = Env.get env' t) (h : Mean P hh (.code c env' σ) Q) : Mean P hh (.code c env σ) Q := by
 intro F n cd G w a B f1 f2 f3 f4 f5 f6
 exact h f1 f2 (f3.same fun t => (he t).symm) f4 f5 f6
theorem mean_reops {os : List AOper} (he : ∀ t, Env.get env t = Env.get env' t) (h : Mean P hh (.ops os env' σ) Q) : Mean P hh (.ops os env σ) Q := by
 intro F n ops l G w a B R f1 f2 f3 f4 f5 f6
 exact h f1 f2 (f3.same fun t => (he t).symm) f4 f5 f6
theorem mean_weak {c : ACode} (he : ∀ t, Env.get env' t = .undef ∨ Env.get env' t = Env.get env t ∨ Env.get env' t = clr (Env.get env t)) (h : Mean P hh (.code c env' σ) Q) : Mean P hh (.code c env σ) Q := by
 intro F n cd G w a B f1 f2 f3 f4 f5 f6
 refine h f1 f2 ⟨f3.1, fun t => ?_⟩ f4 f5 f6
 rcases he t with e | e | e
 ·rw [e]; exact .undef _
 ·rw [e]; exact f3.2 t
 ·rw [e]; exact (f3.2 t).clr
theorem sound {T : FuncId → Option AFunc} (hT : ∀ f af, T f = some af → ∃ fn, P.funcs[f]? = some fn ∧ compFunc P hh fn = some af) {t : Task} (h : Run T t Q) : Mean P hh t Q := by
 induction h with
 | mono _ hq ih => exact mean_mono ih hq
 | skip h => exact mean_skip h
 | jump h => exact mean_jump h
 | seq _ _ h2 ih ih1 => exact mean_seq ih ih1 h2
 | cond b hc _ ih => exact mean_cond b hc ih
 | block _ h1 ih => exact mean_block ih h1
 | loop _ _ h2 ih ih1 => exact mean_loop ih ih1 h2
 | scope _ ih => exact mean_scope ih
 | reg _ ih => exact mean_reg ih fun _ _ => trivial
 | dreg _ ih => exact mean_dreg ih
 | rangeFunc hf _ h1 ih => exact mean_rangeFunc hf ih h1
 | trim _ h1 ih => exact mean_trim ih h1
 | trim2 _ h1 ih => exact mean_trim2 ih h1
 | frame hf h0 _ h1 ih => exact mean_frame hf h0 ih h1
 | frameS hf h0 _ h1 ih => exact mean_frameS hf h0 ih h1
 | chainNil h => exact mean_chainNil h
 | chainCons _ _ h2 ih ih1 => exact mean_chainCons ih ih1 h2
 | chain _ h1 h2 _ ih ih1 => exact mean_chain ih h1 h2 ih1
 | ghost t sz xs ht _ ih => exact mean_ghost t sz xs ht ih
 | reenv he _ ih => exact mean_reenv he ih
 | weak he _ ih => exact mean_weak he ih
 | reops he _ ih => exact mean_reops he ih
 | nil h => exact mean_nil h
 | off hw _ ih => exact mean_off hw ih
 | step hw ha _ ih => exact mean_step hw ha ih
 | stepc hw ho _ _ ih ih1 => exact mean_stepc hw ho ih ih1
 | stepm hw ho hx hl he hn _ _ ih0 ih1 => exact mean_stepm hw ho hx hl he hn ih0 ih1
 | dnil hr h => exact mean_dnil hr h
 | doff hw _ ih => exact mean_doff hw ih
 | dalloc hw ho _ ih => exact mean_dalloc hw ho ih
 | dpure hw hk ha _ ih => exact mean_dpure hw hk ha ih
 | dread hw hk ha _ ih => exact mean_dread hw hk ih
 | dact hw hk ha _ ih => exact mean_dact hw hk ha ih
 | dcall hw ho _ _ ih ih1 => exact mean_dcall hw ho ih ih1
 | callf _ ih => exact callv_of_call ih
 | round hl hn _ h0 _ h2 ih ih1 => exact mean_round hl hn ih h0 ih1 h2
 | call hf hn _ h1 ih => exact mean_call hT hf hn ih h1
end Go.Am
namespace Go.Am
variable {P : Program} {hh : String → Bool}
def Gh.start (w : World) : Gh := ⟨fun _ => none, fun _ => none, fun _ => none, fun _ => none, fun _ => False, w.heap.size, w.heap, fun _ => none⟩
end Go.Am
namespace Go.Am
open Go.ChangeShapes Go.WideShapes Go.ChangeAt Go.RowKit
variable {P : Program} {hh : String → Bool} {H : Type} {enc : TypeId × Value → H} {w : World} {sp : Nat → Bool} {held : Bool}
def limW (w : World) (b : Nat) : Option Nat := match w.heap[b]? with
 | some (.cells vs _ _) => some vs.size
 | _ => none
noncomputable def argG (w : World) : Gh := (Gh.start w).fresh0 w (limW w) fun b => ∃ L, limW w b = some L
theorem argG_rel (w : World) : RelS P hh (argG w) w [] := fresh0_rel fun b L e => by
 refine ⟨⟨L, e⟩, ?_⟩
 unfold limW at e
 split at e
 ·rename_i vs T fr h
  simp only [Option.some.injEq] at e
  exact ⟨vs, T, fr, h, by omega⟩
 ·cases e
def RelL (G : Gh) (w : World) (az : List AV) (cs : List Value) : Prop := az.length = cs.length ∧ ∀ (i : Nat) a v, az[i]? = some a → cs[i]? = some v → RelV G w a v
theorem RelL.nil {G : Gh} : RelL G w [] [] := ⟨rfl, by simp⟩
theorem RelL.one {G : Gh} {a : AV} {v : Value} (h : RelV G w a v) : RelL G w [a] [v] := ⟨rfl, fun i x u e1 e2 => by
 cases i with
 | zero => simp at e1 e2; subst e1; subst e2; exact h
 | succ i => simp at e1⟩
theorem calls_of_runA {T : FuncId → Option AFunc} (hT : ∀ f af, T f = some af → ∃ fn, P.funcs[f]? = some fn ∧ compFunc P hh fn = some af) {f : FuncId} {az : List AV} {vs : Array Value} {w : World} (ha : RelArgs (argG w) w az vs) (h : Run T (.call f az []) fun o => o.v = .bool true) :
  Calls P f vs w fun e w' => e = .returned (.bool true) ∧ RowKit.Below w.heap.size w w' := by
 have hs := sound hT h
 refine (callsIn_wide.1 (hs.2 (G := argG w) (w := w) (vs := vs) ha (argG_rel w))).mono fun e w' hr => ?_
 obtain ⟨r, G', u, rfl, q1, q2, q3, q4⟩ := hr
 rw [q1] at q2
 cases q2
 refine ⟨rfl, q4.os, q4.tape, q4.output, q4.size, fun k hk => ?_⟩
 have hB : G'.B0 = w.heap.size := q4.B0
 have hh0 : G'.h0 = (argG w).h0 := q4.h0
 rw [q3.base k (by rw [hB]; exact hk), hh0]
 simp only [argG, Gh.fresh0]
 rw [Array.getElem?_append_left hk]
theorem relArgs_nil {G : Gh} : RelArgs G w [] #[] := ⟨rfl, by simp⟩
end Go.Am
namespace Go.Am
variable {T : FuncId → Option AFunc}
def bindO (r : Option (AV × St)) (K : AV → St → Prop) : Prop :=
 match r with
 | some (v, σ) => K v σ
 | none => False
@[congr] theorem bindO_congr {r r' : Option (AV × St)} {K : AV → St → Prop} (h : r = r') : bindO r K = bindO r' K := by rw [h]
@[simp] theorem bindO_some (v : AV) (σ : St) (K : AV → St → Prop) : bindO (some (v, σ)) K = K v σ := rfl
@[simp] theorem bindO_none (K : AV → St → Prop) : bindO none K = False := rfl
@[simp] theorem bindO_ite (c : Prop) [Decidable c] (r q : Option (AV × St)) (K : AV → St → Prop) : bindO (if c then r else q) K = if c then bindO r K else bindO q K := by split <;> rfl
def bindB (v : AV) (A B : Unit → Prop) : Prop :=
 match v with
 | .bool true => A ()
 | .bool false => B ()
 | _ => False
@[congr] theorem bindB_congr {v v' : AV} {A B : Unit → Prop} (h : v = v') : bindB v A B = bindB v' A B := by rw [h]
@[simp] theorem bindB_bool (b : Bool) (A B : Unit → Prop) : bindB (.bool b) A B = if b = true then A () else B () := by cases b <;> rfl
def bindG (v : AV) (want : Bool) (A B : Unit → Prop) : Prop :=
 match v with
 | .bool b => if b = want then A () else B ()
 | .tuple [] => B ()
 | _ => False
@[congr] theorem bindG_congr {v v' : AV} {want : Bool} {A B : Unit → Prop} (h : v = v') : bindG v want A B = bindG v' want A B := by rw [h]
@[simp] theorem bindG_bool (b want : Bool) (A B : Unit → Prop) : bindG (.bool b) want A B = if b = want then A () else B () := rfl
@[simp] theorem bindG_off (want : Bool) (A B : Unit → Prop) : bindG (.tuple []) want A B = B () := rfl
def CallK (T : FuncId → Option AFunc) (f : AV) (args : List AV) (σ : St) (K : AV → St → Prop) : Prop := Run T (.callv f args σ) fun r => K r.v r.σ
@[congr] theorem CallK_congr {f f' : AV} {args args' : List AV} {σ σ' : St} {K : AV → St → Prop} (h1 : f = f') (h2 : args = args') (h3 : σ = σ') : CallK T f args σ K = CallK T f' args' σ' K := by rw [h1, h2, h3]
def wpOp (T : FuncId → Option AFunc) (q : AOp) (e : Env) (σ : St) (K : AV → St → Prop) : Prop :=
 match q with
 | .call f args => CallK T (f.ev e) (args.map (·.ev e)) σ K
 | q => bindO (aop q e σ) K
@[congr] theorem wpOp_congr {q : AOp} {e e' : Env} {σ σ' : St} {K : AV → St → Prop} (h2 : e = e') (h3 : σ = σ') : wpOp T q e σ K = wpOp T q e' σ' K := by rw [h2, h3]
def wpOps (T : FuncId → Option AFunc) : List AOper → Env → St → (Env → St → Prop) → Prop
 | [], e, σ, K => K e σ
 | ⟨dst, q, none⟩ :: os, e, σ, K => wpOp T q e σ fun v σ' => wpOps T os (Env.put e dst v) σ' K
 | ⟨dst, q, some (t, want)⟩ :: os, e, σ, K =>
  bindG (Env.get e t) want (fun _ => wpOp T q e σ fun v σ' => wpOps T os (Env.put e dst v) σ' K) (fun _ => wpOps T os (Env.put e dst (.tuple [])) σ K)
@[congr] theorem wpOps_congr {os : List AOper} {e e' : Env} {σ σ' : St} {K : Env → St → Prop} (h2 : e = e') (h3 : σ = σ') : wpOps T os e σ K = wpOps T os e' σ' K := by rw [h2, h3]
theorem run_wpOps {Q : Out → Prop} : ∀ {os : List AOper} {e : Env} {σ : St} {K : Env → St → Prop}, wpOps T os e σ K → (∀ e σ, K e σ → Q ⟨none, e, σ, .undef⟩) → Run T (.ops os e σ) Q
 | [], e, σ, K, h, hq => .nil (hq _ _ h)
 | o :: os, e, σ, K, h, hq => by
  have key : o.wanted e = some true → wpOp T o.op e σ (fun v σ' => wpOps T os (Env.put e o.dst v) σ' K) → Run T (.ops (o :: os) e σ) Q := by
   intro hw h
   by_cases hc : ∃ f args, o.op = .call f args
   ·obtain ⟨f, args, ho⟩ := hc
    rw [ho] at h
    exact .stepc hw ho h fun r hr => run_wpOps hr hq
   ·have : ∃ v σ', aop o.op e σ = some (v, σ') ∧ wpOps T os (Env.put e o.dst v) σ' K := by
     unfold wpOp at h
     split at h
     ·rename_i f args ho; exact absurd ⟨f, args, ho⟩ hc
     ·unfold bindO at h
      split at h
      ·rename_i v σ' hv; exact ⟨v, σ', hv, h⟩
      ·exact h.elim
    obtain ⟨v, σ', h1, h2⟩ := this
    exact .step hw h1 (run_wpOps h2 hq)
  obtain ⟨dst, q, g⟩ := o
  cases g with
  | none => exact key rfl h
  | some g =>
   obtain ⟨t, want⟩ := g
   simp only [wpOps, bindG] at h
   split at h
   ·rename_i b h1
    split at h
    ·rename_i hb
     exact key (by simp [AOper.wanted, h1, hb]) h
    ·rename_i hb
     exact .off (by simp [AOper.wanted, h1]; simpa using hb) (run_wpOps h hq)
   ·rename_i h1
    exact .off (by simp [AOper.wanted, h1]) (run_wpOps h hq)
   ·exact h.elim
abbrev KJ := Option AJump → Env → St → Prop
def thenK (A K : KJ) : KJ := fun j e σ => match j with | none => A none e σ | some j => K (some j) e σ
@[simp] theorem thenK_none (A K : KJ) (e : Env) (σ : St) : thenK A K none e σ = A none e σ := rfl
@[simp] theorem thenK_some (A K : KJ) (j : AJump) (e : Env) (σ : St) : thenK A K (some j) e σ = K (some j) e σ := rfl
def blockK (id : Nat) (K : KJ) : KJ := fun j e σ => match j with | some (.exit i) => if i = id then K none e σ else K (some (.exit i)) e σ | j => K j e σ
@[simp] theorem blockK_none (id : Nat) (K : KJ) (e : Env) (σ : St) : blockK id K none e σ = K none e σ := rfl
@[simp] theorem blockK_ret (id : Nat) (K : KJ) (e : Env) (σ : St) : blockK id K (some .ret) e σ = K (some .ret) e σ := rfl
@[simp] theorem blockK_exit (id i : Nat) (K : KJ) (e : Env) (σ : St) : blockK id K (some (.exit i)) e σ = if i = id then K none e σ else K (some (.exit i)) e σ := rfl
def RunK (T : FuncId → Option AFunc) (c : ACode) (e : Env) (σ : St) (K : KJ) : Prop := Run T (.code c e σ) fun o => K o.j o.env o.σ
@[congr] theorem RunK_congr {c : ACode} {e e' : Env} {σ σ' : St} {K : KJ} (h2 : e = e') (h3 : σ = σ') : RunK T c e σ K = RunK T c e' σ' K := by rw [h2, h3]
def wp (T : FuncId → Option AFunc) : ACode → Env → St → KJ → Prop
 | .skip, e, σ, K => K none e σ
 | .reg os, e, σ, K => wpOps T os e σ fun e σ => K none e σ
 | .seq a b, e, σ, K => wp T a e σ (thenK (fun _ e σ => wp T b e σ K) K)
 | .cond c a b, e, σ, K => bindB (c.ev e) (fun _ => wp T a e σ K) (fun _ => wp T b e σ K)
 | .block id b, e, σ, K => wp T b e σ (blockK id K)
 | .jump j, e, σ, K => K (some j) e σ
 | .scope b, e, σ, K => wp T b e σ K
 | c, e, σ, K => RunK T c e σ K
@[congr] theorem wp_congr {c : ACode} {e e' : Env} {σ σ' : St} {K : KJ} (h2 : e = e') (h3 : σ = σ') : wp T c e σ K = wp T c e' σ' K := by rw [h2, h3]
theorem run_wp {Q : Out → Prop} : ∀ {c : ACode} {e : Env} {σ : St} {K : KJ}, wp T c e σ K → (∀ o, K o.j o.env o.σ → Q o) → Run T (.code c e σ) Q := by
 intro c
 induction c generalizing Q with
 | skip => intro e σ K h hq; exact .skip (hq ⟨none, e, σ, .undef⟩ h)
 | reg os => intro e σ K h hq; exact .reg (run_wpOps h fun e σ hk => hq ⟨none, e, σ, .undef⟩ hk)
 | dreg ds => intro e σ K h hq; exact .mono h hq
 | seq a b iha ihb =>
  intro e σ K h hq
  refine .seq (iha h fun o ho => ho) (fun o ho hj => ?_) fun o ho hj => ?_
  ·simp only [hj, thenK] at ho
   exact ihb ho hq
  ·refine hq o ?_
   cases hj' : o.j with
   | none => exact absurd hj' hj
   | some j => simp only [hj', thenK] at ho; exact ho
 | cond c a b iha ihb =>
  intro e σ K h hq
  simp only [wp, bindB] at h
  split at h
  ·rename_i h1; exact .cond true h1 (iha h hq)
  ·rename_i h1; exact .cond false h1 (ihb h hq)
  ·exact h.elim
 | block id b ih =>
  intro e σ K h hq
  refine .block (ih h fun o ho => ho) fun o ho => hq _ ?_
  unfold blockK at ho
  split at ho
  ·rename_i i hj
   split at ho
   ·rename_i hi; subst hi; rw [if_pos hj]; exact ho
   ·rename_i hi; rw [if_neg (by rw [hj]; simpa using hi), hj]; exact ho
  ·rename_i hj
   rw [if_neg (fun e => hj _ e)]
   exact ho
 | loop b ih => intro e σ K h hq; exact .mono h hq
 | rangeFunc f ps a b _ _ => intro e σ K h hq; exact .mono h hq
 | jump j => intro e σ K h hq; exact .jump (hq ⟨some j, e, σ, .undef⟩ h)
 | scope b ih => intro e σ K h hq; exact .scope (ih h hq)
def Pure (T : FuncId → Option AFunc) (f : FuncId) (args : List AV) (v : AV) : Prop := ∀ σ, Run T (.call f args σ) fun o => o.v = v ∧ o.σ = σ
theorem st_get (σ τ : St) (k : Nat) : (σ ++ τ)[σ.length + k]? = τ[k]? := by rw [List.getElem?_append_right (by omega)]; congr 1; omega
theorem st_set (σ τ : St) (k : Nat) (x : ABlk) : (σ ++ τ).set (σ.length + k) x = σ ++ τ.set k x := by rw [List.set_append_right _ _ (by omega)]; congr 2; omega
theorem st_set0 (σ τ : St) (x : ABlk) : (σ ++ τ).set σ.length x = σ ++ τ.set 0 x := st_set σ τ 0 x
end Go.Am
namespace Go.Am
variable {T : FuncId → Option AFunc}
theorem q_put (e : Env) (d : Nat) (v : AV) : Env.put e (some d) v = (d, v) :: e := by simp only [Env.put]
theorem q_put0 (e : Env) (v : AV) : Env.put e none v = e := by simp only [Env.put]
theorem q_get (k : Nat) (v : AV) (e : Env) (t : Nat) : Env.get ((k, v) :: e) t = if k = t then v else Env.get e t := by simp only [Env.get]
theorem q_evt (e : Env) (t : Nat) : AOpd.ev e (.t t) = Env.get e t := by simp only [AOpd.ev]
theorem q_evc (e : Env) (v : AV) : AOpd.ev e (.c v) = v := by simp only [AOpd.ev]
theorem q_reg (os : List AOper) (e : Env) (σ : St) (K : KJ) : wp T (.reg os) e σ K = wpOps T os e σ fun e σ => K none e σ := by simp only [wp]
theorem q_seq (a b : ACode) (e : Env) (σ : St) (K : KJ) : wp T (.seq a b) e σ K = wp T a e σ (thenK (fun _ e σ => wp T b e σ K) K) := by simp only [wp]
theorem q_jump (j : AJump) (e : Env) (σ : St) (K : KJ) : wp T (.jump j) e σ K = K (some j) e σ := by simp only [wp]
theorem q_then (A K : KJ) (e : Env) (σ : St) : thenK A K none e σ = A none e σ := by simp only [thenK]
theorem q_nil (e : Env) (σ : St) (K : Env → St → Prop) : wpOps T [] e σ K = K e σ := by simp only [wpOps]
def optV (r : Option AV) (σ : St) (K : AV → St → Prop) : Prop := match r with | some v => K v σ | none => False
@[congr] theorem optV_congr {r r' : Option AV} {σ σ' : St} {K : AV → St → Prop} (h : r = r') (h2 : σ = σ') : optV r σ K = optV r' σ' K := by rw [h, h2]
def optC (r : Option (List AV)) (σ : St) (K : AV → St → Prop) : Prop := match r with | some cs => K (.agg cs) σ | none => False
@[congr] theorem optC_congr {r r' : Option (List AV)} {σ σ' : St} {K : AV → St → Prop} (h : r = r') (h2 : σ = σ') : optC r σ K = optC r' σ' K := by rw [h, h2]
def optS (r : Option St) (K : AV → St → Prop) : Prop := match r with | some σ => K (.tuple []) σ | none => False
@[congr] theorem optS_congr {r r' : Option St} {K : AV → St → Prop} (h : r = r') : optS r K = optS r' K := by rw [h]
def vCells (n : Nat) (v : AV) : Option (List AV) := if (v.cells.length == n && v.cells.all (·.cell)) = true then some v.cells else none
def vFaddr (off : Nat) : AV → Option AV
 | .ptr id o => some (.ptr id (o + off))
 | .lptr xs i o t => some (.lptr xs i (o + off) t)
 | _ => none
theorem q_faddrP (off id o : Nat) : vFaddr off (.ptr id o) = some (.ptr id (o + off)) := by simp [vFaddr]
theorem q_faddrL (off : Nat) (xs : List AV) (i o : Nat) (t : Option Nat) : vFaddr off (.lptr xs i o t) = some (.lptr xs i (o + off) t) := by simp [vFaddr]
def optN (r : Option (List AV)) (σ : St) (K : AV → St → Prop) : Prop := match r with | some cs => K (.ptr σ.length 0) (σ ++ [.cells cs]) | none => False
@[congr] theorem optN_congr {r r' : Option (List AV)} {σ σ' : St} {K : AV → St → Prop} (h : r = r') (h2 : σ = σ') : optN r σ K = optN r' σ' K := by rw [h, h2]
def vExt (i : Nat) : AV → Option AV
 | .tuple vs => vs[i]?
 | _ => none
theorem q_extT (i : Nat) (vs : List AV) : vExt i (.tuple vs) = vs[i]? := by simp [vExt]
def vNot : AV → Option AV
 | .bool b => some (.bool !b)
 | _ => none
theorem q_notB (b : Bool) : vNot (.bool b) = some (.bool !b) := by simp [vNot]
def vEql (sh : EqTy) (neg : Bool) (x y : AV) : Option AV := (eqSh sh x y).map fun b => .bool (if neg then !b else b)
theorem q_skip (e : Env) (σ : St) (K : KJ) : wp T .skip e σ K = K none e σ := by simp only [wp]
theorem q_block (id : Nat) (b : ACode) (e : Env) (σ : St) (K : KJ) : wp T (.block id b) e σ K = wp T b e σ (blockK id K) := by simp only [wp]
theorem q_scope (b : ACode) (e : Env) (σ : St) (K : KJ) : wp T (.scope b) e σ K = wp T b e σ K := by simp only [wp]
theorem q_thenJ (A K : KJ) (j : AJump) (e : Env) (σ : St) : thenK A K (some j) e σ = K (some j) e σ := by simp only [thenK]
theorem q_arg0 (k : Nat) : argsEnv k [] = [] := by simp only [argsEnv]
theorem q_arg (k : Nat) (v : AV) (vs : List AV) : argsEnv k (v :: vs) = (k, v) :: argsEnv (k + 1) vs := by simp only [argsEnv]
theorem q_bcI (e : Env) (cs : List AV) (off n : Nat) (x : AOpd) (rest : List (Nat × Nat × AOpd)) :
  buildCells e cs ((off, n, x) :: rest) = ((vCells n (x.ev e)).bind fun us => setCells cs off us).bind fun cs => buildCells e cs rest := by
 simp only [buildCells, vCells]; split
 ·simp only [Option.bind_some]; cases setCells cs off (x.ev e).cells <;> simp
 ·simp
end Go.Am
namespace Go.Am
variable {T : FuncId → Option AFunc}
def LoopK (I : Nat → Env → St → Prop) (k : Nat) (K : KJ) : KJ := fun j e σ => match j with | none => ∃ k', k' < k ∧ I k' e σ | some j => K (some j) e σ
theorem q_loopNone (I : Nat → Env → St → Prop) (k : Nat) (K : KJ) (e : Env) (σ : St) : LoopK I k K none e σ = ∃ k', k' < k ∧ I k' e σ := by simp only [LoopK]
theorem q_loopSome (I : Nat → Env → St → Prop) (k : Nat) (K : KJ) (j : AJump) (e : Env) (σ : St) : LoopK I k K (some j) e σ = K (some j) e σ := by simp only [LoopK]
theorem loopK {b : ACode} {K : KJ} (I : Nat → Env → St → Prop) (step : ∀ k e σ, I k e σ → wp T b e σ (LoopK I k K)) : ∀ n e σ, I n e σ → RunK T (.loop b) e σ K := by
 intro n
 induction n using Nat.strongRecOn with
 | _ n ih =>
  intro e σ h
  refine .loop (run_wp (step n e σ h) fun o ho => ho) (fun o ho hj => ?_) fun o ho hj => ?_
  ·simp only [hj, q_loopNone] at ho
   obtain ⟨k', hk, hI⟩ := ho
   exact ih k' hk o.env o.σ hI
  ·cases hj' : o.j with
   | none => exact absurd hj' hj
   | some j => simp only [hj', q_loopSome] at ho; exact ho
end Go.Am
namespace Go.Am
variable {T : FuncId → Option AFunc}
def readP (r : ARead) : List St → Nat → Prop
 | [], _ => True
 | s :: ss, j => (if r.lo ≤ j ∧ j ≤ r.hi then aop r.op r.env s = some (r.v, s) else True) ∧ readP r ss (j + 1)
theorem readP_ok {r : ARead} : ∀ {hist : List St} {k : Nat}, readP r hist k → ∀ j s, r.lo ≤ k + j → k + j ≤ r.hi → hist[j]? = some s → aop r.op r.env s = some (r.v, s)
 | [], k, _, j, s, _, _, h => by simp at h
 | t :: ss, k, h, j, s, h1, h2, h3 => by
  obtain ⟨q1, q2⟩ := h
  cases j with
  | zero => simp at h3; subst h3; rw [if_pos ⟨by omega, by omega⟩] at q1; exact q1
  | succ j => exact readP_ok q2 j s (by omega) (by omega) (by simpa using h3)
def readsP : List ARead → List St → Prop
 | [], _ => True
 | r :: rs, hist => readP r hist 0 ∧ readsP rs hist
theorem readsP_ok : ∀ {rs : List ARead} {hist : List St}, readsP rs hist → ∀ r ∈ rs, ARead.ok r hist
 | [], _, _, r, h => by cases h
 | r :: rs, hist, h, q, hq => by
  rcases List.mem_cons.1 hq with rfl | hq
  ·intro j s h1 h2 h3
   exact readP_ok h.1 j s (by omega) (by omega) h3
  ·exact readsP_ok h.2 q hq
def CallD (T : FuncId → Option AFunc) (f : AV) (args : List AV) (σ : St) (K : AV → St → Prop) : Prop := ∃ v σ', Run T (.callv f args σ) (fun r => r.v = v ∧ r.σ = σ') ∧ K v σ'
@[congr] theorem CallD_congr {f f' : AV} {args args' : List AV} {σ σ' : St} {K : AV → St → Prop} (h1 : f = f') (h2 : args = args') (h3 : σ = σ') : CallD T f args σ K = CallD T f' args' σ' K := by rw [h1, h2, h3]
def wpD (T : FuncId → Option AFunc) : List ADOper → Env → St → Nat → List St → List ARead → (Env → St → Prop) → Prop
 | [], e, σ, _, hist, reads, K => readsP reads hist ∧ K e σ
 | ⟨⟨dst, .call f args, none⟩, _, _⟩ :: ds, e, σ, next, hist, reads, K => CallD T (f.ev e) (args.map (·.ev e)) σ fun v σ' => wpD T ds (Env.put e dst v) σ' next (hist ++ [σ']) reads K
 | ⟨⟨dst, .alloc _, none⟩, _, _⟩ :: ds, e, σ, next, hist, reads, K => wpD T ds (Env.put e dst (.ptr next 0)) σ (next + 1) hist reads K
 | ⟨⟨dst, q, none⟩, lo, hi⟩ :: ds, e, σ, next, hist, reads, K =>
  bindO (aop q e σ) fun v σ' =>
   if q.acts = true then wpD T ds (Env.put e dst v) σ' next (hist ++ [σ']) reads K
   else σ' = σ ∧ if q.reads = true then wpD T ds (Env.put e dst v) σ next hist (⟨lo, hi, q, e, v⟩ :: reads) K else wpD T ds (Env.put e dst v) σ next hist reads K
 | ⟨⟨dst, .call f args, some (t, want)⟩, _, _⟩ :: ds, e, σ, next, hist, reads, K =>
  bindG (Env.get e t) want (fun _ => CallD T (f.ev e) (args.map (·.ev e)) σ fun v σ' => wpD T ds (Env.put e dst v) σ' next (hist ++ [σ']) reads K)
   (fun _ => wpD T ds (Env.put e dst (.tuple [])) σ next (hist ++ [σ]) reads K)
 | ⟨⟨dst, q, some (t, want)⟩, lo, hi⟩ :: ds, e, σ, next, hist, reads, K =>
  bindG (Env.get e t) want
   (fun _ => q.allocs = false ∧ bindO (aop q e σ) fun v σ' =>
    if q.acts = true then wpD T ds (Env.put e dst v) σ' next (hist ++ [σ']) reads K
    else σ' = σ ∧ if q.reads = true then wpD T ds (Env.put e dst v) σ next hist (⟨lo, hi, q, e, v⟩ :: reads) K else wpD T ds (Env.put e dst v) σ next hist reads K)
   (fun _ => wpD T ds (Env.put e dst (.tuple [])) σ (if q.allocs then next + 1 else next) (if q.acts then hist ++ [σ] else hist) reads K)
theorem run_wpD {Q : Out → Prop} : ∀ {ds : List ADOper} {e : Env} {σ : St} {next : Nat} {hist : List St} {reads : List ARead} {K : Env → St → Prop}, wpD T ds e σ next hist reads K →
  (∀ e σ, K e σ → Q ⟨none, e, σ, .undef⟩) → Run T (.dops ds e σ next hist reads) Q
 | [], e, σ, next, hist, reads, K, h, hq => .dnil (readsP_ok h.1) (hq _ _ h.2)
 | ⟨⟨dst, q, g⟩, lo, hi⟩ :: ds, e, σ, next, hist, reads, K, h, hq => by
  -- an operation that is neither a call nor a new variable
  have key : AOper.wanted ⟨dst, q, g⟩ e = some true → q.allocs = false → (bindO (aop q e σ) fun v σ' =>
    if q.acts = true then wpD T ds (Env.put e dst v) σ' next (hist ++ [σ']) reads K
    else σ' = σ ∧ if q.reads = true then wpD T ds (Env.put e dst v) σ next hist (⟨lo, hi, q, e, v⟩ :: reads) K else wpD T ds (Env.put e dst v) σ next hist reads K) →
    Run T (.dops (⟨⟨dst, q, g⟩, lo, hi⟩ :: ds) e σ next hist reads) Q := by
   intro hw hal h
   unfold bindO at h
   split at h
   ·rename_i v σ' hv
    split at h
    ·rename_i ha; exact .dact hw ha hv (run_wpD h hq)
    ·rename_i ha
     obtain ⟨rfl, h⟩ := h
     split at h
     ·rename_i hr; exact .dread hw hr hv (run_wpD h hq)
     ·rename_i hr; exact .dpure hw (by simp [hal]; exact ⟨by simpa using ha, by simpa using hr⟩) hv (run_wpD h hq)
   ·exact h.elim
  by_cases hc : ∃ f args, q = .call f args
  ·obtain ⟨f, args, rfl⟩ := hc
   cases g with
   | none =>
    simp only [wpD, CallD] at h
    obtain ⟨v, σ', h1, h2⟩ := h
    exact .dcall rfl rfl h1 (run_wpD h2 hq)
   | some g =>
    obtain ⟨t, want⟩ := g
    simp only [wpD, bindG] at h
    split at h
    ·rename_i b h1
     split at h
     ·rename_i hb
      obtain ⟨v, σ', h3, h4⟩ := h
      exact .dcall (by simp [AOper.wanted, h1, hb]) rfl h3 (run_wpD h4 hq)
     ·rename_i hb
      exact .doff (by simp [AOper.wanted, h1]; simpa using hb) (by simpa [AOp.allocs, AOp.acts] using run_wpD h hq)
    ·rename_i h1
     exact .doff (by simp [AOper.wanted, h1]) (by simpa [AOp.allocs, AOp.acts] using run_wpD h hq)
    ·exact h.elim
  ·cases g with
   | none =>
    by_cases hal : ∃ z, q = .alloc z
    ·obtain ⟨z, rfl⟩ := hal
     simp only [wpD] at h
     exact .dalloc rfl rfl (run_wpD h hq)
    ·refine key rfl ?_ ?_
     ·cases q <;> first | rfl | exact absurd ⟨_, rfl⟩ hal
     ·cases q <;> first | exact h | exact absurd ⟨_, _, rfl⟩ hc | exact absurd ⟨_, rfl⟩ hal
   | some g =>
    obtain ⟨t, want⟩ := g
    have h : bindG (Env.get e t) want (fun _ => q.allocs = false ∧ bindO (aop q e σ) fun v σ' =>
      if q.acts = true then wpD T ds (Env.put e dst v) σ' next (hist ++ [σ']) reads K
      else σ' = σ ∧ if q.reads = true then wpD T ds (Env.put e dst v) σ next hist (⟨lo, hi, q, e, v⟩ :: reads) K else wpD T ds (Env.put e dst v) σ next hist reads K)
      (fun _ => wpD T ds (Env.put e dst (.tuple [])) σ (if q.allocs then next + 1 else next) (if q.acts then hist ++ [σ] else hist) reads K) := by
     cases q <;> first | exact h | exact absurd ⟨_, _, rfl⟩ hc
    simp only [bindG] at h
    split at h
    ·rename_i b h1
     split at h
     ·rename_i hb
      exact key (by simp [AOper.wanted, h1, hb]) h.1 h.2
     ·rename_i hb
      exact .doff (by simp [AOper.wanted, h1]; simpa using hb) (run_wpD h hq)
    ·rename_i h1
     exact .doff (by simp [AOper.wanted, h1]) (run_wpD h hq)
    ·exact h.elim
end Go.Am
namespace Go.Am
variable {T : FuncId → Option AFunc}
class HP (α : Type) where
 out : α
def bO (r : Option (AV × St)) [K : HP (AV → St → Prop)] : Prop := bindO r K.out
theorem B_some (v : AV) (σ : St) (K : AV → St → Prop) : bO (K := ⟨K⟩) (some (v, σ)) = K v σ := by simp only [bO, bindO]
def cK (T : FuncId → Option AFunc) (f : AV) (args : List AV) (σ : St) [K : HP (AV → St → Prop)] : Prop := CallK T f args σ K.out
def cD (T : FuncId → Option AFunc) (f : AV) (args : List AV) (σ : St) [K : HP (AV → St → Prop)] : Prop := CallD T f args σ K.out
def rK (T : FuncId → Option AFunc) (c : ACode) (e : Env) (σ : St) [K : HP KJ] : Prop := RunK T c e σ K.out
def iteP (b : Bool) [A : HP Prop] [B : HP Prop] : Prop := if b = true then A.out else B.out
theorem iteP_true (A : Prop) (B : HP Prop) : iteP (A := ⟨A⟩) true = A := by simp [iteP]
theorem iteP_false (A : HP Prop) (B : Prop) : iteP (B := ⟨B⟩) false = B := by simp [iteP]
theorem iteP_intro {b : Bool} {A B : Prop} (h1 : b = true → A) (h2 : b = false → B) : iteP (A := ⟨A⟩) (B := ⟨B⟩) b := by cases b <;> simp [iteP] <;> first | exact h1 rfl | exact h2 rfl
def bB (v : AV) [A : HP Prop] [B : HP Prop] : Prop := bindB v (fun _ => A.out) (fun _ => B.out)
def bG (v : AV) (want : Bool) [A : HP Prop] [B : HP Prop] : Prop := bindG v want (fun _ => A.out) (fun _ => B.out)
theorem W_loop (b : ACode) (e : Env) (σ : St) (K : KJ) : wp T (.loop b) e σ K = rK (K := ⟨K⟩) T (.loop b) e σ := by simp only [wp, rK]
theorem W_range (f : AOpd) (ps : List Nat) (a b : ACode) (e : Env) (σ : St) (K : KJ) : wp T (.rangeFunc f ps a b) e σ K = rK (K := ⟨K⟩) T (.rangeFunc f ps a b) e σ := by simp only [wp, rK]
theorem W_cond (c : AOpd) (a b : ACode) (e : Env) (σ : St) (K : KJ) : wp T (.cond c a b) e σ K = bB (A := ⟨wp T a e σ K⟩) (B := ⟨wp T b e σ K⟩) (c.ev e) := by simp only [wp, bB]
def evs (e : Env) : List AOpd → List AV
 | [] => []
 | x :: xs => x.ev e :: evs e xs
theorem evs_map (e : Env) : ∀ xs : List AOpd, xs.map (·.ev e) = evs e xs
 | [] => rfl
 | x :: xs => by simp [evs, evs_map e xs]
def ovs (e : Env) : Option AOpd → Option AV
 | none => none
 | some x => some (x.ev e)
def vPick : AV → AV → AV → Option AV
 | .bool true, x, _ => some x
 | .bool false, _, y => some y
 | _, _, _ => none
def vLit (n : Nat) (xs : List AV) : Option AV := if allCells n xs = true then some (.lit xs true none) else none
def vNil : AV → Option AV
 | .ptr i o => some (.ptr i o)
 | .lptr xs i o t => some (.lptr xs i o t)
 | .func f a b => some (.func f a b)
 | .yield i => some (.yield i)
 | _ => none
def vNeg : AV → Option AV
 | .int k n => some (.int k (k.wrap (0 - n)))
 | _ => none
def vConv (k : IntKind) : AV → Option AV
 | .int _ n => some (.int k (k.wrap n))
 | _ => none
def vStr : AV → Option ByteArray
 | .str s => some s
 | _ => none
def vSnext (σ : St) : AV → Option (AV × St)
 | .ptr id 0 =>
  match σ[id]? with
  | some (.siter s pos) =>
   if pos < s.size then some (.tuple [.bool true, .int .i64 pos, .int .i32 (Utf8.decode s pos).1], σ.set id (.siter s (pos + (Utf8.decode s pos).2)))
   else some (.tuple [.bool false], σ)
  | _ => none
 | _ => none
def vMkslice (bytes : Nat) (l c : AV) : Option Nat :=
 match l, c with
 | .int _ n, .int _ m => if 0 ≤ n ∧ n = m ∧ n * bytes ≤ room ∧ n ≤ room then some n.toNat else none
 | _, _ => none
def vBound (d : Nat) : Option AV → Option Int
 | none => some d
 | some x => intOf x
def vSlicev (sz : Nat) (σ : St) (x : AV) (lo hi mx : Option AV) : Option AV :=
 match lenAV 1 σ x with
 | none => none
 | some n =>
  match vBound 0 lo, vBound n hi, mx.map intOf with
  | some l, some h, none => sliceAV sz x l h false
  | some l, some h, some (some m) => if m = h ∧ hi.isSome = true then sliceAV sz x l h true else none
  | _, _, _ => none
def vSlicea (n sz : Nat) (x : AV) (lo hi : Option AV) : Option AV :=
 match x, vBound 0 lo, vBound n hi with
 | .ptr id off, some l, some h => if 0 ≤ l ∧ l ≤ h ∧ h ≤ n then some (.ref id (off + l.toNat * sz) (h.toNat - l.toNat) sz) else none
 | _, _, _ => none
def vField (off : Nat) (sh : Option Nat) : AV → Option AV
 | .agg cs => shaped sh cs off
 | _ => none
def vIaddr (arr : Option Nat) (sz : Nat) (x i : AV) : Option AV :=
 match intOf i, arr, x with
 | some j, some n, .ptr id off => if 0 ≤ j ∧ j < n then some (.ptr id (off + j.toNat * sz)) else none
 | some j, some n, .lptr xs q off t => if 0 ≤ j ∧ j < n then some (.lptr xs q (off + j.toNat * sz) t) else none
 | some j, none, .lit xs _ t =>
  match xs[j.toNat]? with
  | some y => if 0 ≤ j ∧ y.cells.length = sz then some (.lptr xs j.toNat 0 t) else none
  | none => none
 | some j, none, .ref id off len sz' => if 0 ≤ j ∧ j < len ∧ sz' = sz then some (.ptr id (off + j.toNat * sz)) else none
 | _, _, _ => none
def vIndex (n sz : Nat) (sh : Option Nat) (x i : AV) : Option AV :=
 match intOf i, x with
 | some j, .agg cs => if 0 ≤ j ∧ j < n then shaped sh cs (j.toNat * sz) else none
 | _, _ => none
def vSindex (x i : AV) : Option AV :=
 match intOf i, x with
 | some j, .str s => if 0 ≤ j then (s[j.toNat]?).map fun b => .int .u8 b.toNat else none
 | _, _ => none
def vLook (ok : Bool) (zero : AV) : Option (Option AV) → Option AV
 | some (some v) => some (if ok then .tuple [v, .bool true] else v)
 | some none => some (if ok then .tuple [zero, .bool false] else zero)
 | none => none
def vMapset (sh : EqTy) (σ : St) (m k v : AV) : Option St :=
 match m with
 | .map id =>
  if (eqSh sh k k).isSome = false then none else
  match σ[id]? with
  | some (.map es) => (setKey sh k v es).map fun es' => σ.set id (.map es')
  | _ => none
 | _ => none
theorem A_mov (x : AOpd) (e : Env) (σ : St) : aop (.mov x) e σ = some (x.ev e, σ) := by
 simp only [aop]
theorem A_alloc (z : List AV) (e : Env) (σ : St) : aop (.alloc z) e σ = some (.ptr σ.length 0, σ ++ [.cells z]) := by
 simp only [aop]
theorem A_pick (c x y : AOpd) (e : Env) (σ : St) : aop (.pick c x y) e σ = (vPick (c.ev e) (x.ev e) (y.ev e)).map (·, σ) := by
 simp only [aop, vPick]; repeat' split
 all_goals simp_all
theorem A_box (n : Nat) (x : AOpd) (e : Env) (σ : St) : aop (.box n x) e σ = (vCells n (x.ev e)).map fun cs => (.ptr σ.length 0, σ ++ [.cells cs]) := by
 simp only [aop, vCells]; split <;> simp_all
theorem A_build (z : List AV) (ps : List (Nat × Nat × AOpd)) (e : Env) (σ : St) : aop (.build z ps) e σ = (buildCells e z ps).map fun cs => (.agg cs, σ) := by
 simp only [aop]; cases buildCells e z ps <;> simp
theorem A_mklit (n : Nat) (xs : List AOpd) (e : Env) (σ : St) : aop (.mklit n xs) e σ = (vLit n (evs e xs)).map (·, σ) := by
 simp only [aop, vLit, evs_map]; split <;> simp_all
theorem A_mkref (n : Nat) (xs : List AOpd) (e : Env) (σ : St) : aop (.mkref n xs) e σ = (vLit n (evs e xs)).map fun _ => (.ref σ.length 0 (evs e xs).length n, σ ++ [.cells ((evs e xs).flatMap AV.cells)]) := by
 simp only [aop, vLit, evs_map]; have := congrArg List.length (evs_map e xs); split <;> simp_all
theorem A_load (sh : Option Nat) (x : AOpd) (e : Env) (σ : St) : aop (.load sh x) e σ = (loadAV sh σ (x.ev e)).map (·, σ) := by
 simp only [aop]; cases loadAV sh σ (x.ev e) <;> simp
theorem A_store (n : Nat) (x y : AOpd) (e : Env) (σ : St) : aop (.store n x y) e σ = (storeAV n σ (x.ev e) (y.ev e)).map (.tuple [], ·) := by
 simp only [aop]; cases storeAV n σ (x.ev e) (y.ev e) <;> simp
theorem A_nilCheck (x : AOpd) (e : Env) (σ : St) : aop (.nilCheck x) e σ = (vNil (x.ev e)).map (·, σ) := by
 simp only [aop, vNil]; cases x.ev e <;> simp
theorem A_bin (op : BinOp) (x y : AOpd) (e : Env) (σ : St) : aop (.bin op x y) e σ = (binAV op (x.ev e) (y.ev e)).map (·, σ) := by
 simp only [aop]; cases binAV op (x.ev e) (y.ev e) <;> simp
theorem A_eql (sh : EqTy) (n : Bool) (x y : AOpd) (e : Env) (σ : St) : aop (.eql sh n x y) e σ = (vEql sh n (x.ev e) (y.ev e)).map (·, σ) := by
 simp only [aop, vEql]; cases eqSh sh (x.ev e) (y.ev e) <;> simp
theorem A_not (x : AOpd) (e : Env) (σ : St) : aop (.not x) e σ = (vNot (x.ev e)).map (·, σ) := by
 simp only [aop, vNot]; cases x.ev e <;> simp
theorem A_neg (x : AOpd) (e : Env) (σ : St) : aop (.neg x) e σ = (vNeg (x.ev e)).map (·, σ) := by
 simp only [aop, vNeg]; cases x.ev e <;> simp
theorem A_conv (k : IntKind) (x : AOpd) (e : Env) (σ : St) : aop (.conv k x) e σ = (vConv k (x.ev e)).map (·, σ) := by
 simp only [aop, vConv]; cases x.ev e <;> simp
theorem A_mkfun (f : FuncId) (xs ys : List AOpd) (e : Env) (σ : St) : aop (.mkfun f xs ys) e σ = some (.func f (evs e xs) (evs e ys), σ) := by
 simp only [aop, evs_map]
theorem A_mkmap  (e : Env) (σ : St) : aop (.mkmap) e σ = some (.map σ.length, σ ++ [.map []]) := by
 simp only [aop]
theorem A_mkslice (z : List AV) (b : Nat) (x y : AOpd) (e : Env) (σ : St) : aop (.mkslice z b x y) e σ = (vMkslice b (x.ev e) (y.ev e)).map fun n => (.ref σ.length 0 n z.length, σ ++ [.cells (List.replicate n z).flatten]) := by
 simp only [aop, vMkslice]; generalize x.ev e = u; generalize y.ev e = v; cases u <;> cases v <;> first | rfl | (dsimp only; split <;> first | rfl | simp_all | (split <;> simp_all))
theorem A_slicev (n : Nat) (x : AOpd) (lo hi mx : Option AOpd) (e : Env) (σ : St) : aop (.slicev n x lo hi mx) e σ = (vSlicev n σ (x.ev e) (ovs e lo) (ovs e hi) (ovs e mx)).map (·, σ) := by
 simp only [aop, vSlicev]; cases lenAV 1 σ (x.ev e) <;> cases lo <;> cases hi <;> cases mx <;> simp only [boundOr, vBound, ovs, Option.map_none, Option.map_some] <;> repeat' split
 all_goals simp_all
theorem A_slicea (n s : Nat) (x : AOpd) (lo hi : Option AOpd) (e : Env) (σ : St) : aop (.slicea n s x lo hi) e σ = (vSlicea n s (x.ev e) (ovs e lo) (ovs e hi)).map (·, σ) := by
 simp only [aop, vSlicea]; generalize x.ev e = u; cases lo with
 | none => cases hi with
  | none => simp only [boundOr, vBound, ovs]; cases u <;> first | rfl | (dsimp only; split <;> first | rfl | simp_all | (split <;> simp_all))
  | some h => simp only [boundOr, vBound, ovs]; generalize intOf (h.ev e) = p; cases u <;> cases p <;> first | rfl | (dsimp only; split <;> first | rfl | simp_all | (split <;> simp_all))
 | some l => cases hi with
  | none => simp only [boundOr, vBound, ovs]; generalize intOf (l.ev e) = p; cases u <;> cases p <;> first | rfl | (dsimp only; split <;> first | rfl | simp_all | (split <;> simp_all))
  | some h => simp only [boundOr, vBound, ovs]; generalize intOf (l.ev e) = p; generalize intOf (h.ev e) = q; cases u <;> cases p <;> cases q <;> first | rfl | (dsimp only; split <;> first | rfl | simp_all | (split <;> simp_all))
theorem A_faddr (x : AOpd) (o : Nat) (e : Env) (σ : St) : aop (.faddr x o) e σ = (vFaddr o (x.ev e)).map (·, σ) := by
 simp only [aop, vFaddr]; cases x.ev e <;> simp
theorem A_field (x : AOpd) (o : Nat) (sh : Option Nat) (e : Env) (σ : St) : aop (.field x o sh) e σ = (vField o sh (x.ev e)).map (·, σ) := by
 simp only [aop, vField]; cases x.ev e <;> simp <;> (rename_i cs; cases shaped sh cs o <;> simp)
theorem A_iaddr (a : Option Nat) (s : Nat) (x i : AOpd) (e : Env) (σ : St) : aop (.iaddr a s x i) e σ = (vIaddr a s (x.ev e) (i.ev e)).map (·, σ) := by
 simp only [aop, vIaddr]; generalize intOf (i.ev e) = q; generalize x.ev e = u; cases q <;> cases a <;> cases u <;> first | rfl | (dsimp only; split <;> first | rfl | simp_all | (split <;> simp_all))
theorem A_index (n s : Nat) (sh : Option Nat) (x i : AOpd) (e : Env) (σ : St) : aop (.index n s sh x i) e σ = (vIndex n s sh (x.ev e) (i.ev e)).map (·, σ) := by
 simp only [aop, vIndex]; generalize intOf (i.ev e) = q; generalize x.ev e = u; cases q <;> cases u <;> first | rfl | (dsimp only; split <;> first | rfl | simp_all | (split <;> simp_all))
theorem A_sindex (x i : AOpd) (e : Env) (σ : St) : aop (.sindex x i) e σ = (vSindex (x.ev e) (i.ev e)).map (·, σ) := by
 simp only [aop, vSindex]; generalize intOf (i.ev e) = q; generalize x.ev e = u; cases q <;> cases u <;> first | rfl | (dsimp only; split <;> first | rfl | (rename_i k b h; cases b[k.toNat]? <;> rfl))
theorem A_lookup (sh : EqTy) (ok : Bool) (z : AV) (m k : AOpd) (e : Env) (σ : St) : aop (.lookup sh ok z m k) e σ = (vLook ok z (lookAV sh σ (m.ev e) (k.ev e))).map (·, σ) := by
 simp only [aop, vLook]; cases lookAV sh σ (m.ev e) (k.ev e) with
 | none => rfl
 | some o => cases o <;> rfl
theorem A_mapset (sh : EqTy) (m k v : AOpd) (e : Env) (σ : St) : aop (.mapset sh m k v) e σ = (vMapset sh σ (m.ev e) (k.ev e) (v.ev e)).map (.tuple [], ·) := by
 simp only [aop, vMapset]; repeat' split
 all_goals simp_all
theorem A_ext (x : AOpd) (i : Nat) (e : Env) (σ : St) : aop (.ext x i) e σ = (vExt i (x.ev e)).map (·, σ) := by
 simp only [aop, vExt]; cases x.ev e <;> simp <;> (rename_i vs; cases vs[i]? <;> simp)
theorem A_len (k : Nat) (x : AOpd) (e : Env) (σ : St) : aop (.len k x) e σ = (lenAV k σ (x.ev e)).map fun n => (.int .i64 n, σ) := by
 simp only [aop]; cases lenAV k σ (x.ev e) <;> simp
theorem A_append (n b : Nat) (x y : AOpd) (e : Env) (σ : St) : aop (.append n b x y) e σ = appendAV n b σ (x.ev e) (y.ev e) := by
 simp only [aop]
theorem A_apref (n b : Nat) (x y : AOpd) (e : Env) (σ : St) : aop (.apref n b x y) e σ = aprefAV n b σ (x.ev e) (y.ev e) := by
 simp only [aop]
theorem A_copy (n : Nat) (x y : AOpd) (e : Env) (σ : St) : aop (.copy n x y) e σ = copyAV n σ (x.ev e) (y.ev e) := by
 simp only [aop]
theorem A_min (xs : List AOpd) (e : Env) (σ : St) : aop (.min xs) e σ = (minAV (evs e xs)).map (·, σ) := by
 simp only [aop, evs_map]; cases minAV (evs e xs) <;> simp
theorem A_max (xs : List AOpd) (e : Env) (σ : St) : aop (.max xs) e σ = (maxAV (evs e xs)).map (·, σ) := by
 simp only [aop, evs_map]; cases maxAV (evs e xs) <;> simp
theorem A_srange (x : AOpd) (e : Env) (σ : St) : aop (.srange x) e σ = (vStr (x.ev e)).map fun s => (.ptr σ.length 0, σ ++ [.siter s 0]) := by
 simp only [aop, vStr]; cases x.ev e <;> simp
theorem A_snext (x : AOpd) (e : Env) (σ : St) : aop (.snext x) e σ = vSnext σ (x.ev e) := by
 simp only [aop, vSnext]; cases x.ev e <;> rfl
theorem W_mov (x : AOpd) (d : Option Nat) (os : List AOper) (e : Env) (σ : St) (K : Env → St → Prop) : wpOps T (⟨d, .mov x, none⟩ :: os) e σ K = bO (K := ⟨fun v σ' => wpOps T os (Env.put e d v) σ' K⟩) (aop (.mov x) e σ) := by simp only [wpOps, wpOp, bO]
theorem W_alloc (z : List AV) (d : Option Nat) (os : List AOper) (e : Env) (σ : St) (K : Env → St → Prop) : wpOps T (⟨d, .alloc z, none⟩ :: os) e σ K = bO (K := ⟨fun v σ' => wpOps T os (Env.put e d v) σ' K⟩) (aop (.alloc z) e σ) := by simp only [wpOps, wpOp, bO]
theorem W_pick (c x y : AOpd) (d : Option Nat) (os : List AOper) (e : Env) (σ : St) (K : Env → St → Prop) : wpOps T (⟨d, .pick c x y, none⟩ :: os) e σ K = bO (K := ⟨fun v σ' => wpOps T os (Env.put e d v) σ' K⟩) (aop (.pick c x y) e σ) := by simp only [wpOps, wpOp, bO]
theorem W_box (n : Nat) (x : AOpd) (d : Option Nat) (os : List AOper) (e : Env) (σ : St) (K : Env → St → Prop) : wpOps T (⟨d, .box n x, none⟩ :: os) e σ K = bO (K := ⟨fun v σ' => wpOps T os (Env.put e d v) σ' K⟩) (aop (.box n x) e σ) := by simp only [wpOps, wpOp, bO]
theorem W_build (z : List AV) (ps : List (Nat × Nat × AOpd)) (d : Option Nat) (os : List AOper) (e : Env) (σ : St) (K : Env → St → Prop) : wpOps T (⟨d, .build z ps, none⟩ :: os) e σ K = bO (K := ⟨fun v σ' => wpOps T os (Env.put e d v) σ' K⟩) (aop (.build z ps) e σ) := by simp only [wpOps, wpOp, bO]
theorem W_mklit (n : Nat) (xs : List AOpd) (d : Option Nat) (os : List AOper) (e : Env) (σ : St) (K : Env → St → Prop) : wpOps T (⟨d, .mklit n xs, none⟩ :: os) e σ K = bO (K := ⟨fun v σ' => wpOps T os (Env.put e d v) σ' K⟩) (aop (.mklit n xs) e σ) := by simp only [wpOps, wpOp, bO]
theorem W_mkref (n : Nat) (xs : List AOpd) (d : Option Nat) (os : List AOper) (e : Env) (σ : St) (K : Env → St → Prop) : wpOps T (⟨d, .mkref n xs, none⟩ :: os) e σ K = bO (K := ⟨fun v σ' => wpOps T os (Env.put e d v) σ' K⟩) (aop (.mkref n xs) e σ) := by simp only [wpOps, wpOp, bO]
theorem W_load (sh : Option Nat) (x : AOpd) (d : Option Nat) (os : List AOper) (e : Env) (σ : St) (K : Env → St → Prop) : wpOps T (⟨d, .load sh x, none⟩ :: os) e σ K = bO (K := ⟨fun v σ' => wpOps T os (Env.put e d v) σ' K⟩) (aop (.load sh x) e σ) := by simp only [wpOps, wpOp, bO]
theorem W_store (n : Nat) (x y : AOpd) (d : Option Nat) (os : List AOper) (e : Env) (σ : St) (K : Env → St → Prop) : wpOps T (⟨d, .store n x y, none⟩ :: os) e σ K = bO (K := ⟨fun v σ' => wpOps T os (Env.put e d v) σ' K⟩) (aop (.store n x y) e σ) := by simp only [wpOps, wpOp, bO]
theorem W_nilCheck (x : AOpd) (d : Option Nat) (os : List AOper) (e : Env) (σ : St) (K : Env → St → Prop) : wpOps T (⟨d, .nilCheck x, none⟩ :: os) e σ K = bO (K := ⟨fun v σ' => wpOps T os (Env.put e d v) σ' K⟩) (aop (.nilCheck x) e σ) := by simp only [wpOps, wpOp, bO]
theorem W_bin (op : BinOp) (x y : AOpd) (d : Option Nat) (os : List AOper) (e : Env) (σ : St) (K : Env → St → Prop) : wpOps T (⟨d, .bin op x y, none⟩ :: os) e σ K = bO (K := ⟨fun v σ' => wpOps T os (Env.put e d v) σ' K⟩) (aop (.bin op x y) e σ) := by simp only [wpOps, wpOp, bO]
theorem W_eql (sh : EqTy) (n : Bool) (x y : AOpd) (d : Option Nat) (os : List AOper) (e : Env) (σ : St) (K : Env → St → Prop) : wpOps T (⟨d, .eql sh n x y, none⟩ :: os) e σ K = bO (K := ⟨fun v σ' => wpOps T os (Env.put e d v) σ' K⟩) (aop (.eql sh n x y) e σ) := by simp only [wpOps, wpOp, bO]
theorem W_not (x : AOpd) (d : Option Nat) (os : List AOper) (e : Env) (σ : St) (K : Env → St → Prop) : wpOps T (⟨d, .not x, none⟩ :: os) e σ K = bO (K := ⟨fun v σ' => wpOps T os (Env.put e d v) σ' K⟩) (aop (.not x) e σ) := by simp only [wpOps, wpOp, bO]
theorem W_neg (x : AOpd) (d : Option Nat) (os : List AOper) (e : Env) (σ : St) (K : Env → St → Prop) : wpOps T (⟨d, .neg x, none⟩ :: os) e σ K = bO (K := ⟨fun v σ' => wpOps T os (Env.put e d v) σ' K⟩) (aop (.neg x) e σ) := by simp only [wpOps, wpOp, bO]
theorem W_conv (k : IntKind) (x : AOpd) (d : Option Nat) (os : List AOper) (e : Env) (σ : St) (K : Env → St → Prop) : wpOps T (⟨d, .conv k x, none⟩ :: os) e σ K = bO (K := ⟨fun v σ' => wpOps T os (Env.put e d v) σ' K⟩) (aop (.conv k x) e σ) := by simp only [wpOps, wpOp, bO]
theorem W_mkfun (f : FuncId) (xs ys : List AOpd) (d : Option Nat) (os : List AOper) (e : Env) (σ : St) (K : Env → St → Prop) : wpOps T (⟨d, .mkfun f xs ys, none⟩ :: os) e σ K = bO (K := ⟨fun v σ' => wpOps T os (Env.put e d v) σ' K⟩) (aop (.mkfun f xs ys) e σ) := by simp only [wpOps, wpOp, bO]
theorem W_mkmap  (d : Option Nat) (os : List AOper) (e : Env) (σ : St) (K : Env → St → Prop) : wpOps T (⟨d, .mkmap, none⟩ :: os) e σ K = bO (K := ⟨fun v σ' => wpOps T os (Env.put e d v) σ' K⟩) (aop (.mkmap) e σ) := by simp only [wpOps, wpOp, bO]
theorem W_mkslice (z : List AV) (b : Nat) (x y : AOpd) (d : Option Nat) (os : List AOper) (e : Env) (σ : St) (K : Env → St → Prop) : wpOps T (⟨d, .mkslice z b x y, none⟩ :: os) e σ K = bO (K := ⟨fun v σ' => wpOps T os (Env.put e d v) σ' K⟩) (aop (.mkslice z b x y) e σ) := by simp only [wpOps, wpOp, bO]
theorem W_slicev (n : Nat) (x : AOpd) (lo hi mx : Option AOpd) (d : Option Nat) (os : List AOper) (e : Env) (σ : St) (K : Env → St → Prop) : wpOps T (⟨d, .slicev n x lo hi mx, none⟩ :: os) e σ K = bO (K := ⟨fun v σ' => wpOps T os (Env.put e d v) σ' K⟩) (aop (.slicev n x lo hi mx) e σ) := by simp only [wpOps, wpOp, bO]
theorem W_slicea (n s : Nat) (x : AOpd) (lo hi : Option AOpd) (d : Option Nat) (os : List AOper) (e : Env) (σ : St) (K : Env → St → Prop) : wpOps T (⟨d, .slicea n s x lo hi, none⟩ :: os) e σ K = bO (K := ⟨fun v σ' => wpOps T os (Env.put e d v) σ' K⟩) (aop (.slicea n s x lo hi) e σ) := by simp only [wpOps, wpOp, bO]
theorem W_faddr (x : AOpd) (o : Nat) (d : Option Nat) (os : List AOper) (e : Env) (σ : St) (K : Env → St → Prop) : wpOps T (⟨d, .faddr x o, none⟩ :: os) e σ K = bO (K := ⟨fun v σ' => wpOps T os (Env.put e d v) σ' K⟩) (aop (.faddr x o) e σ) := by simp only [wpOps, wpOp, bO]
theorem W_field (x : AOpd) (o : Nat) (sh : Option Nat) (d : Option Nat) (os : List AOper) (e : Env) (σ : St) (K : Env → St → Prop) : wpOps T (⟨d, .field x o sh, none⟩ :: os) e σ K = bO (K := ⟨fun v σ' => wpOps T os (Env.put e d v) σ' K⟩) (aop (.field x o sh) e σ) := by simp only [wpOps, wpOp, bO]
theorem W_iaddr (a : Option Nat) (s : Nat) (x i : AOpd) (d : Option Nat) (os : List AOper) (e : Env) (σ : St) (K : Env → St → Prop) : wpOps T (⟨d, .iaddr a s x i, none⟩ :: os) e σ K = bO (K := ⟨fun v σ' => wpOps T os (Env.put e d v) σ' K⟩) (aop (.iaddr a s x i) e σ) := by simp only [wpOps, wpOp, bO]
theorem W_index (n s : Nat) (sh : Option Nat) (x i : AOpd) (d : Option Nat) (os : List AOper) (e : Env) (σ : St) (K : Env → St → Prop) : wpOps T (⟨d, .index n s sh x i, none⟩ :: os) e σ K = bO (K := ⟨fun v σ' => wpOps T os (Env.put e d v) σ' K⟩) (aop (.index n s sh x i) e σ) := by simp only [wpOps, wpOp, bO]
theorem W_sindex (x i : AOpd) (d : Option Nat) (os : List AOper) (e : Env) (σ : St) (K : Env → St → Prop) : wpOps T (⟨d, .sindex x i, none⟩ :: os) e σ K = bO (K := ⟨fun v σ' => wpOps T os (Env.put e d v) σ' K⟩) (aop (.sindex x i) e σ) := by simp only [wpOps, wpOp, bO]
theorem W_lookup (sh : EqTy) (ok : Bool) (z : AV) (m k : AOpd) (d : Option Nat) (os : List AOper) (e : Env) (σ : St) (K : Env → St → Prop) : wpOps T (⟨d, .lookup sh ok z m k, none⟩ :: os) e σ K = bO (K := ⟨fun v σ' => wpOps T os (Env.put e d v) σ' K⟩) (aop (.lookup sh ok z m k) e σ) := by simp only [wpOps, wpOp, bO]
theorem W_mapset (sh : EqTy) (m k v : AOpd) (d : Option Nat) (os : List AOper) (e : Env) (σ : St) (K : Env → St → Prop) : wpOps T (⟨d, .mapset sh m k v, none⟩ :: os) e σ K = bO (K := ⟨fun v σ' => wpOps T os (Env.put e d v) σ' K⟩) (aop (.mapset sh m k v) e σ) := by simp only [wpOps, wpOp, bO]
theorem W_ext (x : AOpd) (i : Nat) (d : Option Nat) (os : List AOper) (e : Env) (σ : St) (K : Env → St → Prop) : wpOps T (⟨d, .ext x i, none⟩ :: os) e σ K = bO (K := ⟨fun v σ' => wpOps T os (Env.put e d v) σ' K⟩) (aop (.ext x i) e σ) := by simp only [wpOps, wpOp, bO]
theorem W_len (k : Nat) (x : AOpd) (d : Option Nat) (os : List AOper) (e : Env) (σ : St) (K : Env → St → Prop) : wpOps T (⟨d, .len k x, none⟩ :: os) e σ K = bO (K := ⟨fun v σ' => wpOps T os (Env.put e d v) σ' K⟩) (aop (.len k x) e σ) := by simp only [wpOps, wpOp, bO]
theorem W_append (n b : Nat) (x y : AOpd) (d : Option Nat) (os : List AOper) (e : Env) (σ : St) (K : Env → St → Prop) : wpOps T (⟨d, .append n b x y, none⟩ :: os) e σ K = bO (K := ⟨fun v σ' => wpOps T os (Env.put e d v) σ' K⟩) (aop (.append n b x y) e σ) := by simp only [wpOps, wpOp, bO]
theorem W_apref (n b : Nat) (x y : AOpd) (d : Option Nat) (os : List AOper) (e : Env) (σ : St) (K : Env → St → Prop) : wpOps T (⟨d, .apref n b x y, none⟩ :: os) e σ K = bO (K := ⟨fun v σ' => wpOps T os (Env.put e d v) σ' K⟩) (aop (.apref n b x y) e σ) := by simp only [wpOps, wpOp, bO]
theorem W_copy (n : Nat) (x y : AOpd) (d : Option Nat) (os : List AOper) (e : Env) (σ : St) (K : Env → St → Prop) : wpOps T (⟨d, .copy n x y, none⟩ :: os) e σ K = bO (K := ⟨fun v σ' => wpOps T os (Env.put e d v) σ' K⟩) (aop (.copy n x y) e σ) := by simp only [wpOps, wpOp, bO]
theorem W_min (xs : List AOpd) (d : Option Nat) (os : List AOper) (e : Env) (σ : St) (K : Env → St → Prop) : wpOps T (⟨d, .min xs, none⟩ :: os) e σ K = bO (K := ⟨fun v σ' => wpOps T os (Env.put e d v) σ' K⟩) (aop (.min xs) e σ) := by simp only [wpOps, wpOp, bO]
theorem W_max (xs : List AOpd) (d : Option Nat) (os : List AOper) (e : Env) (σ : St) (K : Env → St → Prop) : wpOps T (⟨d, .max xs, none⟩ :: os) e σ K = bO (K := ⟨fun v σ' => wpOps T os (Env.put e d v) σ' K⟩) (aop (.max xs) e σ) := by simp only [wpOps, wpOp, bO]
theorem W_srange (x : AOpd) (d : Option Nat) (os : List AOper) (e : Env) (σ : St) (K : Env → St → Prop) : wpOps T (⟨d, .srange x, none⟩ :: os) e σ K = bO (K := ⟨fun v σ' => wpOps T os (Env.put e d v) σ' K⟩) (aop (.srange x) e σ) := by simp only [wpOps, wpOp, bO]
theorem W_snext (x : AOpd) (d : Option Nat) (os : List AOper) (e : Env) (σ : St) (K : Env → St → Prop) : wpOps T (⟨d, .snext x, none⟩ :: os) e σ K = bO (K := ⟨fun v σ' => wpOps T os (Env.put e d v) σ' K⟩) (aop (.snext x) e σ) := by simp only [wpOps, wpOp, bO]
theorem W_call (f : AOpd) (xs : List AOpd) (d : Option Nat) (os : List AOper) (e : Env) (σ : St) (K : Env → St → Prop) : wpOps T (⟨d, .call f xs, none⟩ :: os) e σ K = cK (K := ⟨fun v σ' => wpOps T os (Env.put e d v) σ' K⟩) T (f.ev e) (evs e xs) σ := by simp only [wpOps, wpOp, evs_map, cK]
theorem W_bindB (b : Bool) (A B : HP Prop) : bB (.bool b) (A := A) (B := B) = iteP (A := A) (B := B) b := by cases b <;> simp [bB, bindB, iteP]
theorem W_bindG1 (b : Bool) (A B : HP Prop) : bG (.bool b) true (A := A) (B := B) = iteP (A := A) (B := B) b := by cases b <;> simp [bG, bindG, iteP]
theorem W_bindG0 (b : Bool) (A B : HP Prop) : bG (.bool b) false (A := A) (B := B) = iteP (A := B) (B := A) b := by cases b <;> simp [bG, bindG, iteP]
theorem W_bindGT (w : Bool) (A : HP Prop) (B : Prop) : bG (.tuple []) w (A := A) (B := ⟨B⟩) = B := by simp [bG, bindG]
theorem W_guard (d : Option Nat) (q : AOp) (t : Nat) (want : Bool) (os : List AOper) (e : Env) (σ : St) (K : Env → St → Prop) : wpOps T (⟨d, q, some (t, want)⟩ :: os) e σ K =
  bG (A := ⟨wpOps T (⟨d, q, none⟩ :: os) e σ K⟩) (B := ⟨wpOps T os (Env.put e d (.tuple [])) σ K⟩) (Env.get e t) want := by simp only [wpOps, bG]
theorem D_reg (ds : List ADOper) (e : Env) (σ : St) (K : KJ) : wp T (.dreg ds) e σ K = rK (K := ⟨K⟩) T (.dreg ds) e σ := by simp only [wp, rK]
theorem rK_dreg {ds : List ADOper} {e : Env} {σ : St} {K : KJ} (h : wpD T ds e (σ ++ allocsOf ds) σ.length [σ ++ allocsOf ds] [] fun e σ => K none e σ) : rK (K := ⟨K⟩) T (.dreg ds) e σ := .dreg (run_wpD h fun e σ hk => hk)
theorem D_nil (e : Env) (σ : St) (next : Nat) (hist : List St) (reads : List ARead) (K : Env → St → Prop) : wpD T [] e σ next hist reads K = (readsP reads hist ∧ K e σ) := by simp only [wpD]
theorem D_call (f : AOpd) (xs : List AOpd) (d : Option Nat) (lo hi : Nat) (ds : List ADOper) (e : Env) (σ : St) (next : Nat) (hist : List St) (reads : List ARead) (K : Env → St → Prop) :
  wpD T (⟨⟨d, .call f xs, none⟩, lo, hi⟩ :: ds) e σ next hist reads K = cD (K := ⟨fun v σ' => wpD T ds (Env.put e d v) σ' next (hist ++ [σ']) reads K⟩) T (f.ev e) (evs e xs) σ := by simp only [wpD, evs_map, cD]
theorem D_alloc (z : List AV) (d : Option Nat) (lo hi : Nat) (ds : List ADOper) (e : Env) (σ : St) (next : Nat) (hist : List St) (reads : List ARead) (K : Env → St → Prop) :
  wpD T (⟨⟨d, .alloc z, none⟩, lo, hi⟩ :: ds) e σ next hist reads K = wpD T ds (Env.put e d (.ptr next 0)) σ (next + 1) hist reads K := by simp only [wpD]
def readQ (lo hi : Nat) (q : AOp) (e : Env) (v : AV) : List St → Nat → Prop
 | [], _ => True
 | s :: ss, j => (if lo ≤ j ∧ j ≤ hi then aop q e s = some (v, s) else True) ∧ readQ lo hi q e v ss (j + 1)
theorem readQ_eq (r : ARead) : ∀ (ss : List St) (j : Nat), readQ r.lo r.hi r.op r.env r.v ss j = readP r ss j
 | [], j => by simp only [readQ, readP]
 | s :: ss, j => by simp only [readQ, readP, readQ_eq r ss (j + 1)]
theorem D_readsN (hist : List St) : readsP [] hist = True := by simp only [readsP]
theorem D_readsC (lo hi : Nat) (q : AOp) (e : Env) (v : AV) (rs : List ARead) (hist : List St) : readsP (⟨lo, hi, q, e, v⟩ :: rs) hist = (readQ lo hi q e v hist 0 ∧ readsP rs hist) := by
 simp only [readsP]; rw [← readQ_eq]
theorem D_readN (lo hi : Nat) (q : AOp) (e : Env) (v : AV) (j : Nat) : readQ lo hi q e v [] j = True := by simp only [readQ]
theorem D_readC (lo hi : Nat) (q : AOp) (e : Env) (v : AV) (s : St) (ss : List St) (j : Nat) : readQ lo hi q e v (s :: ss) j = ((if lo ≤ j ∧ j ≤ hi then aop q e s = some (v, s) else True) ∧ readQ lo hi q e v ss (j + 1)) := by simp only [readQ]
theorem D_mov (x : AOpd) (d : Option Nat) (wl wh : Nat) (ds : List ADOper) (e : Env) (σ : St) (next : Nat) (hist : List St) (reads : List ARead) (K : Env → St → Prop) : wpD T (⟨⟨d, .mov x, none⟩, wl, wh⟩ :: ds) e σ next hist reads K = bO (K := ⟨fun v σ' => σ' = σ ∧ wpD T ds (Env.put e d v) σ next hist reads K⟩) (aop (.mov x) e σ) := by
 simp only [wpD, bO, AOp.acts, AOp.reads, if_true, Bool.false_eq_true, if_false]
theorem D_pick (c x y : AOpd) (d : Option Nat) (wl wh : Nat) (ds : List ADOper) (e : Env) (σ : St) (next : Nat) (hist : List St) (reads : List ARead) (K : Env → St → Prop) : wpD T (⟨⟨d, .pick c x y, none⟩, wl, wh⟩ :: ds) e σ next hist reads K = bO (K := ⟨fun v σ' => σ' = σ ∧ wpD T ds (Env.put e d v) σ next hist reads K⟩) (aop (.pick c x y) e σ) := by
 simp only [wpD, bO, AOp.acts, AOp.reads, if_true, Bool.false_eq_true, if_false]
theorem D_box (n : Nat) (x : AOpd) (d : Option Nat) (wl wh : Nat) (ds : List ADOper) (e : Env) (σ : St) (next : Nat) (hist : List St) (reads : List ARead) (K : Env → St → Prop) : wpD T (⟨⟨d, .box n x, none⟩, wl, wh⟩ :: ds) e σ next hist reads K = bO (K := ⟨fun v σ' => wpD T ds (Env.put e d v) σ' next (hist ++ [σ']) reads K⟩) (aop (.box n x) e σ) := by
 simp only [wpD, bO, AOp.acts, AOp.reads, if_true, Bool.false_eq_true, if_false]
theorem D_build (z : List AV) (ps : List (Nat × Nat × AOpd)) (d : Option Nat) (wl wh : Nat) (ds : List ADOper) (e : Env) (σ : St) (next : Nat) (hist : List St) (reads : List ARead) (K : Env → St → Prop) : wpD T (⟨⟨d, .build z ps, none⟩, wl, wh⟩ :: ds) e σ next hist reads K = bO (K := ⟨fun v σ' => σ' = σ ∧ wpD T ds (Env.put e d v) σ next hist reads K⟩) (aop (.build z ps) e σ) := by
 simp only [wpD, bO, AOp.acts, AOp.reads, if_true, Bool.false_eq_true, if_false]
theorem D_mklit (n : Nat) (xs : List AOpd) (d : Option Nat) (wl wh : Nat) (ds : List ADOper) (e : Env) (σ : St) (next : Nat) (hist : List St) (reads : List ARead) (K : Env → St → Prop) : wpD T (⟨⟨d, .mklit n xs, none⟩, wl, wh⟩ :: ds) e σ next hist reads K = bO (K := ⟨fun v σ' => σ' = σ ∧ wpD T ds (Env.put e d v) σ next hist reads K⟩) (aop (.mklit n xs) e σ) := by
 simp only [wpD, bO, AOp.acts, AOp.reads, if_true, Bool.false_eq_true, if_false]
theorem D_mkref (n : Nat) (xs : List AOpd) (d : Option Nat) (wl wh : Nat) (ds : List ADOper) (e : Env) (σ : St) (next : Nat) (hist : List St) (reads : List ARead) (K : Env → St → Prop) : wpD T (⟨⟨d, .mkref n xs, none⟩, wl, wh⟩ :: ds) e σ next hist reads K = bO (K := ⟨fun v σ' => wpD T ds (Env.put e d v) σ' next (hist ++ [σ']) reads K⟩) (aop (.mkref n xs) e σ) := by
 simp only [wpD, bO, AOp.acts, AOp.reads, if_true, Bool.false_eq_true, if_false]
theorem D_load (sh : Option Nat) (x : AOpd) (d : Option Nat) (wl wh : Nat) (ds : List ADOper) (e : Env) (σ : St) (next : Nat) (hist : List St) (reads : List ARead) (K : Env → St → Prop) : wpD T (⟨⟨d, .load sh x, none⟩, wl, wh⟩ :: ds) e σ next hist reads K = bO (K := ⟨fun v σ' => σ' = σ ∧ wpD T ds (Env.put e d v) σ next hist (⟨wl, wh, .load sh x, e, v⟩ :: reads) K⟩) (aop (.load sh x) e σ) := by
 simp only [wpD, bO, AOp.acts, AOp.reads, if_true, Bool.false_eq_true, if_false]
theorem D_store (n : Nat) (x y : AOpd) (d : Option Nat) (wl wh : Nat) (ds : List ADOper) (e : Env) (σ : St) (next : Nat) (hist : List St) (reads : List ARead) (K : Env → St → Prop) : wpD T (⟨⟨d, .store n x y, none⟩, wl, wh⟩ :: ds) e σ next hist reads K = bO (K := ⟨fun v σ' => wpD T ds (Env.put e d v) σ' next (hist ++ [σ']) reads K⟩) (aop (.store n x y) e σ) := by
 simp only [wpD, bO, AOp.acts, AOp.reads, if_true, Bool.false_eq_true, if_false]
theorem D_nilCheck (x : AOpd) (d : Option Nat) (wl wh : Nat) (ds : List ADOper) (e : Env) (σ : St) (next : Nat) (hist : List St) (reads : List ARead) (K : Env → St → Prop) : wpD T (⟨⟨d, .nilCheck x, none⟩, wl, wh⟩ :: ds) e σ next hist reads K = bO (K := ⟨fun v σ' => σ' = σ ∧ wpD T ds (Env.put e d v) σ next hist reads K⟩) (aop (.nilCheck x) e σ) := by
 simp only [wpD, bO, AOp.acts, AOp.reads, if_true, Bool.false_eq_true, if_false]
theorem D_bin (op : BinOp) (x y : AOpd) (d : Option Nat) (wl wh : Nat) (ds : List ADOper) (e : Env) (σ : St) (next : Nat) (hist : List St) (reads : List ARead) (K : Env → St → Prop) : wpD T (⟨⟨d, .bin op x y, none⟩, wl, wh⟩ :: ds) e σ next hist reads K = bO (K := ⟨fun v σ' => σ' = σ ∧ wpD T ds (Env.put e d v) σ next hist reads K⟩) (aop (.bin op x y) e σ) := by
 simp only [wpD, bO, AOp.acts, AOp.reads, if_true, Bool.false_eq_true, if_false]
theorem D_eql (sh : EqTy) (n : Bool) (x y : AOpd) (d : Option Nat) (wl wh : Nat) (ds : List ADOper) (e : Env) (σ : St) (next : Nat) (hist : List St) (reads : List ARead) (K : Env → St → Prop) : wpD T (⟨⟨d, .eql sh n x y, none⟩, wl, wh⟩ :: ds) e σ next hist reads K = bO (K := ⟨fun v σ' => σ' = σ ∧ wpD T ds (Env.put e d v) σ next hist reads K⟩) (aop (.eql sh n x y) e σ) := by
 simp only [wpD, bO, AOp.acts, AOp.reads, if_true, Bool.false_eq_true, if_false]
theorem D_not (x : AOpd) (d : Option Nat) (wl wh : Nat) (ds : List ADOper) (e : Env) (σ : St) (next : Nat) (hist : List St) (reads : List ARead) (K : Env → St → Prop) : wpD T (⟨⟨d, .not x, none⟩, wl, wh⟩ :: ds) e σ next hist reads K = bO (K := ⟨fun v σ' => σ' = σ ∧ wpD T ds (Env.put e d v) σ next hist reads K⟩) (aop (.not x) e σ) := by
 simp only [wpD, bO, AOp.acts, AOp.reads, if_true, Bool.false_eq_true, if_false]
theorem D_neg (x : AOpd) (d : Option Nat) (wl wh : Nat) (ds : List ADOper) (e : Env) (σ : St) (next : Nat) (hist : List St) (reads : List ARead) (K : Env → St → Prop) : wpD T (⟨⟨d, .neg x, none⟩, wl, wh⟩ :: ds) e σ next hist reads K = bO (K := ⟨fun v σ' => σ' = σ ∧ wpD T ds (Env.put e d v) σ next hist reads K⟩) (aop (.neg x) e σ) := by
 simp only [wpD, bO, AOp.acts, AOp.reads, if_true, Bool.false_eq_true, if_false]
theorem D_conv (k : IntKind) (x : AOpd) (d : Option Nat) (wl wh : Nat) (ds : List ADOper) (e : Env) (σ : St) (next : Nat) (hist : List St) (reads : List ARead) (K : Env → St → Prop) : wpD T (⟨⟨d, .conv k x, none⟩, wl, wh⟩ :: ds) e σ next hist reads K = bO (K := ⟨fun v σ' => σ' = σ ∧ wpD T ds (Env.put e d v) σ next hist reads K⟩) (aop (.conv k x) e σ) := by
 simp only [wpD, bO, AOp.acts, AOp.reads, if_true, Bool.false_eq_true, if_false]
theorem D_mkfun (f : FuncId) (xs ys : List AOpd) (d : Option Nat) (wl wh : Nat) (ds : List ADOper) (e : Env) (σ : St) (next : Nat) (hist : List St) (reads : List ARead) (K : Env → St → Prop) : wpD T (⟨⟨d, .mkfun f xs ys, none⟩, wl, wh⟩ :: ds) e σ next hist reads K = bO (K := ⟨fun v σ' => σ' = σ ∧ wpD T ds (Env.put e d v) σ next hist reads K⟩) (aop (.mkfun f xs ys) e σ) := by
 simp only [wpD, bO, AOp.acts, AOp.reads, if_true, Bool.false_eq_true, if_false]
theorem D_mkmap  (d : Option Nat) (wl wh : Nat) (ds : List ADOper) (e : Env) (σ : St) (next : Nat) (hist : List St) (reads : List ARead) (K : Env → St → Prop) : wpD T (⟨⟨d, .mkmap, none⟩, wl, wh⟩ :: ds) e σ next hist reads K = bO (K := ⟨fun v σ' => wpD T ds (Env.put e d v) σ' next (hist ++ [σ']) reads K⟩) (aop (.mkmap) e σ) := by
 simp only [wpD, bO, AOp.acts, AOp.reads, if_true, Bool.false_eq_true, if_false]
theorem D_mkslice (z : List AV) (b : Nat) (x y : AOpd) (d : Option Nat) (wl wh : Nat) (ds : List ADOper) (e : Env) (σ : St) (next : Nat) (hist : List St) (reads : List ARead) (K : Env → St → Prop) : wpD T (⟨⟨d, .mkslice z b x y, none⟩, wl, wh⟩ :: ds) e σ next hist reads K = bO (K := ⟨fun v σ' => wpD T ds (Env.put e d v) σ' next (hist ++ [σ']) reads K⟩) (aop (.mkslice z b x y) e σ) := by
 simp only [wpD, bO, AOp.acts, AOp.reads, if_true, Bool.false_eq_true, if_false]
theorem D_slicev (n : Nat) (x : AOpd) (lo hi mx : Option AOpd) (d : Option Nat) (wl wh : Nat) (ds : List ADOper) (e : Env) (σ : St) (next : Nat) (hist : List St) (reads : List ARead) (K : Env → St → Prop) : wpD T (⟨⟨d, .slicev n x lo hi mx, none⟩, wl, wh⟩ :: ds) e σ next hist reads K = bO (K := ⟨fun v σ' => σ' = σ ∧ wpD T ds (Env.put e d v) σ next hist (⟨wl, wh, .slicev n x lo hi mx, e, v⟩ :: reads) K⟩) (aop (.slicev n x lo hi mx) e σ) := by
 simp only [wpD, bO, AOp.acts, AOp.reads, if_true, Bool.false_eq_true, if_false]
theorem D_slicea (n s : Nat) (x : AOpd) (lo hi : Option AOpd) (d : Option Nat) (wl wh : Nat) (ds : List ADOper) (e : Env) (σ : St) (next : Nat) (hist : List St) (reads : List ARead) (K : Env → St → Prop) : wpD T (⟨⟨d, .slicea n s x lo hi, none⟩, wl, wh⟩ :: ds) e σ next hist reads K = bO (K := ⟨fun v σ' => σ' = σ ∧ wpD T ds (Env.put e d v) σ next hist reads K⟩) (aop (.slicea n s x lo hi) e σ) := by
 simp only [wpD, bO, AOp.acts, AOp.reads, if_true, Bool.false_eq_true, if_false]
theorem D_faddr (x : AOpd) (o : Nat) (d : Option Nat) (wl wh : Nat) (ds : List ADOper) (e : Env) (σ : St) (next : Nat) (hist : List St) (reads : List ARead) (K : Env → St → Prop) : wpD T (⟨⟨d, .faddr x o, none⟩, wl, wh⟩ :: ds) e σ next hist reads K = bO (K := ⟨fun v σ' => σ' = σ ∧ wpD T ds (Env.put e d v) σ next hist reads K⟩) (aop (.faddr x o) e σ) := by
 simp only [wpD, bO, AOp.acts, AOp.reads, if_true, Bool.false_eq_true, if_false]
theorem D_field (x : AOpd) (o : Nat) (sh : Option Nat) (d : Option Nat) (wl wh : Nat) (ds : List ADOper) (e : Env) (σ : St) (next : Nat) (hist : List St) (reads : List ARead) (K : Env → St → Prop) : wpD T (⟨⟨d, .field x o sh, none⟩, wl, wh⟩ :: ds) e σ next hist reads K = bO (K := ⟨fun v σ' => σ' = σ ∧ wpD T ds (Env.put e d v) σ next hist reads K⟩) (aop (.field x o sh) e σ) := by
 simp only [wpD, bO, AOp.acts, AOp.reads, if_true, Bool.false_eq_true, if_false]
theorem D_iaddr (a : Option Nat) (s : Nat) (x i : AOpd) (d : Option Nat) (wl wh : Nat) (ds : List ADOper) (e : Env) (σ : St) (next : Nat) (hist : List St) (reads : List ARead) (K : Env → St → Prop) : wpD T (⟨⟨d, .iaddr a s x i, none⟩, wl, wh⟩ :: ds) e σ next hist reads K = bO (K := ⟨fun v σ' => σ' = σ ∧ wpD T ds (Env.put e d v) σ next hist reads K⟩) (aop (.iaddr a s x i) e σ) := by
 simp only [wpD, bO, AOp.acts, AOp.reads, if_true, Bool.false_eq_true, if_false]
theorem D_index (n s : Nat) (sh : Option Nat) (x i : AOpd) (d : Option Nat) (wl wh : Nat) (ds : List ADOper) (e : Env) (σ : St) (next : Nat) (hist : List St) (reads : List ARead) (K : Env → St → Prop) : wpD T (⟨⟨d, .index n s sh x i, none⟩, wl, wh⟩ :: ds) e σ next hist reads K = bO (K := ⟨fun v σ' => σ' = σ ∧ wpD T ds (Env.put e d v) σ next hist reads K⟩) (aop (.index n s sh x i) e σ) := by
 simp only [wpD, bO, AOp.acts, AOp.reads, if_true, Bool.false_eq_true, if_false]
theorem D_sindex (x i : AOpd) (d : Option Nat) (wl wh : Nat) (ds : List ADOper) (e : Env) (σ : St) (next : Nat) (hist : List St) (reads : List ARead) (K : Env → St → Prop) : wpD T (⟨⟨d, .sindex x i, none⟩, wl, wh⟩ :: ds) e σ next hist reads K = bO (K := ⟨fun v σ' => σ' = σ ∧ wpD T ds (Env.put e d v) σ next hist reads K⟩) (aop (.sindex x i) e σ) := by
 simp only [wpD, bO, AOp.acts, AOp.reads, if_true, Bool.false_eq_true, if_false]
theorem D_lookup (sh : EqTy) (ok : Bool) (z : AV) (m k : AOpd) (d : Option Nat) (wl wh : Nat) (ds : List ADOper) (e : Env) (σ : St) (next : Nat) (hist : List St) (reads : List ARead) (K : Env → St → Prop) : wpD T (⟨⟨d, .lookup sh ok z m k, none⟩, wl, wh⟩ :: ds) e σ next hist reads K = bO (K := ⟨fun v σ' => σ' = σ ∧ wpD T ds (Env.put e d v) σ next hist (⟨wl, wh, .lookup sh ok z m k, e, v⟩ :: reads) K⟩) (aop (.lookup sh ok z m k) e σ) := by
 simp only [wpD, bO, AOp.acts, AOp.reads, if_true, Bool.false_eq_true, if_false]
theorem D_mapset (sh : EqTy) (m k v : AOpd) (d : Option Nat) (wl wh : Nat) (ds : List ADOper) (e : Env) (σ : St) (next : Nat) (hist : List St) (reads : List ARead) (K : Env → St → Prop) : wpD T (⟨⟨d, .mapset sh m k v, none⟩, wl, wh⟩ :: ds) e σ next hist reads K = bO (K := ⟨fun v σ' => wpD T ds (Env.put e d v) σ' next (hist ++ [σ']) reads K⟩) (aop (.mapset sh m k v) e σ) := by
 simp only [wpD, bO, AOp.acts, AOp.reads, if_true, Bool.false_eq_true, if_false]
theorem D_ext (x : AOpd) (i : Nat) (d : Option Nat) (wl wh : Nat) (ds : List ADOper) (e : Env) (σ : St) (next : Nat) (hist : List St) (reads : List ARead) (K : Env → St → Prop) : wpD T (⟨⟨d, .ext x i, none⟩, wl, wh⟩ :: ds) e σ next hist reads K = bO (K := ⟨fun v σ' => σ' = σ ∧ wpD T ds (Env.put e d v) σ next hist reads K⟩) (aop (.ext x i) e σ) := by
 simp only [wpD, bO, AOp.acts, AOp.reads, if_true, Bool.false_eq_true, if_false]
theorem D_len (k : Nat) (x : AOpd) (d : Option Nat) (wl wh : Nat) (ds : List ADOper) (e : Env) (σ : St) (next : Nat) (hist : List St) (reads : List ARead) (K : Env → St → Prop) : wpD T (⟨⟨d, .len k x, none⟩, wl, wh⟩ :: ds) e σ next hist reads K = bO (K := ⟨fun v σ' => σ' = σ ∧ wpD T ds (Env.put e d v) σ next hist (⟨wl, wh, .len k x, e, v⟩ :: reads) K⟩) (aop (.len k x) e σ) := by
 simp only [wpD, bO, AOp.acts, AOp.reads, if_true, Bool.false_eq_true, if_false]
theorem D_append (n b : Nat) (x y : AOpd) (d : Option Nat) (wl wh : Nat) (ds : List ADOper) (e : Env) (σ : St) (next : Nat) (hist : List St) (reads : List ARead) (K : Env → St → Prop) : wpD T (⟨⟨d, .append n b x y, none⟩, wl, wh⟩ :: ds) e σ next hist reads K = bO (K := ⟨fun v σ' => wpD T ds (Env.put e d v) σ' next (hist ++ [σ']) reads K⟩) (aop (.append n b x y) e σ) := by
 simp only [wpD, bO, AOp.acts, AOp.reads, if_true, Bool.false_eq_true, if_false]
theorem D_apref (n b : Nat) (x y : AOpd) (d : Option Nat) (wl wh : Nat) (ds : List ADOper) (e : Env) (σ : St) (next : Nat) (hist : List St) (reads : List ARead) (K : Env → St → Prop) : wpD T (⟨⟨d, .apref n b x y, none⟩, wl, wh⟩ :: ds) e σ next hist reads K = bO (K := ⟨fun v σ' => wpD T ds (Env.put e d v) σ' next (hist ++ [σ']) reads K⟩) (aop (.apref n b x y) e σ) := by
 simp only [wpD, bO, AOp.acts, AOp.reads, if_true, Bool.false_eq_true, if_false]
theorem D_copy (n : Nat) (x y : AOpd) (d : Option Nat) (wl wh : Nat) (ds : List ADOper) (e : Env) (σ : St) (next : Nat) (hist : List St) (reads : List ARead) (K : Env → St → Prop) : wpD T (⟨⟨d, .copy n x y, none⟩, wl, wh⟩ :: ds) e σ next hist reads K = bO (K := ⟨fun v σ' => wpD T ds (Env.put e d v) σ' next (hist ++ [σ']) reads K⟩) (aop (.copy n x y) e σ) := by
 simp only [wpD, bO, AOp.acts, AOp.reads, if_true, Bool.false_eq_true, if_false]
theorem D_min (xs : List AOpd) (d : Option Nat) (wl wh : Nat) (ds : List ADOper) (e : Env) (σ : St) (next : Nat) (hist : List St) (reads : List ARead) (K : Env → St → Prop) : wpD T (⟨⟨d, .min xs, none⟩, wl, wh⟩ :: ds) e σ next hist reads K = bO (K := ⟨fun v σ' => σ' = σ ∧ wpD T ds (Env.put e d v) σ next hist reads K⟩) (aop (.min xs) e σ) := by
 simp only [wpD, bO, AOp.acts, AOp.reads, if_true, Bool.false_eq_true, if_false]
theorem D_max (xs : List AOpd) (d : Option Nat) (wl wh : Nat) (ds : List ADOper) (e : Env) (σ : St) (next : Nat) (hist : List St) (reads : List ARead) (K : Env → St → Prop) : wpD T (⟨⟨d, .max xs, none⟩, wl, wh⟩ :: ds) e σ next hist reads K = bO (K := ⟨fun v σ' => σ' = σ ∧ wpD T ds (Env.put e d v) σ next hist reads K⟩) (aop (.max xs) e σ) := by
 simp only [wpD, bO, AOp.acts, AOp.reads, if_true, Bool.false_eq_true, if_false]
theorem D_srange (x : AOpd) (d : Option Nat) (wl wh : Nat) (ds : List ADOper) (e : Env) (σ : St) (next : Nat) (hist : List St) (reads : List ARead) (K : Env → St → Prop) : wpD T (⟨⟨d, .srange x, none⟩, wl, wh⟩ :: ds) e σ next hist reads K = bO (K := ⟨fun v σ' => wpD T ds (Env.put e d v) σ' next (hist ++ [σ']) reads K⟩) (aop (.srange x) e σ) := by
 simp only [wpD, bO, AOp.acts, AOp.reads, if_true, Bool.false_eq_true, if_false]
theorem D_snext (x : AOpd) (d : Option Nat) (wl wh : Nat) (ds : List ADOper) (e : Env) (σ : St) (next : Nat) (hist : List St) (reads : List ARead) (K : Env → St → Prop) : wpD T (⟨⟨d, .snext x, none⟩, wl, wh⟩ :: ds) e σ next hist reads K = bO (K := ⟨fun v σ' => wpD T ds (Env.put e d v) σ' next (hist ++ [σ']) reads K⟩) (aop (.snext x) e σ) := by
 simp only [wpD, bO, AOp.acts, AOp.reads, if_true, Bool.false_eq_true, if_false]
theorem D_guardC (f : AOpd) (xs : List AOpd) (t : Nat) (want : Bool) (d : Option Nat) (wl wh : Nat) (ds : List ADOper) (e : Env) (σ : St) (next : Nat) (hist : List St) (reads : List ARead) (K : Env → St → Prop) : wpD T (⟨⟨d, .call f xs, some (t, want)⟩, wl, wh⟩ :: ds) e σ next hist reads K =
  bG (A := ⟨wpD T (⟨⟨d, .call f xs, none⟩, wl, wh⟩ :: ds) e σ next hist reads K⟩) (B := ⟨wpD T ds (Env.put e d (.tuple [])) σ next (hist ++ [σ]) reads K⟩) (Env.get e t) want := by simp only [wpD, bG]
theorem G_mov (x : AOpd) (t : Nat) (want : Bool) (d : Option Nat) (wl wh : Nat) (ds : List ADOper) (e : Env) (σ : St) (next : Nat) (hist : List St) (reads : List ARead) (K : Env → St → Prop) : wpD T (⟨⟨d, .mov x, some (t, want)⟩, wl, wh⟩ :: ds) e σ next hist reads K =
  bG (A := ⟨wpD T (⟨⟨d, .mov x, none⟩, wl, wh⟩ :: ds) e σ next hist reads K⟩) (B := ⟨wpD T ds (Env.put e d (.tuple [])) σ next hist reads K⟩) (Env.get e t) want := by
 simp only [wpD, bG, AOp.allocs, AOp.acts, true_and, if_true, Bool.false_eq_true, if_false]
theorem G_pick (c x y : AOpd) (t : Nat) (want : Bool) (d : Option Nat) (wl wh : Nat) (ds : List ADOper) (e : Env) (σ : St) (next : Nat) (hist : List St) (reads : List ARead) (K : Env → St → Prop) : wpD T (⟨⟨d, .pick c x y, some (t, want)⟩, wl, wh⟩ :: ds) e σ next hist reads K =
  bG (A := ⟨wpD T (⟨⟨d, .pick c x y, none⟩, wl, wh⟩ :: ds) e σ next hist reads K⟩) (B := ⟨wpD T ds (Env.put e d (.tuple [])) σ next hist reads K⟩) (Env.get e t) want := by
 simp only [wpD, bG, AOp.allocs, AOp.acts, true_and, if_true, Bool.false_eq_true, if_false]
theorem G_box (n : Nat) (x : AOpd) (t : Nat) (want : Bool) (d : Option Nat) (wl wh : Nat) (ds : List ADOper) (e : Env) (σ : St) (next : Nat) (hist : List St) (reads : List ARead) (K : Env → St → Prop) : wpD T (⟨⟨d, .box n x, some (t, want)⟩, wl, wh⟩ :: ds) e σ next hist reads K =
  bG (A := ⟨wpD T (⟨⟨d, .box n x, none⟩, wl, wh⟩ :: ds) e σ next hist reads K⟩) (B := ⟨wpD T ds (Env.put e d (.tuple [])) σ next (hist ++ [σ]) reads K⟩) (Env.get e t) want := by
 simp only [wpD, bG, AOp.allocs, AOp.acts, true_and, if_true, Bool.false_eq_true, if_false]
theorem G_build (z : List AV) (ps : List (Nat × Nat × AOpd)) (t : Nat) (want : Bool) (d : Option Nat) (wl wh : Nat) (ds : List ADOper) (e : Env) (σ : St) (next : Nat) (hist : List St) (reads : List ARead) (K : Env → St → Prop) : wpD T (⟨⟨d, .build z ps, some (t, want)⟩, wl, wh⟩ :: ds) e σ next hist reads K =
  bG (A := ⟨wpD T (⟨⟨d, .build z ps, none⟩, wl, wh⟩ :: ds) e σ next hist reads K⟩) (B := ⟨wpD T ds (Env.put e d (.tuple [])) σ next hist reads K⟩) (Env.get e t) want := by
 simp only [wpD, bG, AOp.allocs, AOp.acts, true_and, if_true, Bool.false_eq_true, if_false]
theorem G_mklit (n : Nat) (xs : List AOpd) (t : Nat) (want : Bool) (d : Option Nat) (wl wh : Nat) (ds : List ADOper) (e : Env) (σ : St) (next : Nat) (hist : List St) (reads : List ARead) (K : Env → St → Prop) : wpD T (⟨⟨d, .mklit n xs, some (t, want)⟩, wl, wh⟩ :: ds) e σ next hist reads K =
  bG (A := ⟨wpD T (⟨⟨d, .mklit n xs, none⟩, wl, wh⟩ :: ds) e σ next hist reads K⟩) (B := ⟨wpD T ds (Env.put e d (.tuple [])) σ next hist reads K⟩) (Env.get e t) want := by
 simp only [wpD, bG, AOp.allocs, AOp.acts, true_and, if_true, Bool.false_eq_true, if_false]
theorem G_mkref (n : Nat) (xs : List AOpd) (t : Nat) (want : Bool) (d : Option Nat) (wl wh : Nat) (ds : List ADOper) (e : Env) (σ : St) (next : Nat) (hist : List St) (reads : List ARead) (K : Env → St → Prop) : wpD T (⟨⟨d, .mkref n xs, some (t, want)⟩, wl, wh⟩ :: ds) e σ next hist reads K =
  bG (A := ⟨wpD T (⟨⟨d, .mkref n xs, none⟩, wl, wh⟩ :: ds) e σ next hist reads K⟩) (B := ⟨wpD T ds (Env.put e d (.tuple [])) σ next (hist ++ [σ]) reads K⟩) (Env.get e t) want := by
 simp only [wpD, bG, AOp.allocs, AOp.acts, true_and, if_true, Bool.false_eq_true, if_false]
theorem G_load (sh : Option Nat) (x : AOpd) (t : Nat) (want : Bool) (d : Option Nat) (wl wh : Nat) (ds : List ADOper) (e : Env) (σ : St) (next : Nat) (hist : List St) (reads : List ARead) (K : Env → St → Prop) : wpD T (⟨⟨d, .load sh x, some (t, want)⟩, wl, wh⟩ :: ds) e σ next hist reads K =
  bG (A := ⟨wpD T (⟨⟨d, .load sh x, none⟩, wl, wh⟩ :: ds) e σ next hist reads K⟩) (B := ⟨wpD T ds (Env.put e d (.tuple [])) σ next hist reads K⟩) (Env.get e t) want := by
 simp only [wpD, bG, AOp.allocs, AOp.acts, true_and, if_true, Bool.false_eq_true, if_false]
theorem G_store (n : Nat) (x y : AOpd) (t : Nat) (want : Bool) (d : Option Nat) (wl wh : Nat) (ds : List ADOper) (e : Env) (σ : St) (next : Nat) (hist : List St) (reads : List ARead) (K : Env → St → Prop) : wpD T (⟨⟨d, .store n x y, some (t, want)⟩, wl, wh⟩ :: ds) e σ next hist reads K =
  bG (A := ⟨wpD T (⟨⟨d, .store n x y, none⟩, wl, wh⟩ :: ds) e σ next hist reads K⟩) (B := ⟨wpD T ds (Env.put e d (.tuple [])) σ next (hist ++ [σ]) reads K⟩) (Env.get e t) want := by
 simp only [wpD, bG, AOp.allocs, AOp.acts, true_and, if_true, Bool.false_eq_true, if_false]
theorem G_nilCheck (x : AOpd) (t : Nat) (want : Bool) (d : Option Nat) (wl wh : Nat) (ds : List ADOper) (e : Env) (σ : St) (next : Nat) (hist : List St) (reads : List ARead) (K : Env → St → Prop) : wpD T (⟨⟨d, .nilCheck x, some (t, want)⟩, wl, wh⟩ :: ds) e σ next hist reads K =
  bG (A := ⟨wpD T (⟨⟨d, .nilCheck x, none⟩, wl, wh⟩ :: ds) e σ next hist reads K⟩) (B := ⟨wpD T ds (Env.put e d (.tuple [])) σ next hist reads K⟩) (Env.get e t) want := by
 simp only [wpD, bG, AOp.allocs, AOp.acts, true_and, if_true, Bool.false_eq_true, if_false]
theorem G_bin (op : BinOp) (x y : AOpd) (t : Nat) (want : Bool) (d : Option Nat) (wl wh : Nat) (ds : List ADOper) (e : Env) (σ : St) (next : Nat) (hist : List St) (reads : List ARead) (K : Env → St → Prop) : wpD T (⟨⟨d, .bin op x y, some (t, want)⟩, wl, wh⟩ :: ds) e σ next hist reads K =
  bG (A := ⟨wpD T (⟨⟨d, .bin op x y, none⟩, wl, wh⟩ :: ds) e σ next hist reads K⟩) (B := ⟨wpD T ds (Env.put e d (.tuple [])) σ next hist reads K⟩) (Env.get e t) want := by
 simp only [wpD, bG, AOp.allocs, AOp.acts, true_and, if_true, Bool.false_eq_true, if_false]
theorem G_eql (sh : EqTy) (n : Bool) (x y : AOpd) (t : Nat) (want : Bool) (d : Option Nat) (wl wh : Nat) (ds : List ADOper) (e : Env) (σ : St) (next : Nat) (hist : List St) (reads : List ARead) (K : Env → St → Prop) : wpD T (⟨⟨d, .eql sh n x y, some (t, want)⟩, wl, wh⟩ :: ds) e σ next hist reads K =
  bG (A := ⟨wpD T (⟨⟨d, .eql sh n x y, none⟩, wl, wh⟩ :: ds) e σ next hist reads K⟩) (B := ⟨wpD T ds (Env.put e d (.tuple [])) σ next hist reads K⟩) (Env.get e t) want := by
 simp only [wpD, bG, AOp.allocs, AOp.acts, true_and, if_true, Bool.false_eq_true, if_false]
theorem G_not (x : AOpd) (t : Nat) (want : Bool) (d : Option Nat) (wl wh : Nat) (ds : List ADOper) (e : Env) (σ : St) (next : Nat) (hist : List St) (reads : List ARead) (K : Env → St → Prop) : wpD T (⟨⟨d, .not x, some (t, want)⟩, wl, wh⟩ :: ds) e σ next hist reads K =
  bG (A := ⟨wpD T (⟨⟨d, .not x, none⟩, wl, wh⟩ :: ds) e σ next hist reads K⟩) (B := ⟨wpD T ds (Env.put e d (.tuple [])) σ next hist reads K⟩) (Env.get e t) want := by
 simp only [wpD, bG, AOp.allocs, AOp.acts, true_and, if_true, Bool.false_eq_true, if_false]
theorem G_neg (x : AOpd) (t : Nat) (want : Bool) (d : Option Nat) (wl wh : Nat) (ds : List ADOper) (e : Env) (σ : St) (next : Nat) (hist : List St) (reads : List ARead) (K : Env → St → Prop) : wpD T (⟨⟨d, .neg x, some (t, want)⟩, wl, wh⟩ :: ds) e σ next hist reads K =
  bG (A := ⟨wpD T (⟨⟨d, .neg x, none⟩, wl, wh⟩ :: ds) e σ next hist reads K⟩) (B := ⟨wpD T ds (Env.put e d (.tuple [])) σ next hist reads K⟩) (Env.get e t) want := by
 simp only [wpD, bG, AOp.allocs, AOp.acts, true_and, if_true, Bool.false_eq_true, if_false]
theorem G_conv (k : IntKind) (x : AOpd) (t : Nat) (want : Bool) (d : Option Nat) (wl wh : Nat) (ds : List ADOper) (e : Env) (σ : St) (next : Nat) (hist : List St) (reads : List ARead) (K : Env → St → Prop) : wpD T (⟨⟨d, .conv k x, some (t, want)⟩, wl, wh⟩ :: ds) e σ next hist reads K =
  bG (A := ⟨wpD T (⟨⟨d, .conv k x, none⟩, wl, wh⟩ :: ds) e σ next hist reads K⟩) (B := ⟨wpD T ds (Env.put e d (.tuple [])) σ next hist reads K⟩) (Env.get e t) want := by
 simp only [wpD, bG, AOp.allocs, AOp.acts, true_and, if_true, Bool.false_eq_true, if_false]
theorem G_mkfun (f : FuncId) (xs ys : List AOpd) (t : Nat) (want : Bool) (d : Option Nat) (wl wh : Nat) (ds : List ADOper) (e : Env) (σ : St) (next : Nat) (hist : List St) (reads : List ARead) (K : Env → St → Prop) : wpD T (⟨⟨d, .mkfun f xs ys, some (t, want)⟩, wl, wh⟩ :: ds) e σ next hist reads K =
  bG (A := ⟨wpD T (⟨⟨d, .mkfun f xs ys, none⟩, wl, wh⟩ :: ds) e σ next hist reads K⟩) (B := ⟨wpD T ds (Env.put e d (.tuple [])) σ next hist reads K⟩) (Env.get e t) want := by
 simp only [wpD, bG, AOp.allocs, AOp.acts, true_and, if_true, Bool.false_eq_true, if_false]
theorem G_mkmap  (t : Nat) (want : Bool) (d : Option Nat) (wl wh : Nat) (ds : List ADOper) (e : Env) (σ : St) (next : Nat) (hist : List St) (reads : List ARead) (K : Env → St → Prop) : wpD T (⟨⟨d, .mkmap, some (t, want)⟩, wl, wh⟩ :: ds) e σ next hist reads K =
  bG (A := ⟨wpD T (⟨⟨d, .mkmap, none⟩, wl, wh⟩ :: ds) e σ next hist reads K⟩) (B := ⟨wpD T ds (Env.put e d (.tuple [])) σ next (hist ++ [σ]) reads K⟩) (Env.get e t) want := by
 simp only [wpD, bG, AOp.allocs, AOp.acts, true_and, if_true, Bool.false_eq_true, if_false]
theorem G_mkslice (z : List AV) (b : Nat) (x y : AOpd) (t : Nat) (want : Bool) (d : Option Nat) (wl wh : Nat) (ds : List ADOper) (e : Env) (σ : St) (next : Nat) (hist : List St) (reads : List ARead) (K : Env → St → Prop) : wpD T (⟨⟨d, .mkslice z b x y, some (t, want)⟩, wl, wh⟩ :: ds) e σ next hist reads K =
  bG (A := ⟨wpD T (⟨⟨d, .mkslice z b x y, none⟩, wl, wh⟩ :: ds) e σ next hist reads K⟩) (B := ⟨wpD T ds (Env.put e d (.tuple [])) σ next (hist ++ [σ]) reads K⟩) (Env.get e t) want := by
 simp only [wpD, bG, AOp.allocs, AOp.acts, true_and, if_true, Bool.false_eq_true, if_false]
theorem G_slicev (n : Nat) (x : AOpd) (lo hi mx : Option AOpd) (t : Nat) (want : Bool) (d : Option Nat) (wl wh : Nat) (ds : List ADOper) (e : Env) (σ : St) (next : Nat) (hist : List St) (reads : List ARead) (K : Env → St → Prop) : wpD T (⟨⟨d, .slicev n x lo hi mx, some (t, want)⟩, wl, wh⟩ :: ds) e σ next hist reads K =
  bG (A := ⟨wpD T (⟨⟨d, .slicev n x lo hi mx, none⟩, wl, wh⟩ :: ds) e σ next hist reads K⟩) (B := ⟨wpD T ds (Env.put e d (.tuple [])) σ next hist reads K⟩) (Env.get e t) want := by
 simp only [wpD, bG, AOp.allocs, AOp.acts, true_and, if_true, Bool.false_eq_true, if_false]
theorem G_slicea (n s : Nat) (x : AOpd) (lo hi : Option AOpd) (t : Nat) (want : Bool) (d : Option Nat) (wl wh : Nat) (ds : List ADOper) (e : Env) (σ : St) (next : Nat) (hist : List St) (reads : List ARead) (K : Env → St → Prop) : wpD T (⟨⟨d, .slicea n s x lo hi, some (t, want)⟩, wl, wh⟩ :: ds) e σ next hist reads K =
  bG (A := ⟨wpD T (⟨⟨d, .slicea n s x lo hi, none⟩, wl, wh⟩ :: ds) e σ next hist reads K⟩) (B := ⟨wpD T ds (Env.put e d (.tuple [])) σ next hist reads K⟩) (Env.get e t) want := by
 simp only [wpD, bG, AOp.allocs, AOp.acts, true_and, if_true, Bool.false_eq_true, if_false]
theorem G_faddr (x : AOpd) (o : Nat) (t : Nat) (want : Bool) (d : Option Nat) (wl wh : Nat) (ds : List ADOper) (e : Env) (σ : St) (next : Nat) (hist : List St) (reads : List ARead) (K : Env → St → Prop) : wpD T (⟨⟨d, .faddr x o, some (t, want)⟩, wl, wh⟩ :: ds) e σ next hist reads K =
  bG (A := ⟨wpD T (⟨⟨d, .faddr x o, none⟩, wl, wh⟩ :: ds) e σ next hist reads K⟩) (B := ⟨wpD T ds (Env.put e d (.tuple [])) σ next hist reads K⟩) (Env.get e t) want := by
 simp only [wpD, bG, AOp.allocs, AOp.acts, true_and, if_true, Bool.false_eq_true, if_false]
theorem G_field (x : AOpd) (o : Nat) (sh : Option Nat) (t : Nat) (want : Bool) (d : Option Nat) (wl wh : Nat) (ds : List ADOper) (e : Env) (σ : St) (next : Nat) (hist : List St) (reads : List ARead) (K : Env → St → Prop) : wpD T (⟨⟨d, .field x o sh, some (t, want)⟩, wl, wh⟩ :: ds) e σ next hist reads K =
  bG (A := ⟨wpD T (⟨⟨d, .field x o sh, none⟩, wl, wh⟩ :: ds) e σ next hist reads K⟩) (B := ⟨wpD T ds (Env.put e d (.tuple [])) σ next hist reads K⟩) (Env.get e t) want := by
 simp only [wpD, bG, AOp.allocs, AOp.acts, true_and, if_true, Bool.false_eq_true, if_false]
theorem G_iaddr (a : Option Nat) (s : Nat) (x i : AOpd) (t : Nat) (want : Bool) (d : Option Nat) (wl wh : Nat) (ds : List ADOper) (e : Env) (σ : St) (next : Nat) (hist : List St) (reads : List ARead) (K : Env → St → Prop) : wpD T (⟨⟨d, .iaddr a s x i, some (t, want)⟩, wl, wh⟩ :: ds) e σ next hist reads K =
  bG (A := ⟨wpD T (⟨⟨d, .iaddr a s x i, none⟩, wl, wh⟩ :: ds) e σ next hist reads K⟩) (B := ⟨wpD T ds (Env.put e d (.tuple [])) σ next hist reads K⟩) (Env.get e t) want := by
 simp only [wpD, bG, AOp.allocs, AOp.acts, true_and, if_true, Bool.false_eq_true, if_false]
theorem G_index (n s : Nat) (sh : Option Nat) (x i : AOpd) (t : Nat) (want : Bool) (d : Option Nat) (wl wh : Nat) (ds : List ADOper) (e : Env) (σ : St) (next : Nat) (hist : List St) (reads : List ARead) (K : Env → St → Prop) : wpD T (⟨⟨d, .index n s sh x i, some (t, want)⟩, wl, wh⟩ :: ds) e σ next hist reads K =
  bG (A := ⟨wpD T (⟨⟨d, .index n s sh x i, none⟩, wl, wh⟩ :: ds) e σ next hist reads K⟩) (B := ⟨wpD T ds (Env.put e d (.tuple [])) σ next hist reads K⟩) (Env.get e t) want := by
 simp only [wpD, bG, AOp.allocs, AOp.acts, true_and, if_true, Bool.false_eq_true, if_false]
theorem G_sindex (x i : AOpd) (t : Nat) (want : Bool) (d : Option Nat) (wl wh : Nat) (ds : List ADOper) (e : Env) (σ : St) (next : Nat) (hist : List St) (reads : List ARead) (K : Env → St → Prop) : wpD T (⟨⟨d, .sindex x i, some (t, want)⟩, wl, wh⟩ :: ds) e σ next hist reads K =
  bG (A := ⟨wpD T (⟨⟨d, .sindex x i, none⟩, wl, wh⟩ :: ds) e σ next hist reads K⟩) (B := ⟨wpD T ds (Env.put e d (.tuple [])) σ next hist reads K⟩) (Env.get e t) want := by
 simp only [wpD, bG, AOp.allocs, AOp.acts, true_and, if_true, Bool.false_eq_true, if_false]
theorem G_lookup (sh : EqTy) (ok : Bool) (z : AV) (m k : AOpd) (t : Nat) (want : Bool) (d : Option Nat) (wl wh : Nat) (ds : List ADOper) (e : Env) (σ : St) (next : Nat) (hist : List St) (reads : List ARead) (K : Env → St → Prop) : wpD T (⟨⟨d, .lookup sh ok z m k, some (t, want)⟩, wl, wh⟩ :: ds) e σ next hist reads K =
  bG (A := ⟨wpD T (⟨⟨d, .lookup sh ok z m k, none⟩, wl, wh⟩ :: ds) e σ next hist reads K⟩) (B := ⟨wpD T ds (Env.put e d (.tuple [])) σ next hist reads K⟩) (Env.get e t) want := by
 simp only [wpD, bG, AOp.allocs, AOp.acts, true_and, if_true, Bool.false_eq_true, if_false]
theorem G_mapset (sh : EqTy) (m k v : AOpd) (t : Nat) (want : Bool) (d : Option Nat) (wl wh : Nat) (ds : List ADOper) (e : Env) (σ : St) (next : Nat) (hist : List St) (reads : List ARead) (K : Env → St → Prop) : wpD T (⟨⟨d, .mapset sh m k v, some (t, want)⟩, wl, wh⟩ :: ds) e σ next hist reads K =
  bG (A := ⟨wpD T (⟨⟨d, .mapset sh m k v, none⟩, wl, wh⟩ :: ds) e σ next hist reads K⟩) (B := ⟨wpD T ds (Env.put e d (.tuple [])) σ next (hist ++ [σ]) reads K⟩) (Env.get e t) want := by
 simp only [wpD, bG, AOp.allocs, AOp.acts, true_and, if_true, Bool.false_eq_true, if_false]
theorem G_ext (x : AOpd) (i : Nat) (t : Nat) (want : Bool) (d : Option Nat) (wl wh : Nat) (ds : List ADOper) (e : Env) (σ : St) (next : Nat) (hist : List St) (reads : List ARead) (K : Env → St → Prop) : wpD T (⟨⟨d, .ext x i, some (t, want)⟩, wl, wh⟩ :: ds) e σ next hist reads K =
  bG (A := ⟨wpD T (⟨⟨d, .ext x i, none⟩, wl, wh⟩ :: ds) e σ next hist reads K⟩) (B := ⟨wpD T ds (Env.put e d (.tuple [])) σ next hist reads K⟩) (Env.get e t) want := by
 simp only [wpD, bG, AOp.allocs, AOp.acts, true_and, if_true, Bool.false_eq_true, if_false]
theorem G_len (k : Nat) (x : AOpd) (t : Nat) (want : Bool) (d : Option Nat) (wl wh : Nat) (ds : List ADOper) (e : Env) (σ : St) (next : Nat) (hist : List St) (reads : List ARead) (K : Env → St → Prop) : wpD T (⟨⟨d, .len k x, some (t, want)⟩, wl, wh⟩ :: ds) e σ next hist reads K =
  bG (A := ⟨wpD T (⟨⟨d, .len k x, none⟩, wl, wh⟩ :: ds) e σ next hist reads K⟩) (B := ⟨wpD T ds (Env.put e d (.tuple [])) σ next hist reads K⟩) (Env.get e t) want := by
 simp only [wpD, bG, AOp.allocs, AOp.acts, true_and, if_true, Bool.false_eq_true, if_false]
theorem G_append (n b : Nat) (x y : AOpd) (t : Nat) (want : Bool) (d : Option Nat) (wl wh : Nat) (ds : List ADOper) (e : Env) (σ : St) (next : Nat) (hist : List St) (reads : List ARead) (K : Env → St → Prop) : wpD T (⟨⟨d, .append n b x y, some (t, want)⟩, wl, wh⟩ :: ds) e σ next hist reads K =
  bG (A := ⟨wpD T (⟨⟨d, .append n b x y, none⟩, wl, wh⟩ :: ds) e σ next hist reads K⟩) (B := ⟨wpD T ds (Env.put e d (.tuple [])) σ next (hist ++ [σ]) reads K⟩) (Env.get e t) want := by
 simp only [wpD, bG, AOp.allocs, AOp.acts, true_and, if_true, Bool.false_eq_true, if_false]
theorem G_apref (n b : Nat) (x y : AOpd) (t : Nat) (want : Bool) (d : Option Nat) (wl wh : Nat) (ds : List ADOper) (e : Env) (σ : St) (next : Nat) (hist : List St) (reads : List ARead) (K : Env → St → Prop) : wpD T (⟨⟨d, .apref n b x y, some (t, want)⟩, wl, wh⟩ :: ds) e σ next hist reads K =
  bG (A := ⟨wpD T (⟨⟨d, .apref n b x y, none⟩, wl, wh⟩ :: ds) e σ next hist reads K⟩) (B := ⟨wpD T ds (Env.put e d (.tuple [])) σ next (hist ++ [σ]) reads K⟩) (Env.get e t) want := by
 simp only [wpD, bG, AOp.allocs, AOp.acts, true_and, if_true, Bool.false_eq_true, if_false]
theorem G_copy (n : Nat) (x y : AOpd) (t : Nat) (want : Bool) (d : Option Nat) (wl wh : Nat) (ds : List ADOper) (e : Env) (σ : St) (next : Nat) (hist : List St) (reads : List ARead) (K : Env → St → Prop) : wpD T (⟨⟨d, .copy n x y, some (t, want)⟩, wl, wh⟩ :: ds) e σ next hist reads K =
  bG (A := ⟨wpD T (⟨⟨d, .copy n x y, none⟩, wl, wh⟩ :: ds) e σ next hist reads K⟩) (B := ⟨wpD T ds (Env.put e d (.tuple [])) σ next (hist ++ [σ]) reads K⟩) (Env.get e t) want := by
 simp only [wpD, bG, AOp.allocs, AOp.acts, true_and, if_true, Bool.false_eq_true, if_false]
theorem G_min (xs : List AOpd) (t : Nat) (want : Bool) (d : Option Nat) (wl wh : Nat) (ds : List ADOper) (e : Env) (σ : St) (next : Nat) (hist : List St) (reads : List ARead) (K : Env → St → Prop) : wpD T (⟨⟨d, .min xs, some (t, want)⟩, wl, wh⟩ :: ds) e σ next hist reads K =
  bG (A := ⟨wpD T (⟨⟨d, .min xs, none⟩, wl, wh⟩ :: ds) e σ next hist reads K⟩) (B := ⟨wpD T ds (Env.put e d (.tuple [])) σ next hist reads K⟩) (Env.get e t) want := by
 simp only [wpD, bG, AOp.allocs, AOp.acts, true_and, if_true, Bool.false_eq_true, if_false]
theorem G_max (xs : List AOpd) (t : Nat) (want : Bool) (d : Option Nat) (wl wh : Nat) (ds : List ADOper) (e : Env) (σ : St) (next : Nat) (hist : List St) (reads : List ARead) (K : Env → St → Prop) : wpD T (⟨⟨d, .max xs, some (t, want)⟩, wl, wh⟩ :: ds) e σ next hist reads K =
  bG (A := ⟨wpD T (⟨⟨d, .max xs, none⟩, wl, wh⟩ :: ds) e σ next hist reads K⟩) (B := ⟨wpD T ds (Env.put e d (.tuple [])) σ next hist reads K⟩) (Env.get e t) want := by
 simp only [wpD, bG, AOp.allocs, AOp.acts, true_and, if_true, Bool.false_eq_true, if_false]
theorem G_srange (x : AOpd) (t : Nat) (want : Bool) (d : Option Nat) (wl wh : Nat) (ds : List ADOper) (e : Env) (σ : St) (next : Nat) (hist : List St) (reads : List ARead) (K : Env → St → Prop) : wpD T (⟨⟨d, .srange x, some (t, want)⟩, wl, wh⟩ :: ds) e σ next hist reads K =
  bG (A := ⟨wpD T (⟨⟨d, .srange x, none⟩, wl, wh⟩ :: ds) e σ next hist reads K⟩) (B := ⟨wpD T ds (Env.put e d (.tuple [])) σ next (hist ++ [σ]) reads K⟩) (Env.get e t) want := by
 simp only [wpD, bG, AOp.allocs, AOp.acts, true_and, if_true, Bool.false_eq_true, if_false]
theorem G_snext (x : AOpd) (t : Nat) (want : Bool) (d : Option Nat) (wl wh : Nat) (ds : List ADOper) (e : Env) (σ : St) (next : Nat) (hist : List St) (reads : List ARead) (K : Env → St → Prop) : wpD T (⟨⟨d, .snext x, some (t, want)⟩, wl, wh⟩ :: ds) e σ next hist reads K =
  bG (A := ⟨wpD T (⟨⟨d, .snext x, none⟩, wl, wh⟩ :: ds) e σ next hist reads K⟩) (B := ⟨wpD T ds (Env.put e d (.tuple [])) σ next (hist ++ [σ]) reads K⟩) (Env.get e t) want := by
 simp only [wpD, bG, AOp.allocs, AOp.acts, true_and, if_true, Bool.false_eq_true, if_false]
end Go.Am
namespace Go.Am
variable {T : FuncId → Option AFunc}
structure KeepS (σ σ' : St) (lo : Nat) : Prop where
 len : σ.length ≤ σ'.length
 low : ∀ i, i < lo → i < σ.length → σ'[i]? = σ[i]?
 loops : ∀ (i : Nat) (st : LS) (pe : Option AJump) (env : Env) (ps : List Nat) (a b : ACode), i < σ.length → σ'[i]? = some (.loop st pe env ps a b) → ∃ st' pe', σ[i]? = some (.loop st' pe' env ps a b)
theorem KeepS.refl (σ : St) (lo : Nat) : KeepS σ σ lo := ⟨Nat.le_refl _, fun _ _ _ => rfl, fun i st pe env ps a b _ h => ⟨st, pe, h⟩⟩
theorem KeepS.weak {σ σ' : St} {lo l : Nat} (h : KeepS σ σ' lo) (hl : l ≤ lo) : KeepS σ σ' l := ⟨h.len, fun i hi => h.low i (by omega), h.loops⟩
theorem KeepS.trans {σ σ1 σ2 : St} {l1 l2 : Nat} (h : KeepS σ σ1 l1) (k : KeepS σ1 σ2 l2) : KeepS σ σ2 (Nat.min l1 l2) where
 len := Nat.le_trans h.len k.len
 low i hi hlt := by
  have h1 : i < l1 := Nat.lt_of_lt_of_le hi (Nat.min_le_left _ _)
  have h2 : i < l2 := Nat.lt_of_lt_of_le hi (Nat.min_le_right _ _)
  rw [k.low i h2 (Nat.lt_of_lt_of_le hlt h.len), h.low i h1 hlt]
 loops i st pe env ps a b hlt e := by
  obtain ⟨st1, pe1, e1⟩ := k.loops i st pe env ps a b (Nat.lt_of_lt_of_le hlt h.len) e
  exact h.loops i st1 pe1 env ps a b hlt e1
theorem KeepS.set {σ : St} {i : Nat} {x : ABlk} (hx : ∀ st pe env ps a b, x ≠ .loop st pe env ps a b) : KeepS σ (σ.set i x) i where
 len := by simp
 low j hj _ := List.getElem?_set_ne (by omega)
 loops j st pe env ps a b hj e := by
  by_cases h : i = j
  ·subst h
   rw [List.getElem?_set_self hj] at e
   cases e
   exact absurd rfl (hx _ _ _ _ _ _)
  ·rw [List.getElem?_set_ne h] at e
   exact ⟨st, pe, e⟩
end Go.Am
namespace Go.Am
variable {T : FuncId → Option AFunc}
theorem KeepS.step {σ σ1 σ2 : St} {l lo lo' : Nat} (h : KeepS σ σ1 l) (k : lo' ≤ Nat.min lo l ∧ KeepS σ1 σ2 lo') : lo' ≤ lo ∧ KeepS σ σ2 lo' := by
 have h1 : lo' ≤ l := Nat.le_trans k.1 (Nat.min_le_right _ _)
 refine ⟨Nat.le_trans k.1 (Nat.min_le_left _ _), (h.trans k.2).weak ?_⟩
 exact Nat.le_min.2 ⟨h1, Nat.le_refl _⟩
end Go.Am
namespace Go.Am
variable {T : FuncId → Option AFunc}
theorem E_evs0 (e : Env) : evs e [] = [] := by simp only [evs]
theorem E_evs1 (e : Env) (x : AOpd) (xs : List AOpd) : evs e (x :: xs) = x.ev e :: evs e xs := by simp only [evs]
theorem E_ovs0 (e : Env) : ovs e none = none := by simp only [ovs]
theorem E_ovs1 (e : Env) (x : AOpd) : ovs e (some x) = some (x.ev e) := by simp only [ovs]
theorem O_map {α β : Type} (f : α → β) (a : α) : Option.map f (some a) = some (f a) := by simp
theorem O_bind {α β : Type} (f : α → Option β) (a : α) : (some a).bind f = f a := by simp
theorem V_nilP (i o : Nat) : vNil (.ptr i o) = some (.ptr i o) := by simp only [vNil]
theorem V_nilL (xs : List AV) (i o : Nat) (t : Option Nat) : vNil (.lptr xs i o t) = some (.lptr xs i o t) := by simp only [vNil]
theorem V_nilF (f : FuncId) (a b : List AV) : vNil (.func f a b) = some (.func f a b) := by simp only [vNil]
theorem V_field (o : Nat) (sh : Option Nat) (cs : List AV) : vField o sh (.agg cs) = shaped sh cs o := by simp only [vField]
theorem V_conv (k k' : IntKind) (n : Int) : vConv k (.int k' n) = some (.int k (k.wrap n)) := by simp only [vConv]
theorem V_neg (k : IntKind) (n : Int) : vNeg (.int k n) = some (.int k (k.wrap (0 - n))) := by simp only [vNeg]
theorem V_pickT (x y : AV) : vPick (.bool true) x y = some x := by simp only [vPick]
theorem V_pickF (x y : AV) : vPick (.bool false) x y = some y := by simp only [vPick]
theorem V_str (s : ByteArray) : vStr (.str s) = some s := by simp only [vStr]
theorem V_eqI (k : IntKind) (a b : Int) : eqCell .i (.int k a) (.int k b) = some (a == b) := by simp [eqCell]
theorem V_eqB (a b : Bool) : eqCell .b (.bool a) (.bool b) = some (a == b) := by simp [eqCell]
theorem V_eqS (a b : ByteArray) : eqCell .s (.str a) (.str b) = some (a.toList == b.toList) := by simp [eqCell]
def oand : Option Bool → Option Bool → Option Bool
 | some p, some q => some (p && q)
 | _, _ => none
theorem V_oand (p q : Bool) : oand (some p) (some q) = some (p && q) := by simp only [oand]
theorem V_eqC0 : eqCells [] [] [] = some true := by simp [eqCells]
theorem V_eqC1 (k : SK) (ks : List SK) (a b : AV) (x y : List AV) : eqCells (k :: ks) (a :: x) (b :: y) = oand (eqCell k a b) (eqCells ks x y) := by
 simp only [eqCells, oand]; cases eqCell k a b <;> cases eqCells ks x y <;> rfl
theorem V_eq1 (k : SK) (x y : AV) : vEql (.one k) false x y = (eqCell k x y).map .bool := by
 simp only [vEql, eqSh]; cases eqCell k x y <;> simp
theorem V_ne1 (k : SK) (x y : AV) : vEql (.one k) true x y = (eqCell k x y).map fun b => .bool !b := by
 simp only [vEql, eqSh]; cases eqCell k x y <;> simp
theorem V_eqA (ks : List SK) (x y : List AV) : vEql (.agg ks) false (.agg x) (.agg y) = (eqCells ks x y).map .bool := by
 simp only [vEql, eqSh]; cases eqCells ks x y <;> simp
theorem V_neA (ks : List SK) (x y : List AV) : vEql (.agg ks) true (.agg x) (.agg y) = (eqCells ks x y).map fun b => .bool !b := by
 simp only [vEql, eqSh]; cases eqCells ks x y <;> simp
theorem V_add (k : IntKind) (a b : Int) : binAV .add (.int k a) (.int k b) = some (.int k (k.wrap (a + b))) := by simp [binAV, binInt]
theorem V_sub (k : IntKind) (a b : Int) : binAV .sub (.int k a) (.int k b) = some (.int k (k.wrap (a - b))) := by simp [binAV, binInt]
theorem V_mul (k : IntKind) (a b : Int) : binAV .mul (.int k a) (.int k b) = some (.int k (k.wrap (a * b))) := by simp [binAV, binInt]
theorem V_lss (k : IntKind) (a b : Int) : binAV .lss (.int k a) (.int k b) = some (.bool (decide (a < b))) := by simp [binAV, binInt]
theorem V_leq (k : IntKind) (a b : Int) : binAV .leq (.int k a) (.int k b) = some (.bool (decide (a ≤ b))) := by simp [binAV, binInt]
theorem V_gtr (k : IntKind) (a b : Int) : binAV .gtr (.int k a) (.int k b) = some (.bool (decide (b < a))) := by simp [binAV, binInt]
theorem V_geq (k : IntKind) (a b : Int) : binAV .geq (.int k a) (.int k b) = some (.bool (decide (b ≤ a))) := by simp [binAV, binInt]
theorem wrap64 {x : Int} (h : -9223372036854775808 ≤ x ∧ x ≤ 9223372036854775807) : IntKind.i64.wrap x = x := by
 simp only [IntKind.wrap, IntKind.signed, IntKind.bits]
 first
  | (rw [Int.bmod_eq_of_le] <;> omega)
  | (simp; omega)
theorem V_len (σ : St) (xs : List AV) (f : Bool) (t : Option Nat) : lenAV 1 σ (.lit xs f t) = some xs.length := by simp only [lenAV]
theorem V_lenS (σ : St) (s : ByteArray) : lenAV 0 σ (.str s) = some s.size := by simp only [lenAV]
theorem V_lenR (σ : St) (id off len sz : Nat) : lenAV 1 σ (.ref id off len sz) = some len := by simp only [lenAV]
theorem M_ptr (sh : Option Nat) (σ : St) (id off : Nat) : loadAV sh σ (.ptr id off) = (cellsAt σ id).bind fun cs => shaped sh cs off := by
 simp only [loadAV]; cases cellsAt σ id <;> simp
theorem M_lptr (sh : Option Nat) (σ : St) (xs : List AV) (i off : Nat) (t : Option Nat) : loadAV sh σ (.lptr xs i off t) = (xs[i]?).bind fun x => shaped sh x.cells off := by
 simp only [loadAV]; cases xs[i]? <;> simp
theorem M_at0 (b : List AV) (τ : St) : cellsAt (.cells b :: τ) 0 = some b := by simp [cellsAt]
theorem M_atS (b : ABlk) (τ : St) (k : Nat) : cellsAt (b :: τ) (k + 1) = cellsAt τ k := by simp [cellsAt]
theorem M_base (σ τ : St) (k : Nat) : cellsAt (σ ++ τ) (σ.length + k) = cellsAt τ k := by simp only [cellsAt, st_get]
theorem M_base0 (σ τ : St) : cellsAt (σ ++ τ) σ.length = cellsAt τ 0 := M_base σ τ 0
theorem M_sh1 (cs : List AV) (off : Nat) : shaped none cs off = cs[off]? := by simp [shaped]
theorem M_shN (n : Nat) (cs : List AV) (off : Nat) : shaped (some n) cs off = if off + n ≤ cs.length then some (.agg ((cs.drop off).take n)) else none := by simp [shaped]
theorem M_store (n : Nat) (σ : St) (id off : Nat) (v : AV) : storeAV n σ (.ptr id off) v = (vCells n v).bind fun us => (cellsAt σ id).bind fun cs => (setCells cs off us).map fun cs' => σ.set id (.cells cs') := by
 simp only [storeAV, vCells]
 split
 ·simp only [Option.bind_some]
  cases cellsAt σ id with
  | none => simp
  | some cs => simp only [Option.bind_some]; cases setCells cs off v.cells <;> simp
 ·simp
theorem M_set (cs us : List AV) (off : Nat) : setCells cs off us = if off + us.length ≤ cs.length then some (cs.take off ++ us ++ cs.drop (off + us.length)) else none := by simp only [setCells]
def cellsOk (n : Nat) (v : AV) : Bool := v.cells.length == n && v.cells.all (·.cell)
theorem C_cells (n : Nat) (v : AV) : vCells n v = if cellsOk n v = true then some v.cells else none := by unfold vCells cellsOk; rfl
theorem C_int (k : IntKind) (n : Int) : cellsOk 1 (.int k n) = true := by simp [cellsOk, AV.cells, AV.cell]
theorem C_bool (b : Bool) : cellsOk 1 (.bool b) = true := by simp [cellsOk, AV.cells, AV.cell]
theorem C_str (b : ByteArray) : cellsOk 1 (.str b) = true := by simp [cellsOk, AV.cells, AV.cell]
theorem C_lit (xs : List AV) (f : Bool) (t : Option Nat) : cellsOk 1 (.lit xs f t) = true := by simp [cellsOk, AV.cells, AV.cell]
theorem C_ref (a b c d : Nat) : cellsOk 1 (.ref a b c d) = true := by simp [cellsOk, AV.cells, AV.cell]
theorem C_ptr (a b : Nat) : cellsOk 1 (.ptr a b) = true := by simp [cellsOk, AV.cells, AV.cell]
theorem C_func (f : FuncId) (a b : List AV) : cellsOk 1 (.func f a b) = true := by simp [cellsOk, AV.cells, AV.cell]
theorem C_map (i : Nat) : cellsOk 1 (.map i) = true := by simp [cellsOk, AV.cells, AV.cell]
theorem C_nilPtr : cellsOk 1 .nilPtr = true := by simp [cellsOk, AV.cells, AV.cell]
theorem C_nilFunc : cellsOk 1 .nilFunc = true := by simp [cellsOk, AV.cells, AV.cell]
def allCell : List AV → Bool
 | [] => true
 | v :: vs => v.cell && allCell vs
theorem C_agg (n : Nat) (cs : List AV) : cellsOk n (.agg cs) = (cs.length == n && allCell cs) := by
 simp only [cellsOk, AV.cells]
 congr 1
 induction cs with
 | nil => rfl
 | cons c cs ih => simp only [List.all_cons, allCell, ih]
theorem C_0 : allCell [] = true := by simp only [allCell]
theorem C1_int (k : IntKind) (n : Int) (cs : List AV) : allCell (.int k n :: cs) = allCell cs := by simp [allCell, AV.cell]
theorem C1_bool (b : Bool) (cs : List AV) : allCell (.bool b :: cs) = allCell cs := by simp [allCell, AV.cell]
theorem C1_str (b : ByteArray) (cs : List AV) : allCell (.str b :: cs) = allCell cs := by simp [allCell, AV.cell]
theorem C1_lit (xs : List AV) (f : Bool) (t : Option Nat) (cs : List AV) : allCell (.lit xs f t :: cs) = allCell cs := by simp [allCell, AV.cell]
theorem C1_ref (a b c d : Nat) (cs : List AV) : allCell (.ref a b c d :: cs) = allCell cs := by simp [allCell, AV.cell]
theorem C1_ptr (a b : Nat) (cs : List AV) : allCell (.ptr a b :: cs) = allCell cs := by simp [allCell, AV.cell]
theorem C1_func (f : FuncId) (a b : List AV) (cs : List AV) : allCell (.func f a b :: cs) = allCell cs := by simp [allCell, AV.cell]
theorem C1_map (i : Nat) (cs : List AV) : allCell (.map i :: cs) = allCell cs := by simp [allCell, AV.cell]
theorem C1_nilPtr  (cs : List AV) : allCell (.nilPtr :: cs) = allCell cs := by simp [allCell, AV.cell]
theorem C1_nilFunc  (cs : List AV) : allCell (.nilFunc :: cs) = allCell cs := by simp [allCell, AV.cell]
theorem C_mapc {α : Type} (enc : α → AV) (l : List α) (h : ∀ x, (enc x).cell = true) : allCell (l.map enc) = true := by
 induction l with
 | nil => rfl
 | cons x l ih => simp [allCell, h, ih]
theorem K_int (k : IntKind) (n : Int) : (AV.int k n).cells = [.int k n] := by simp [AV.cells]
theorem K_bool (b : Bool) : (AV.bool b).cells = [.bool b] := by simp [AV.cells]
theorem K_str (b : ByteArray) : (AV.str b).cells = [.str b] := by simp [AV.cells]
theorem K_lit (xs : List AV) (f : Bool) (t : Option Nat) : (AV.lit xs f t).cells = [.lit xs f t] := by simp [AV.cells]
theorem K_ref (a b c d : Nat) : (AV.ref a b c d).cells = [.ref a b c d] := by simp [AV.cells]
theorem K_ptr (a b : Nat) : (AV.ptr a b).cells = [.ptr a b] := by simp [AV.cells]
theorem K_func (f : FuncId) (a b : List AV) : (AV.func f a b).cells = [.func f a b] := by simp [AV.cells]
theorem K_map (i : Nat) : (AV.map i).cells = [.map i] := by simp [AV.cells]
theorem K_agg (cs : List AV) : (AV.agg cs).cells = cs := by simp [AV.cells]
theorem K_nilPtr : AV.nilPtr.cells = [.nilPtr] := by simp [AV.cells]
theorem K_nilFunc : AV.nilFunc.cells = [.nilFunc] := by simp [AV.cells]
theorem M_bc0 (e : Env) (cs : List AV) : buildCells e cs [] = some cs := by simp only [buildCells]
theorem M_bc1 (e : Env) (cs : List AV) (off n : Nat) (x : AOpd) (rest : List (Nat × Nat × AOpd)) :
  buildCells e cs ((off, n, x) :: rest) = ((vCells n (x.ev e)).bind fun us => setCells cs off us).bind fun cs => buildCells e cs rest := q_bcI e cs off n x rest
theorem L_all0 (n : Nat) : allCells n [] = true := by simp [allCells]
theorem L_all1 (n : Nat) (x : AV) (xs : List AV) : allCells n (x :: xs) = (cellsOk n x && allCells n xs) := by simp [allCells, cellsOk]
theorem L_allM {α : Type} (n : Nat) (enc : α → AV) (l : List α) (h : ∀ x, cellsOk n (enc x) = true) : allCells n (l.map enc) = true := by
 induction l with
 | nil => exact L_all0 n
 | cons x l ih => rw [List.map_cons, L_all1, h, ih]; rfl
theorem L_lit (n : Nat) (xs : List AV) : vLit n xs = if allCells n xs = true then some (.lit xs true none) else none := by simp only [vLit]
def vIdx (sz : Nat) (xs : List AV) (j : Int) (t : Option Nat) : Option AV := (xs[j.toNat]?).bind fun y => if 0 ≤ j ∧ y.cells.length = sz then some (.lptr xs j.toNat 0 t) else none
theorem V_iaL (sz : Nat) (xs : List AV) (f : Bool) (t : Option Nat) (k : IntKind) (j : Int) : vIaddr none sz (.lit xs f t) (.int k j) = vIdx sz xs j t := by
 simp only [vIaddr, intOf, vIdx]; cases xs[j.toNat]? <;> simp
theorem V_iaA (n sz id off : Nat) (k : IntKind) (j : Int) : vIaddr (some n) sz (.ptr id off) (.int k j) = if 0 ≤ j ∧ j < n then some (.ptr id (off + j.toNat * sz)) else none := by simp only [vIaddr, intOf]
theorem V_iaAL (n sz q off : Nat) (xs : List AV) (t : Option Nat) (k : IntKind) (j : Int) : vIaddr (some n) sz (.lptr xs q off t) (.int k j) = if 0 ≤ j ∧ j < n then some (.lptr xs q (off + j.toNat * sz) t) else none := by simp only [vIaddr, intOf]
theorem V_iaR (sz id off len sz' : Nat) (k : IntKind) (j : Int) : vIaddr none sz (.ref id off len sz') (.int k j) = if 0 ≤ j ∧ j < len ∧ sz' = sz then some (.ptr id (off + j.toNat * sz)) else none := by simp only [vIaddr, intOf]
def AppOk (sz b : Nat) (xs ys : List AV) : Prop := allCells sz xs = true ∧ allCells sz ys = true ∧ (xs.length + ys.length) * b ≤ room ∧ xs.length + ys.length ≤ room
theorem app_tok {sz b : Nat} {σ : St} {xs ys : List AV} {t : Nat} {tk : Option Nat} {f ex : Bool} (h : AppOk sz b xs ys) (h0 : ys.length ≠ 0) (ht : σ[t]? = some (.tok sz xs.length ex)) :
  appendAV sz b σ (.lit xs false (some t)) (.lit ys f tk) = some (.lit (xs ++ ys) false (some t), σ.set t (.tok sz (xs.length + ys.length) true)) := by
 obtain ⟨h1, h2, h3, h4⟩ := h
 simp [appendAV, view, sized, h0, h1, h2, h3, h4, ht]
def snapM (σ : St) (m d : Nat) (v : AV) : Option AV := (snap σ m d v).map clr
def snapMs (σ : St) (m d : Nat) (vs : List AV) : Option (List AV) := (snaps σ m d vs).map clrs
theorem S_int (σ : St) (m d : Nat) (k : IntKind) (n : Int) : snapM σ m d (.int k n) = some (.int k n) := by simp [snapM, snap, clr]
theorem S_bool (σ : St) (m d : Nat) (b : Bool) : snapM σ m d (.bool b) = some (.bool b) := by simp [snapM, snap, clr]
theorem S_str (σ : St) (m d : Nat) (b : ByteArray) : snapM σ m d (.str b) = some (.str b) := by simp [snapM, snap, clr]
theorem S_nilPtr (σ : St) (m d : Nat) : snapM σ m d .nilPtr = some .nilPtr := by simp [snapM, snap, clr]
theorem S_nilFunc (σ : St) (m d : Nat) : snapM σ m d .nilFunc = some .nilFunc := by simp [snapM, snap, clr]
theorem S_ptr (σ : St) (m d id off : Nat) : snapM σ m d (.ptr id off) = if id < m then some (.ptr id off) else none := by
 simp only [snapM, snap]; split <;> simp [clr]
theorem S_map (σ : St) (m d id : Nat) : snapM σ m d (.map id) = if id < m then some (.map id) else none := by
 simp only [snapM, snap]; split <;> simp [clr]
theorem S_nil (σ : St) (m d : Nat) : snapMs σ m d [] = some [] := by simp [snapMs, snaps, clrs]
theorem S_cons (σ : St) (m d : Nat) (v : AV) (vs : List AV) : snapMs σ m d (v :: vs) = (snapM σ m d v).bind fun a => (snapMs σ m d vs).map (a :: ·) := by
 simp only [snapMs, snapM, snaps]; cases snap σ m d v <;> cases snaps σ m d vs <;> simp [clrs]
theorem S_tuple (σ : St) (m d : Nat) (vs : List AV) : snapM σ m d (.tuple vs) = (snapMs σ m d vs).map .tuple := by
 simp only [snapMs, snapM, snap]; cases snaps σ m d vs <;> simp [clr]
theorem S_agg (σ : St) (m d : Nat) (vs : List AV) : snapM σ m d (.agg vs) = (snapMs σ m d vs).map .agg := by
 simp only [snapMs, snapM, snap]; cases snaps σ m d vs <;> simp [clr]
theorem S_lit0 (σ : St) (m d : Nat) (vs : List AV) (f : Bool) : snapM σ m d (.lit vs f none) = (snapMs σ m d vs).map fun ys => .lit ys false none := by
 simp only [snapMs, snapM, snap]; cases snaps σ m d vs <;> simp [clr]
theorem S_lit1 (σ : St) (m d t : Nat) (vs : List AV) (f : Bool) : snapM σ m d (.lit vs f (some t)) = (snapMs σ m d vs).map fun ys => if t < m then .lit ys f (some t) else .lit ys false none := by
 simp only [snapMs, snapM, snap]; cases snaps σ m d vs <;> by_cases h : t < m <;> simp [clr, h, Option.filter]
theorem S_func (σ : St) (m d : Nat) (f : FuncId) (a b : List AV) : snapM σ m d (.func f a b) = (snapMs σ m d a).bind fun x => (snapMs σ m d b).map fun y => .func f x y := by
 simp only [snapMs, snapM, snap]; cases snaps σ m d a <;> cases snaps σ m d b <;> simp [clr]
def Data (v : AV) : Prop := okV 0 v ∧ clr v = v
def Datas (vs : List AV) : Prop := okVs 0 vs ∧ clrs vs = vs
mutual
theorem snap_ok0 (σ : St) (m d : Nat) : ∀ (v : AV), okV 0 v → snap σ m d v = some v
 | .func f first cap, h => by simp only [okV] at h; simp only [snap, snaps_ok0 σ m d first h.1, snaps_ok0 σ m d cap h.2]
 | .yield _, h | .ptr _ _, h | .ref _ _ _ _, h | .map _, h => by simp [okV] at h
 | .lptr xs i o tk, h => by
  simp only [okV] at h
  cases tk with
  | none => simp [snap, snaps_ok0 σ m d xs h.2]
  | some t => exact absurd (h.1 t rfl) (by omega)
 | .lit xs f tk, h => by
  simp only [okV] at h
  cases tk with
  | none => simp [snap, snaps_ok0 σ m d xs h.2]
  | some t => exact absurd (h.1 t rfl) (by omega)
 | .agg cs, h => by simp only [okV] at h; simp [snap, snaps_ok0 σ m d cs h]
 | .tuple cs, h => by simp only [okV] at h; simp [snap, snaps_ok0 σ m d cs h]
 | .undef, _ | .int _ _, _ | .bool _, _ | .str _, _ | .nilFunc, _ | .nilPtr, _ | .nilMap, _ => by simp [snap]
theorem snaps_ok0 (σ : St) (m d : Nat) : ∀ (vs : List AV), okVs 0 vs → snaps σ m d vs = some vs
 | [], _ => by simp [snaps]
 | v :: vs, h => by simp only [okVs] at h; simp [snaps, snap_ok0 σ m d v h.1, snaps_ok0 σ m d vs h.2]
end
theorem S_data {v : AV} (h : Data v) (σ : St) (m d : Nat) : snapM σ m d v = some v := by simp [snapM, snap_ok0 σ m d v h.1, h.2]
theorem S_datas {vs : List AV} (h : Datas vs) (σ : St) (m d : Nat) : snapMs σ m d vs = some vs := by simp [snapMs, snaps_ok0 σ m d vs h.1, h.2]
theorem data_int (k : IntKind) (n : Int) : Data (.int k n) := ⟨trivial, rfl⟩
theorem data_bool (b : Bool) : Data (.bool b) := ⟨trivial, rfl⟩
theorem data_str (b : ByteArray) : Data (.str b) := ⟨trivial, rfl⟩
theorem datas_nil : Datas [] := ⟨trivial, rfl⟩
theorem datas_cons {v : AV} {vs : List AV} (h : Data v) (hs : Datas vs) : Datas (v :: vs) := ⟨⟨h.1, hs.1⟩, by simp [clrs, h.2, hs.2]⟩
theorem data_agg {vs : List AV} (h : Datas vs) : Data (.agg vs) := ⟨h.1, by simp [clr, h.2]⟩
theorem data_tuple {vs : List AV} (h : Datas vs) : Data (.tuple vs) := ⟨h.1, by simp [clr, h.2]⟩
theorem data_lit {vs : List AV} (h : Datas vs) : Data (.lit vs false none) := ⟨⟨(fun t e => by cases e), h.1⟩, by simp [clr, h.2]⟩
theorem datas_map {α : Type} {enc : α → AV} (h : ∀ x, Data (enc x)) (l : List α) : Datas (l.map enc) := by
 induction l with
 | nil => exact datas_nil
 | cons x l ih => exact datas_cons (h x) ih
theorem data_list {α : Type} {enc : α → AV} (h : ∀ x, Data (enc x)) (l : List α) : Data (.lit (l.map enc) false none) := data_lit (datas_map h l)
def RetR (o : Option AV) (σ : St) (v : AV) : Prop := ∃ v0, o = some v0 ∧ snapM σ 0 20 v0 = some v
@[congr] theorem RetR_congr {o o' : Option AV} {σ σ' : St} {v : AV} (h : o = o') (h2 : σ = σ') : RetR o σ v = RetR o' σ' v := by rw [h, h2]
theorem R_some (v0 : AV) (σ : St) (v : AV) : RetR (some v0) σ v = (snapM σ 0 20 v0 = some v) := by simp [RetR]
def RetK (rs : List ARes) (v : AV) : KJ := fun j e σ => (j = none ∨ j = some .ret) ∧ RetR (resOf rs e σ) σ v
theorem R_none (rs : List ARes) (v : AV) (e : Env) (σ : St) : RetK rs v none e σ = RetR (resOf rs e σ) σ v := by simp [RetK]
theorem R_ret (rs : List ARes) (v : AV) (e : Env) (σ : St) : RetK rs v (some .ret) e σ = RetR (resOf rs e σ) σ v := by simp [RetK]
theorem pure_fn {f : FuncId} {args : List AV} {v : AV} {af : AFunc} (hf : T f = some af) (hn : args.length ≤ af.ntmps) (hk : Datas args) (h : wp T af.body (argsEnv 0 args) [] (RetK af.results v)) : Pure T f args v := by
 intro σ
 refine .frame hk.1 (.inl rfl) (R := fun o => o.v = v ∧ o.σ = []) (.call hf hn (run_wp h fun o ho => ho) fun o ho => ?_) fun o ho => ⟨ho.2, ho.1, rfl⟩
 obtain ⟨h1, v0, h2, h3⟩ := ho
 refine ⟨h1, v0, h2, ?_⟩
 unfold snapM at h3
 cases hs : snap o.σ 0 20 v0 with
 | none => rw [hs] at h3; cases h3
 | some v1 =>
  rw [hs] at h3
  simp at h3
  exact .inr ⟨20, v1, v, hs, .inr h3.symm, fun i hi => absurd hi (by simp), by simp, rfl, by simp⟩
theorem call_fn {f : FuncId} {args args0 : List AV} {v : AV} (h : Pure T f args0 v) (ha : clrs args = args0) (hk : okVs 0 args) (σ : St) : Run T (.call f args σ) fun o => o.v = v ∧ o.σ = σ :=
 .frame hk (.inr ha.symm) (h []) fun o ho => ⟨ho.2, ho.1, rfl⟩
theorem callK_fn {f : FuncId} {first cap args args0 : List AV} {v : AV} {σ : St} {K : AV → St → Prop} (h : Pure T f args0 v) (ha : clrs (first ++ args ++ cap) = args0) (hk : okVs 0 (first ++ args ++ cap)) (k : K v σ) : cK (K := ⟨K⟩) T (.func f first cap) args σ :=
 .callf (.mono (call_fn h ha hk σ) fun o ho => by rw [ho.1, ho.2]; exact k)
theorem callD_fn {f : FuncId} {first cap args args0 : List AV} {v : AV} {σ : St} {K : AV → St → Prop} (h : Pure T f args0 v) (ha : clrs (first ++ args ++ cap) = args0) (hk : okVs 0 (first ++ args ++ cap)) (k : K v σ) : cD (K := ⟨K⟩) T (.func f first cap) args σ :=
 ⟨v, σ, .callf (call_fn h ha hk σ), k⟩
theorem callK_d {f : FuncId} {args args0 : List AV} {v : AV} {σ : St} {K : AV → St → Prop} (h : Pure T f args0 v) (ha : args = args0) (hk : Datas args0) (k : K v σ) : cK (K := ⟨K⟩) T (.func f [] []) args σ := by
 subst ha; exact callK_fn h (by simpa using hk.2) (by simpa using hk.1) k
theorem callD_d {f : FuncId} {args args0 : List AV} {v : AV} {σ : St} {K : AV → St → Prop} (h : Pure T f args0 v) (ha : args = args0) (hk : Datas args0) (k : K v σ) : cD (K := ⟨K⟩) T (.func f [] []) args σ := by
 subst ha; exact callD_fn h (by simpa using hk.2) (by simpa using hk.1) k
def InK (rs : List ARes) (K : AV → St → Prop) : KJ := fun j e σ => (j = none ∨ j = some .ret) ∧ ∃ v, resOf rs e σ = some v ∧ K v σ
def InR (o : Option AV) (σ : St) (K : AV → St → Prop) : Prop := ∃ v, o = some v ∧ K v σ
@[congr] theorem InR_congr {o o' : Option AV} {σ σ' : St} {K : AV → St → Prop} (h : o = o') (h2 : σ = σ') : InR o σ K = InR o' σ' K := by rw [h, h2]
theorem I_some (v : AV) (σ : St) (K : AV → St → Prop) : InR (some v) σ K = K v σ := by simp [InR]
theorem I_none (rs : List ARes) (K : AV → St → Prop) (e : Env) (σ : St) : InK rs K none e σ = InR (resOf rs e σ) σ K := by simp [InK, InR]
theorem I_ret (rs : List ARes) (K : AV → St → Prop) (e : Env) (σ : St) : InK rs K (some .ret) e σ = InR (resOf rs e σ) σ K := by simp [InK, InR]
def EqE (σ : St) (m : Nat) (e : Env) : Env → Prop
 | [] => True
 | (t, v) :: e' => snapM σ m 20 (Env.get e t) = some v ∧ EqE σ m e e'
theorem T_e0 (σ : St) (m : Nat) (e : Env) : EqE σ m e [] = True := by simp only [EqE]
theorem T_e1 (σ : St) (m : Nat) (e : Env) (t : Nat) (v : AV) (e' : Env) : EqE σ m e ((t, v) :: e') = (snapM σ m 20 (Env.get e t) = some v ∧ EqE σ m e e') := by simp only [EqE]
theorem thinE_of {σ : St} {m : Nat} {e : Env} : ∀ {e' : Env}, EqE σ m e e' → ThinE σ m e e'
 | [], _ => trivial
 | (t, v) :: e', h => by
  refine ⟨.inr ?_, thinE_of h.2⟩
  have h1 := h.1
  unfold snapM at h1
  cases hs : snap σ m 20 (Env.get e t) with
  | none => rw [hs] at h1; cases h1
  | some v1 => rw [hs] at h1; simp at h1; exact ⟨20, v1, hs, .inr h1.symm⟩
def EqS (m : Nat) : St → St → St → Prop
 | _, _, [] => True
 | s :: ss, b :: bs, c :: cs => (c = b ∧ (b = s ∨ okBlk m b)) ∧ EqS m ss bs cs
 | [], b :: bs, c :: cs => (c = b ∧ okBlk m b) ∧ EqS m [] bs cs
 | _, [], _ :: _ => False
theorem T_s0 (m : Nat) (a b : St) : EqS m a b [] = True := by cases a <;> cases b <;> simp only [EqS]
theorem T_s1 (m : Nat) (s b c : ABlk) (ss bs cs : St) : EqS m (s :: ss) (b :: bs) (c :: cs) = ((c = b ∧ (b = s ∨ okBlk m b)) ∧ EqS m ss bs cs) := by simp only [EqS]
theorem T_s2 (m : Nat) (b c : ABlk) (bs cs : St) : EqS m [] (b :: bs) (c :: cs) = ((c = b ∧ okBlk m b) ∧ EqS m [] bs cs) := by simp only [EqS]
theorem eqS_spec {m : Nat} : ∀ {σ σ' σ'' : St}, EqS m σ σ' σ'' → ∀ i c, σ''[i]? = some c → σ'[i]? = some c ∧ ((i < σ.length ∧ σ'[i]? = σ[i]?) ∨ okBlk m c)
 | _, _, [], _, i, c, h => by simp at h
 | s :: ss, b :: bs, x :: cs, h, i, c, hc => by
  obtain ⟨⟨h1, h2⟩, h3⟩ := h
  cases i with
  | zero =>
   simp at hc
   subst hc
   subst h1
   refine ⟨rfl, ?_⟩
   rcases h2 with h2 | h2
   ·left; simp [h2]
   ·right; exact h2
  | succ i =>
   obtain ⟨q1, q2⟩ := eqS_spec h3 i c (by simpa using hc)
   refine ⟨by simpa using q1, ?_⟩
   rcases q2 with ⟨q2, q3⟩ | q2
   ·left; exact ⟨by simp; omega, by simpa using q3⟩
   ·right; exact q2
 | [], b :: bs, x :: cs, h, i, c, hc => by
  obtain ⟨⟨h1, h2⟩, h3⟩ := h
  cases i with
  | zero =>
   simp at hc
   subst hc
   subst h1
   exact ⟨rfl, .inr h2⟩
  | succ i =>
   obtain ⟨q1, q2⟩ := eqS_spec h3 i c (by simpa using hc)
   refine ⟨by simpa using q1, ?_⟩
   rcases q2 with ⟨q2, q3⟩ | q2
   ·simp at q2
   ·right; exact q2
def TrimX (σ : St) (e' : Env) (σ' : St) (e'' : Env) (σ'' : St) : Prop := σ.length ≤ σ''.length ∧ σ''.length ≤ σ'.length ∧ EqE σ' σ''.length e' e'' ∧ EqS σ''.length σ σ' σ''
@[congr] theorem TrimX_congr {σ σ1 : St} {e' e1 : Env} {σ' σ1' : St} {e'' : Env} {σ'' : St} (h1 : σ = σ1) (h2 : e' = e1) (h3 : σ' = σ1') : TrimX σ e' σ' e'' σ'' = TrimX σ1 e1 σ1' e'' σ'' := by rw [h1, h2, h3]
theorem trims_of {σ : St} {e' : Env} {σ' : St} {e'' : Env} {σ'' : St} (h : TrimX σ e' σ' e'' σ'') : Trims2 σ e' σ' e'' σ'' := by
 obtain ⟨h1, h2, h3, h4⟩ := h
 refine ⟨h1, h2, thinE_of h3, fun i hi => ?_⟩
 obtain ⟨c, hc⟩ : ∃ c, σ''[i]? = some c := ⟨_, List.getElem?_eq_getElem hi⟩
 obtain ⟨q1, q2⟩ := eqS_spec h4 i c hc
 refine ⟨c, hc, ?_⟩
 rcases q2 with ⟨q2, q3⟩ | q2
 ·left; exact ⟨q2, .inl q3, q1⟩
 ·right; left; exact ⟨q1, q2⟩
def BackK {S : Type} (P : S → Prop) (μ : S → Nat) (IE : S → Env) (IS : S → St) (s : S) (K : KJ) : KJ := fun j e σ =>
 match j with
 | none => ∃ s', P s' ∧ μ s' < μ s ∧ TrimX (IS s) e σ (IE s') (IS s')
 | some j => K (some j) e σ
theorem T_back {S : Type} (P : S → Prop) (μ : S → Nat) (IE : S → Env) (IS : S → St) (s : S) (K : KJ) (e : Env) (σ : St) : BackK P μ IE IS s K none e σ = ∃ s', P s' ∧ μ s' < μ s ∧ TrimX (IS s) e σ (IE s') (IS s') := by simp only [BackK]
theorem T_out {S : Type} (P : S → Prop) (μ : S → Nat) (IE : S → Env) (IS : S → St) (s : S) (K : KJ) (j : AJump) (e : Env) (σ : St) : BackK P μ IE IS s K (some j) e σ = K (some j) e σ := by simp only [BackK]
def EqW (e : Env) : Env → Prop
 | [] => True
 | (t, v) :: e' => (Env.get e t = v ∨ clr (Env.get e t) = v) ∧ EqW e e'
theorem T_w0 (e : Env) : EqW e [] = True := by simp only [EqW]
theorem T_w1 (e : Env) (t : Nat) (v : AV) (e' : Env) : EqW e ((t, v) :: e') = ((Env.get e t = v ∨ clr (Env.get e t) = v) ∧ EqW e e') := by simp only [EqW]
theorem eqW_spec {e : Env} : ∀ {e' : Env}, EqW e e' → ∀ t, Env.get e' t = .undef ∨ Env.get e' t = Env.get e t ∨ Env.get e' t = clr (Env.get e t)
 | [], _, t => .inl rfl
 | (k, v) :: e', h, t => by
  by_cases hk : k = t
  ·subst hk
   right
   rcases h.1 with h | h
   ·left; simp [Env.get, h]
   ·right; simp [Env.get, h]
  ·simpa [Env.get, hk] using eqW_spec h.2 t
theorem loopX {S : Type} (P : S → Prop) (μ : S → Nat) (IE : S → Env) (IS : S → St) {b : ACode} {K : KJ} (step : ∀ s, P s → wp T b (IE s) (IS s) (BackK P μ IE IS s K)) : ∀ n s, μ s = n → P s → RunK T (.loop b) (IE s) (IS s) K := by
 intro n
 induction n using Nat.strongRecOn with
 | _ n ih =>
  intro s hs hp
  have h1 : Run T (.code b (IE s) (IS s)) fun o => (o.j = none ∧ ∃ s', P s' ∧ μ s' < μ s ∧ o.env = IE s' ∧ o.σ = IS s') ∨ (o.j ≠ none ∧ K o.j o.env o.σ) := by
   refine .trim2 (run_wp (step s hp) fun o ho => ho) fun o ho => ?_
   cases hj : o.j with
   | none =>
    rw [hj, T_back] at ho
    obtain ⟨s', h1, h2, h3⟩ := ho
    exact .inr ⟨_, _, trims_of h3, .inl ⟨rfl, s', h1, h2, rfl, rfl⟩⟩
   | some j =>
    rw [hj, T_out] at ho
    exact .inl (.inr ⟨by simp, ho⟩)
  refine .loop h1 (fun o ho hj => ?_) fun o ho hj => ?_
  ·rcases ho with ⟨_, s', q1, q2, q3, q4⟩ | ⟨q1, _⟩
   ·rw [q3, q4]; exact ih _ (by omega) s' rfl q1
   ·exact absurd hj q1
  ·rcases ho with ⟨q, _⟩ | ⟨_, q⟩
   ·exact absurd q hj
   ·exact q
theorem loopE {S : Type} (s0 : S) (P : S → Prop) (μ : S → Nat) (IE : S → Env) (IS : S → St) {b : ACode} {e : Env} {σ : St} {K : KJ} (hP : P s0) (hσ : σ = IS s0) (hE : EqW e (IE s0))
  (step : ∀ s, P s → wp T b (IE s) (IS s) (BackK P μ IE IS s K)) : rK (K := ⟨K⟩) T (.loop b) e σ := by
 subst hσ
 exact .weak (eqW_spec hE) (loopX P μ IE IS step _ s0 rfl hP)
theorem ghostK {c : ACode} {e : Env} {σ : St} {K : KJ} (t sz : Nat) (xs : List AV) (ht : Env.get e t = .lit xs true none) (h : rK (K := ⟨K⟩) T c ((t, .lit xs false (some σ.length)) :: e) (σ ++ [.tok sz xs.length false])) : rK (K := ⟨K⟩) T c e σ :=
 .ghost t sz xs ht h
end Go.Am
namespace Go.Am
variable {T : FuncId → Option AFunc}
def resA (e : Env) (σ : St) : ARes → Option AV
 | .tmp t => some (Env.get e t)
 | .cell t sh => loadAV sh σ (Env.get e t)
def resAs (e : Env) (σ : St) : List ARes → Option (List AV)
 | [] => some []
 | r :: rs => (resA e σ r).bind fun v => (resAs e σ rs).map (v :: ·)
theorem resAV_eq (e : Env) (σ : St) : ∀ rs, resAV e σ rs = resAs e σ rs
 | [] => rfl
 | .tmp t :: rs => by simp [resAV, resAs, resA, resAV_eq e σ rs]
 | .cell t sh :: rs => by
  simp only [resAV, resAs, resA, resAV_eq e σ rs]
  cases loadAV sh σ (Env.get e t) <;> cases resAs e σ rs <;> simp
theorem X_res0 (e : Env) (σ : St) : resOf [] e σ = some (.tuple []) := by simp [resOf, resAV]
theorem X_res1 (r : ARes) (e : Env) (σ : St) : resOf [r] e σ = resA e σ r := by
 simp only [resOf, resAV_eq, resAs]; cases resA e σ r <;> simp
theorem X_res2 (r s : ARes) (rs : List ARes) (e : Env) (σ : St) : resOf (r :: s :: rs) e σ = (resAs e σ (r :: s :: rs)).map .tuple := by
 simp only [resOf, resAV_eq, resAs]; cases resA e σ r <;> cases resA e σ s <;> cases resAs e σ rs <;> simp
theorem X_ra0 (e : Env) (σ : St) : resAs e σ [] = some [] := by simp only [resAs]
theorem X_ra1 (r : ARes) (rs : List ARes) (e : Env) (σ : St) : resAs e σ (r :: rs) = (resA e σ r).bind fun v => (resAs e σ rs).map (v :: ·) := by simp only [resAs]
theorem X_rt (t : Nat) (e : Env) (σ : St) : resA e σ (.tmp t) = some (Env.get e t) := by simp only [resA]
theorem X_rc (t : Nat) (sh : Option Nat) (e : Env) (σ : St) : resA e σ (.cell t sh) = loadAV sh σ (Env.get e t) := by simp only [resA]
theorem X_bn (id : Nat) (K : KJ) (e : Env) (σ : St) : blockK id K none e σ = K none e σ := by simp only [blockK]
theorem X_br (id : Nat) (K : KJ) (e : Env) (σ : St) : blockK id K (some .ret) e σ = K (some .ret) e σ := by simp only [blockK]
theorem X_be1 (id : Nat) (K : KJ) (e : Env) (σ : St) : blockK id K (some (.exit id)) e σ = K none e σ := by simp [blockK]
theorem X_be2 (id i : Nat) (K : KJ) (e : Env) (σ : St) (h : i ≠ id) : blockK id K (some (.exit i)) e σ = K (some (.exit i)) e σ := by simp [blockK, h]
theorem V_idxN {α : Type} {sz : Nat} {enc : α → AV} {l : List α} {k : Nat} {t : Option Nat} (h : k < l.length) (hs : ∀ x, (enc x).cells.length = sz) : vIdx sz (l.map enc) (k : Int) t = some (.lptr (l.map enc) k 0 t) := by
 simp [vIdx, List.getElem?_map, h, hs]
theorem V_getN {α : Type} {enc : α → AV} {l : List α} {k : Nat} (h : k < l.length) : (l.map enc)[k]? = some (enc l[k]) := by simp [List.getElem?_map, h]
theorem rd0 {ds : List ADOper} {e : Env} {σ : St} {K : KJ} (hz : allocsOf ds = []) (h : wpD T ds e σ σ.length [σ] [] fun e σ => K none e σ) : rK (K := ⟨K⟩) T (.dreg ds) e σ := by
 refine rK_dreg ?_
 rw [hz, List.append_nil]
 exact h
theorem rK_dreg1 {ds : List ADOper} {e : Env} {σ : St} {K : KJ} (zs : St) (hz : allocsOf ds = zs) (h : wpD T ds e (σ ++ zs) σ.length [σ ++ zs] [] fun e σ => K none e σ) : rK (K := ⟨K⟩) T (.dreg ds) e σ := by
 subst hz
 exact rK_dreg h
theorem wrapN {k n : Nat} (h : k < n) (hn : n < 9223372036854775808) : IntKind.i64.wrap ((k : Int) + 1) = ((k + 1 : Nat) : Int) := by rw [wrap64 ⟨by omega, by omega⟩]; omega
def ints (l : List Int) : AV := .lit (l.map (.int .i64)) false none
theorem data_ints (l : List Int) : Data (ints l) := data_list (data_int .i64) l
theorem S_mapI (σ : St) (m d : Nat) (k : IntKind) (l : List Int) : snapMs σ m d (l.map (.int k)) = some (l.map (.int k)) := S_datas (datas_map (data_int k) l) σ m d
theorem S_mapS (σ : St) (m d : Nat) (l : List ByteArray) : snapMs σ m d (l.map .str) = some (l.map .str) := S_datas (datas_map data_str l) σ m d
theorem S_app (σ : St) (m d : Nat) : ∀ xs ys : List AV, snapMs σ m d (xs ++ ys) = (snapMs σ m d xs).bind fun a => (snapMs σ m d ys).map (a ++ ·)
 | [], ys => by rw [S_nil]; simp
 | x :: xs, ys => by
  rw [List.cons_append, S_cons, S_cons, S_app σ m d xs ys]
  cases snapM σ m d x <;> simp
  cases snapMs σ m d xs <;> simp
  cases snapMs σ m d ys <;> simp
theorem S_ints (σ : St) (m d : Nat) (l : List Int) : snapM σ m d (ints l) = some (ints l) := S_data (data_ints l) σ m d
theorem S_mapL (σ : St) (m d : Nat) (l : List (List Int)) : snapMs σ m d (l.map ints) = some (l.map ints) := S_datas (datas_map data_ints l) σ m d
theorem V_min2 (k : IntKind) (a b : Int) : minAV [.int k a, .int k b] = some (.int k (min a b)) := by
 simp only [minAV, minFrom, if_true, Option.some.injEq, AV.int.injEq, true_and]; split <;> omega
theorem V_max2 (k : IntKind) (a b : Int) : maxAV [.int k a, .int k b] = some (.int k (max a b)) := by
 simp only [maxAV, maxFrom, if_true, Option.some.injEq, AV.int.injEq, true_and]; split <;> omega
def byteAt (s : ByteArray) (k : Nat) : Int := (((s[k]?).getD 0).toNat : Int)
theorem byteAt_lt (s : ByteArray) (k : Nat) : 0 ≤ byteAt s k ∧ byteAt s k < 256 := by
 have := ((s[k]?).getD 0).toNat_lt
 unfold byteAt
 omega
theorem V_sidx {s : ByteArray} {k : Nat} (h : k < s.size) : vSindex (.str s) (.int .i64 (k : Int)) = some (.int .u8 (byteAt s k)) := by
 simp [vSindex, intOf, byteAt, h]
structure Span where
 lo : Int
 hi : Int
 deriving DecidableEq
def encSpan (s : Span) : AV := .agg [.int .i64 s.lo, .int .i64 s.hi]
theorem encSpan_eq (s : Span) : encSpan s = .agg [.int .i64 s.lo, .int .i64 s.hi] := by simp only [encSpan]
theorem data_span (s : Span) : Data (encSpan s) := data_agg (datas_cons (data_int _ _) (datas_cons (data_int _ _) datas_nil))
def strs (l : List ByteArray) : AV := .lit (l.map .str) false none
theorem data_strs (l : List ByteArray) : Data (strs l) := data_list data_str l
end Go.Am
namespace Go.Am
variable {T : FuncId → Option AFunc}
def Same (T : FuncId → Option AFunc) (f : AV) (args : List AV) (σ : St) (v : AV) : Prop := Run T (.callv f args σ) fun o => o.v = v ∧ o.σ = σ
def BaseR (o : Option AV) (σ0 σ : St) (v : AV) : Prop := ∃ v0 τ, o = some v0 ∧ σ = σ0 ++ τ ∧ snapM σ σ0.length 20 v0 = some v
@[congr] theorem BaseR_congr {o o' : Option AV} {σ0 σ σ' : St} {v : AV} (h : o = o') (h2 : σ = σ') : BaseR o σ0 σ v = BaseR o' σ0 σ' v := by rw [h, h2]
def BaseK (rs : List ARes) (σ0 : St) (v : AV) : KJ := fun j e σ => (j = none ∨ j = some .ret) ∧ BaseR (resOf rs e σ) σ0 σ v
theorem Y_none (rs : List ARes) (σ0 : St) (v : AV) (e : Env) (σ : St) : BaseK rs σ0 v none e σ = BaseR (resOf rs e σ) σ0 σ v := by simp [BaseK]
theorem Y_ret (rs : List ARes) (σ0 : St) (v : AV) (e : Env) (σ : St) : BaseK rs σ0 v (some .ret) e σ = BaseR (resOf rs e σ) σ0 σ v := by simp [BaseK]
theorem baseR {v0 : AV} {σ0 σ : St} {v : AV} (τ : St) (h1 : σ = σ0 ++ τ) (h2 : snapM σ σ0.length 20 v0 = some v) : BaseR (some v0) σ0 σ v := ⟨v0, τ, rfl, h1, h2⟩
theorem same_fn {f : FuncId} {first cap args : List AV} {σ : St} {af : AFunc} {v : AV} (hf : T f = some af) (hn : (first ++ args ++ cap).length ≤ af.ntmps) (h : wp T af.body (argsEnv 0 (first ++ args ++ cap)) σ (BaseK af.results σ v)) : Same T (.func f first cap) args σ v := by
 refine .callf (.call hf hn (run_wp h fun o ho => ho) fun o ho => ?_)
 obtain ⟨h1, v0, τ, h2, h3, h4⟩ := ho
 refine ⟨h1, v0, h2, ?_⟩
 unfold snapM at h4
 cases hs : snap o.σ σ.length 20 v0 with
 | none => rw [hs] at h4; cases h4
 | some v1 =>
  rw [hs] at h4
  simp at h4
  exact .inr ⟨20, v1, v, hs, .inr h4.symm, fun i hi => .inl (by rw [h3]; exact List.getElem?_append_left hi), by rw [h3]; simp, rfl, by rw [h3]; simp⟩
theorem callK_same {f : AV} {args : List AV} {v : AV} {σ : St} {K : AV → St → Prop} (h : Same T f args σ v) (k : K v σ) : cK (K := ⟨K⟩) T f args σ := .mono h fun o ho => by rw [ho.1, ho.2]; exact k
theorem callD_same {f : AV} {args : List AV} {v : AV} {σ : St} {K : AV → St → Prop} (h : Same T f args σ v) (k : K v σ) : cD (K := ⟨K⟩) T f args σ := ⟨v, σ, h, k⟩
theorem same_pure {f : FuncId} {args args0 : List AV} {v : AV} {σ : St} (h : Pure T f args0 v) (ha : clrs args = args0) (hk : okVs 0 args) : Same T (.func f [] []) args σ v := .callf (by simpa using call_fn h ha hk σ)
def Keeps (σ : St) (v : AV) : Prop := ∀ τ, snapM (σ ++ τ) σ.length 20 v = some v
theorem Keeps.nil {σ : St} {v : AV} (h : Keeps σ v) : snapM σ σ.length 20 v = some v := by simpa using h []
theorem T_sr (m : Nat) : ∀ (σ τ : St), EqS m σ (σ ++ τ) σ = True
 | [], τ => by cases τ <;> simp [EqS]
 | b :: σ, τ => by simp [EqS, T_sr m σ τ]
theorem T_sr0 (m : Nat) (σ : St) : EqS m σ σ σ = True := by simpa using T_sr m σ []
theorem st_app (σ τ υ : St) : σ ++ τ ++ υ = σ ++ (τ ++ υ) := List.append_assoc _ _ _
theorem V_snextT {s : ByteArray} {k : Nat} (h : k < s.size) : vSnext [.siter s k] (.ptr 0 0) = some (.tuple [.bool true, .int .i64 k, .int .i32 (Utf8.decode s k).1], [.siter s (k + (Utf8.decode s k).2)]) := by
 simp [vSnext, h]
theorem V_snextF {s : ByteArray} {k : Nat} (h : ¬ k < s.size) : vSnext [.siter s k] (.ptr 0 0) = some (.tuple [.bool false], [.siter s k]) := by
 simp [vSnext, h]
theorem byteAt_ascii {s : ByteArray} {k : Nat} (h : k < s.size) (hb : byteAt s k < 128) : Utf8.decode s k = ((byteAt s k).toNat, 1) := by
 have e : byteAt s k = ((s[k]'h).toNat : Int) := by simp [byteAt, h]
 rw [decode_ascii s k h (by omega), e]
 simp
theorem byteAt_high {s : ByteArray} {k : Nat} (h : k < s.size) (hb : 128 ≤ byteAt s k) : 128 ≤ (Utf8.decode s k).1 := by
 have e : byteAt s k = ((s[k]'h).toNat : Int) := by simp [byteAt, h]
 exact (decode_high s k h (by omega)).1
theorem V_take {α : Type} {sz : Nat} {enc : α → AV} {l : List α} {i : Nat} {σ : St} {t : Option Nat} (hi : i ≤ l.length) (hs : ∀ x, (enc x).cells.length = sz) : vSlicev sz σ (.lit (l.map enc) false t) none (some (.int .i64 (i : Int))) none = some (.lit ((l.take i).map enc) false t) := by
 have hc : cutFits sz (l.map enc) 0 (i : Int) = true := by
  unfold cutFits
  by_cases h0 : i = 0
  ·subst h0; simp
  ·cases l with
   | nil => simp at hi; omega
   | cons x l => simp [hs]
 simp only [vSlicev, lenAV, vBound, Option.map_none, intOf, sliceAV]
 rw [if_pos ⟨by omega, by omega, by simp; omega, hc⟩]
 simp [List.map_take]
theorem callK_v {f : FuncId} {args args0 : List AV} {v : AV} {σ : St} {K : AV → St → Prop} (h : Pure T f args0 v) (ha : clrs args = args0) (hk : okVs 0 args) (k : K v σ) : cK (K := ⟨K⟩) T (.func f [] []) args σ :=
 callK_fn h (by simpa using ha) (by simpa using hk) k
theorem callD_v {f : FuncId} {args args0 : List AV} {v : AV} {σ : St} {K : AV → St → Prop} (h : Pure T f args0 v) (ha : clrs args = args0) (hk : okVs 0 args) (k : K v σ) : cD (K := ⟨K⟩) T (.func f [] []) args σ :=
 callD_fn h (by simpa using ha) (by simpa using hk) k
end Go.Am
namespace Go.Am
def QV := And.intro @V_str (And.intro @st_set (And.intro @st_set0 (And.intro @st_app (And.intro @V_sidx (And.intro @V_min2 (And.intro @V_max2 (And.intro @q_put (And.intro @q_put0 (And.intro @q_get (And.intro @q_evt (And.intro @q_evc (And.intro @q_arg (And.intro @q_arg0 (And.intro @W_bindB (And.intro @W_bindG1 (And.intro @W_bindG0 (And.intro @W_bindGT (And.intro @iteP_true (And.intro @iteP_false (And.intro @E_evs0 (And.intro @E_evs1 (And.intro @E_ovs0 (And.intro @E_ovs1 (And.intro @B_some (And.intro @O_map (And.intro @O_bind (And.intro @V_nilP (And.intro @V_nilL (And.intro @V_nilF (And.intro @V_field (And.intro @V_conv (And.intro @V_neg (And.intro @V_pickT (And.intro @V_pickF (And.intro @V_eqI (And.intro @V_eqB (And.intro @V_eqS (And.intro @V_oand (And.intro @V_eqC0 (And.intro @V_eqC1 (And.intro @V_eq1 (And.intro @V_ne1 (And.intro @V_eqA (And.intro @V_neA (And.intro @V_add (And.intro @V_sub (And.intro @V_mul (And.intro @V_lss (And.intro @V_leq (And.intro @V_gtr (And.intro @V_geq (And.intro @V_len (And.intro @V_lenS (And.intro @V_lenR (And.intro @q_faddrP (And.intro @q_faddrL (And.intro @q_extT (And.intro @q_notB (And.intro @M_ptr (And.intro @M_lptr (And.intro @M_at0 (And.intro @M_atS (And.intro @M_base (And.intro @M_base0 (And.intro @M_sh1 (And.intro @M_shN (And.intro @M_store (And.intro @M_set (And.intro @C_cells (And.intro @C_int (And.intro @C_bool (And.intro @C_str (And.intro @C_lit (And.intro @C_ref (And.intro @C_ptr (And.intro @C_func (And.intro @C_map (And.intro @C_nilPtr (And.intro @C_nilFunc (And.intro @C_agg (And.intro @C_0 (And.intro @C1_int (And.intro @C1_bool (And.intro @C1_str (And.intro @C1_lit (And.intro @C1_ref (And.intro @C1_ptr (And.intro @C1_func (And.intro @C1_map (And.intro @C1_nilPtr (And.intro @C1_nilFunc (And.intro @K_int (And.intro @K_bool (And.intro @K_str (And.intro @K_lit (And.intro @K_ref (And.intro @K_ptr (And.intro @K_func (And.intro @K_map (And.intro @K_agg (And.intro @K_nilPtr (And.intro @K_nilFunc (And.intro @M_bc0 (And.intro @M_bc1 (And.intro @L_all0 (And.intro @L_all1 (And.intro @L_lit (And.intro @V_iaL (And.intro @V_iaA (And.intro @V_iaAL (And.intro @V_iaR (And.intro @X_res0 (And.intro @X_res1 (And.intro @X_res2 (And.intro @X_ra0 (And.intro @X_ra1 (And.intro @X_rt (And.intro @X_rc (And.intro @R_some (And.intro @I_some (And.intro @A_mov (And.intro @A_pick (And.intro @A_alloc (And.intro @A_box (And.intro @A_build (And.intro @A_mklit (And.intro @A_mkref (And.intro @A_load (And.intro @A_store (And.intro @A_nilCheck (And.intro @A_bin (And.intro @A_eql (And.intro @A_not (And.intro @A_neg (And.intro @A_conv (And.intro @A_mkfun (And.intro @A_mkmap (And.intro @A_mkslice (And.intro @A_slicev (And.intro @A_slicea (And.intro @A_faddr (And.intro @A_field (And.intro @A_iaddr (And.intro @A_index (And.intro @A_sindex (And.intro @A_lookup (And.intro @A_mapset (And.intro @A_ext (And.intro @A_len (And.intro @A_append (And.intro @A_apref (And.intro @A_copy (And.intro @A_min (And.intro @A_max (And.intro @A_srange (@A_snext))))))))))))))))))))))))))))))))))))))))))))))))))))))))))))))))))))))))))))))))))))))))))))))))))))))))))))))))))))))))))))))))))))))))))))))))))))))))))))
def QP := And.intro @Y_none (And.intro @Y_ret (And.intro @q_reg (And.intro @q_seq (And.intro @q_jump (And.intro @q_then (And.intro @q_thenJ (And.intro @q_skip (And.intro @q_block (And.intro @q_scope (And.intro @q_nil (And.intro @X_bn (And.intro @X_br (And.intro @X_be1 (And.intro @X_be2 (And.intro @V_idxN (And.intro @V_getN (And.intro @W_call (And.intro @W_guard (And.intro @W_cond (And.intro @W_loop (And.intro @W_range (And.intro @D_reg (And.intro @R_none (And.intro @R_ret (And.intro @I_none (And.intro @I_ret (And.intro @T_back (And.intro @T_out (And.intro @W_mov (And.intro @W_pick (And.intro @W_alloc (And.intro @W_box (And.intro @W_build (And.intro @W_mklit (And.intro @W_mkref (And.intro @W_load (And.intro @W_store (And.intro @W_nilCheck (And.intro @W_bin (And.intro @W_eql (And.intro @W_not (And.intro @W_neg (And.intro @W_conv (And.intro @W_mkfun (And.intro @W_mkmap (And.intro @W_mkslice (And.intro @W_slicev (And.intro @W_slicea (And.intro @W_faddr (And.intro @W_field (And.intro @W_iaddr (And.intro @W_index (And.intro @W_sindex (And.intro @W_lookup (And.intro @W_mapset (And.intro @W_ext (And.intro @W_len (And.intro @W_append (And.intro @W_apref (And.intro @W_copy (And.intro @W_min (And.intro @W_max (And.intro @W_srange (@W_snext))))))))))))))))))))))))))))))))))))))))))))))))))))))))))))))))
def QD := And.intro @D_nil (And.intro @D_call (And.intro @D_alloc (And.intro @D_guardC (And.intro @D_mov (And.intro @D_pick (And.intro @D_box (And.intro @D_build (And.intro @D_mklit (And.intro @D_mkref (And.intro @D_load (And.intro @D_store (And.intro @D_nilCheck (And.intro @D_bin (And.intro @D_eql (And.intro @D_not (And.intro @D_neg (And.intro @D_conv (And.intro @D_mkfun (And.intro @D_mkmap (And.intro @D_mkslice (And.intro @D_slicev (And.intro @D_slicea (And.intro @D_faddr (And.intro @D_field (And.intro @D_iaddr (And.intro @D_index (And.intro @D_sindex (And.intro @D_lookup (And.intro @D_mapset (And.intro @D_ext (And.intro @D_len (And.intro @D_append (And.intro @D_apref (And.intro @D_copy (And.intro @D_min (And.intro @D_max (And.intro @D_srange (And.intro @D_snext (And.intro @G_mov (And.intro @G_pick (And.intro @G_box (And.intro @G_build (And.intro @G_mklit (And.intro @G_mkref (And.intro @G_load (And.intro @G_store (And.intro @G_nilCheck (And.intro @G_bin (And.intro @G_eql (And.intro @G_not (And.intro @G_neg (And.intro @G_conv (And.intro @G_mkfun (And.intro @G_mkmap (And.intro @G_mkslice (And.intro @G_slicev (And.intro @G_slicea (And.intro @G_faddr (And.intro @G_field (And.intro @G_iaddr (And.intro @G_index (And.intro @G_sindex (And.intro @G_lookup (And.intro @G_mapset (And.intro @G_ext (And.intro @G_len (And.intro @G_append (And.intro @G_apref (And.intro @G_copy (And.intro @G_min (And.intro @G_max (And.intro @G_srange (@G_snext)))))))))))))))))))))))))))))))))))))))))))))))))))))))))))))))))))))))))
def QS := And.intro @S_mapL (And.intro @S_ints (And.intro @S_app (And.intro @S_mapI (And.intro @S_mapS (And.intro @S_int (And.intro @S_bool (And.intro @S_str (And.intro @S_nilPtr (And.intro @S_nilFunc (And.intro @S_ptr (And.intro @S_map (And.intro @S_nil (And.intro @S_cons (And.intro @S_tuple (And.intro @S_agg (And.intro @S_lit0 (And.intro @S_lit1 (And.intro @S_func (And.intro @O_map (@O_bind))))))))))))))))))))
def QR := And.intro @D_readsN (And.intro @D_readsC (And.intro @D_readN (@D_readC)))
def QT := And.intro @T_sr (And.intro @T_sr0 (And.intro @T_e0 (And.intro @T_e1 (And.intro @T_s0 (And.intro @T_s1 (And.intro @T_s2 (And.intro @T_w0 (And.intro @T_w1 (@q_get)))))))))
variable {T : FuncId → Option AFunc}
mutual
theorem okV_up {m : Nat} : ∀ v, okV 0 v → okV m v
 | .func _ first cap, h => ⟨okVs_up first h.1, okVs_up cap h.2⟩
 | .lptr xs _ _ tk, h => ⟨fun t e => absurd (h.1 t e) (by omega), okVs_up xs h.2⟩
 | .lit xs _ tk, h => ⟨fun t e => absurd (h.1 t e) (by omega), okVs_up xs h.2⟩
 | .agg cs, h => okVs_up cs h
 | .tuple vs, h => okVs_up vs h
 | .yield _, h | .ptr _ _, h | .ref _ _ _ _, h | .map _, h => absurd h (by simp [okV])
 | .undef, _ | .int _ _, _ | .bool _, _ | .str _, _ | .nilFunc, _ | .nilPtr, _ | .nilMap, _ => trivial
theorem okVs_up {m : Nat} : ∀ vs, okVs 0 vs → okVs m vs
 | [], _ => trivial
 | v :: vs, h => ⟨okV_up v h.1, okVs_up vs h.2⟩
end
theorem S_refK {σ : St} {m d id off len sz : Nat} (h : id < m) : snapM σ m d (.ref id off len sz) = some (.ref id off len sz) := by
 cases d <;> simp [snapM, snap, h, clr]
theorem okVs_app {m : Nat} : ∀ {xs ys : List AV}, okVs m xs → okVs m ys → okVs m (xs ++ ys)
 | [], _, _, h => h
 | x :: xs, ys, h, h2 => ⟨h.1, okVs_app h.2 h2⟩
end Go.Am
namespace Go.Am
theorem ints_def (l : List Int) : ints l = .lit (l.map (.int .i64)) false none := by simp only [ints]
theorem strs_def (l : List ByteArray) : strs l = .lit (l.map .str) false none := by simp only [strs]
def QC := And.intro @and_self (And.intro @and_true (And.intro @true_and (And.intro @true_or (And.intro @or_true (And.intro @ints_def (And.intro @strs_def (And.intro @decide_true (And.intro @decide_false (And.intro @Nat.lt_irrefl (And.intro @Nat.le_refl (And.intro @List.length_cons.{0} (And.intro @List.length_nil.{0} (And.intro @List.cons_append.{0} (And.intro @List.nil_append.{0} (And.intro @List.append_nil.{0} (And.intro @List.getElem?_cons_zero.{0} (And.intro @List.getElem?_cons_succ.{0} (And.intro @List.take_zero.{0} (And.intro @List.drop_zero.{0} (And.intro @List.take_succ_cons.{0} (And.intro @List.drop_succ_cons.{0} (And.intro @List.take_nil.{0} (And.intro @List.drop_nil.{0} (And.intro @List.set_cons_zero.{0} (And.intro @List.set_cons_succ.{0} (And.intro @List.length_map.{0, 0} (And.intro @Bool.and_true (And.intro @Bool.true_and (And.intro @Bool.and_self (And.intro @Bool.not_true (And.intro @Bool.not_false (And.intro @beq_self_eq_true.{0} (And.intro @Nat.zero_add (And.intro @implies_true.{0} (And.intro @implies_true.{1} (And.intro @forall_const.{0} (And.intro @forall_const.{1} (And.intro @ne_eq.{1} (And.intro @not_false_eq_true (@not_true_eq_false))))))))))))))))))))))))))))))))))))))))
def QA := And.intro QP QD
def QB := And.intro QR (And.intro QV (And.intro QS QC))
def QE := And.intro QT (And.intro QS (And.intro @q_get (And.intro @List.length_append.{0} (And.intro @Nat.le_add_right QC))))
class Dat (v : AV) : Prop where
 h : Data v
class Dats (vs : List AV) : Prop where
 h : Datas vs
theorem dd {vs : List AV} [k : Dats vs] : Datas vs := k.h
instance : Dats [] := ⟨datas_nil⟩
instance {v : AV} {vs : List AV} [a : Dat v] [b : Dats vs] : Dats (v :: vs) := ⟨datas_cons a.h b.h⟩
instance (k : IntKind) (n : Int) : Dat (.int k n) := ⟨data_int k n⟩
instance (b : Bool) : Dat (.bool b) := ⟨data_bool b⟩
instance (s : ByteArray) : Dat (.str s) := ⟨data_str s⟩
instance (l : List Int) : Dat (ints l) := ⟨data_ints l⟩
instance (l : List ByteArray) : Dat (strs l) := ⟨data_strs l⟩
instance (s : Span) : Dat (encSpan s) := ⟨data_span s⟩
instance {cs : List AV} [a : Dats cs] : Dat (.agg cs) := ⟨data_agg a.h⟩
instance {cs : List AV} [a : Dats cs] : Dat (.tuple cs) := ⟨data_tuple a.h⟩
instance {cs : List AV} [a : Dats cs] : Dat (.lit cs false none) := ⟨data_lit a.h⟩
instance (k : IntKind) (l : List Int) : Dats (l.map (.int k)) := ⟨datas_map (data_int k) l⟩
end Go.Am
namespace Go.Am.Room
def inR (n lo hi : Int) : Bool := decide (lo ≤ n) && decide (n ≤ hi)
def ends (s : Span) (lo hi : Int) : Int := if !inR s.lo lo hi || !inR s.hi lo hi then 7 else if s.hi < s.lo then 2 else 0
def join (s : Span) (n : Int) : Span := ⟨min s.lo n, max s.hi n⟩
def less : List Int → List Int → Bool
 | _, [] => false
 | [], _ :: _ => true
 | a :: az, b :: bs => if a = b then less az bs else decide (a < b)
theorem less_step {a b : List Int} {k : Nat} (ha : k < a.length) (hb : k < b.length) (h : a[k] = b[k]) : less (a.drop (k + 1)) (b.drop (k + 1)) = less (a.drop k) (b.drop k) := by
 rw [List.drop_eq_getElem_cons ha, List.drop_eq_getElem_cons hb]; simp [less, h]
theorem less_ok (a b : List Int) (ha : a.length < 9223372036854775808) (hb : b.length < 9223372036854775808) : Pure T 79 [ints a, ints b] (.bool (less a b)) := by
 refine pure_fn (af := a79) rfl (by simp [a79]) dd ?_
 (repeat (first | simp only [↓QA, QB, Nat.reduceLT, reduceIte, Nat.reduceEqDiff, Nat.reduceAdd, Nat.reduceLeDiff, Nat.reduceMul, Nat.reduceBEq, a79] | refine rd0 rfl ?_))
 refine loopE (S := Nat) 0 (fun k => k ≤ a.length ∧ k ≤ b.length ∧ less (a.drop k) (b.drop k) = less a b) (fun k => a.length - k) (fun k => [(0, ints a), (1, ints b), (5, .int .i64 k)]) (fun _ => []) ⟨Nat.zero_le _, Nat.zero_le _, rfl⟩ rfl ?_ fun k hk => ?_
 ·try simp only [TrimX, QE, Nat.reduceLT, reduceIte, Nat.reduceEqDiff, Nat.reduceAdd, Nat.reduceLeDiff, Nat.reduceMul, Nat.reduceBEq]
  try simp
 ·obtain ⟨hka, hkb, hl⟩ := hk
  (repeat (first | simp only [↓QA, QB, Nat.reduceLT, reduceIte, Nat.reduceEqDiff, Nat.reduceAdd, Nat.reduceLeDiff, Nat.reduceMul, Nat.reduceBEq, L79_0] | refine rd0 rfl ?_))
  by_cases h1 : k < a.length
  ·have g1 : decide ((k : Int) < a.length) = true := by simpa using h1
   by_cases h2 : k < b.length
   ·have g2 : decide ((k : Int) < b.length) = true := by simpa using h2
    (repeat (first | simp only [↓QA, QB, Nat.reduceLT, reduceIte, Nat.reduceEqDiff, Nat.reduceAdd, Nat.reduceLeDiff, Nat.reduceMul, Nat.reduceBEq, g1, g2, h1, h2] | refine rd0 rfl ?_))
    refine iteP_intro (fun h3 => ?_) fun h3 => ?_
    ·have h3' : a[k] = b[k] := by simpa using h3
     (repeat (first | simp only [↓QA, QB, Nat.reduceLT, reduceIte, Nat.reduceEqDiff, Nat.reduceAdd, Nat.reduceLeDiff, Nat.reduceMul, Nat.reduceBEq, h3] | refine rd0 rfl ?_))
     refine ⟨k + 1, ⟨by omega, by omega, (less_step h1 h2 h3').trans hl⟩, by omega, ?_⟩
     try simp only [TrimX, QE, Nat.reduceLT, reduceIte, Nat.reduceEqDiff, Nat.reduceAdd, Nat.reduceLeDiff, Nat.reduceMul, Nat.reduceBEq, wrapN h1 ha]
    ·have h3' : a[k] ≠ b[k] := by simpa using h3
     have e1 : ((k : Int) == b.length) = false := by simp; omega
     have e2 : ((k : Int) == a.length) = false := by simp; omega
     (repeat (first | simp only [↓QA, QB, Nat.reduceLT, reduceIte, Nat.reduceEqDiff, Nat.reduceAdd, Nat.reduceLeDiff, Nat.reduceMul, Nat.reduceBEq, h3, e1, e2, h1, h2] | refine rd0 rfl ?_))
     rw [← hl, List.drop_eq_getElem_cons h1, List.drop_eq_getElem_cons h2]
     simp [less, h3']
   ·have hkb' : k = b.length := by omega
    have g2 : decide ((k : Int) < b.length) = false := by simp; omega
    have e1 : ((k : Int) == b.length) = true := by simp; omega
    (repeat (first | simp only [↓QA, QB, Nat.reduceLT, reduceIte, Nat.reduceEqDiff, Nat.reduceAdd, Nat.reduceLeDiff, Nat.reduceMul, Nat.reduceBEq, g1, g2, e1] | refine rd0 rfl ?_))
    rw [← hl, hkb', List.drop_length]
    cases List.drop b.length a <;> simp [less]
  ·have g1 : decide ((k : Int) < a.length) = false := by simp; omega
   have e2 : ((k : Int) == a.length) = true := by simp; omega
   have hka' : k = a.length := by omega
   (repeat (first | simp only [↓QA, QB, Nat.reduceLT, reduceIte, Nat.reduceEqDiff, Nat.reduceAdd, Nat.reduceLeDiff, Nat.reduceMul, Nat.reduceBEq, g1] | refine rd0 rfl ?_))
   refine iteP_intro (fun h3 => ?_) fun h3 => ?_
   ·have h3' : k = b.length := by simp at h3; omega
    (repeat (first | simp only [↓QA, QB, Nat.reduceLT, reduceIte, Nat.reduceEqDiff, Nat.reduceAdd, Nat.reduceLeDiff, Nat.reduceMul, Nat.reduceBEq] | refine rd0 rfl ?_))
    rw [← hl, h3', List.drop_length]
    cases List.drop b.length a <;> simp [less]
   ·have h3' : k < b.length := by simp at h3; omega
    (repeat (first | simp only [↓QA, QB, Nat.reduceLT, reduceIte, Nat.reduceEqDiff, Nat.reduceAdd, Nat.reduceLeDiff, Nat.reduceMul, Nat.reduceBEq, h3, e2] | refine rd0 rfl ?_))
    rw [← hl, hka', List.drop_length, List.drop_eq_getElem_cons (by omega)]
    simp [less]
theorem less_irr : ∀ a, less a a = false
 | [] => rfl
 | a :: az => by simp [less, less_irr az]
theorem less_tri : ∀ a b, less a b = false → less b a = false → a = b
 | [], [], _, _ => rfl
 | [], b :: bs, h, _ => by simp [less] at h
 | a :: az, [], _, h => by simp [less] at h
 | a :: az, b :: bs, h1, h2 => by
  by_cases hab : a = b
  ·subst hab
   simp [less] at h1 h2
   rw [less_tri az bs h1 h2]
  ·simp [less, hab, Ne.symm hab] at h1 h2
   omega
theorem ints_ok (a b : List Int) (ha : a.length < 9223372036854775808) (hb : b.length < 9223372036854775808) : Pure T 21 [ints a, ints b] (.bool (decide (a = b))) := by
 refine pure_fn (af := a21) rfl (by simp [a21]) dd ?_
 (repeat (first | simp only [↓QA, QB, Nat.reduceLT, reduceIte, Nat.reduceEqDiff, Nat.reduceAdd, Nat.reduceLeDiff, Nat.reduceMul, Nat.reduceBEq, a21] | refine rd0 rfl ?_))
 refine iteP_intro (fun h => ?_) fun h => ?_
 ·(repeat (first | simp only [↓QA, QB, Nat.reduceLT, reduceIte, Nat.reduceEqDiff, Nat.reduceAdd, Nat.reduceLeDiff, Nat.reduceMul, Nat.reduceBEq, h] | refine rd0 rfl ?_))
  refine callK_d (less_ok a b ha hb) rfl dd ?_
  (repeat (first | simp only [↓QA, QB, Nat.reduceLT, reduceIte, Nat.reduceEqDiff, Nat.reduceAdd, Nat.reduceLeDiff, Nat.reduceMul, Nat.reduceBEq, h] | refine rd0 rfl ?_))
  cases h1 : less a b
  ·(repeat (first | simp only [↓QA, QB, Nat.reduceLT, reduceIte, Nat.reduceEqDiff, Nat.reduceAdd, Nat.reduceLeDiff, Nat.reduceMul, Nat.reduceBEq, h] | refine rd0 rfl ?_))
   refine callK_d (less_ok b a hb ha) rfl dd ?_
   (repeat (first | simp only [↓QA, QB, Nat.reduceLT, reduceIte, Nat.reduceEqDiff, Nat.reduceAdd, Nat.reduceLeDiff, Nat.reduceMul, Nat.reduceBEq, h] | refine rd0 rfl ?_))
   cases h2 : less b a
   ·rw [less_tri a b h1 h2]; simp
   ·have : a ≠ b := by rintro rfl; rw [less_irr] at h2; cases h2
    simp [this]
  ·have : a ≠ b := by rintro rfl; rw [less_irr] at h1; cases h1
   (repeat (first | simp only [↓QA, QB, Nat.reduceLT, reduceIte, Nat.reduceEqDiff, Nat.reduceAdd, Nat.reduceLeDiff, Nat.reduceMul, Nat.reduceBEq, h] | refine rd0 rfl ?_))
   simp [this]
 ·have : a ≠ b := by rintro rfl; simp at h
  (repeat (first | simp only [↓QA, QB, Nat.reduceLT, reduceIte, Nat.reduceEqDiff, Nat.reduceAdd, Nat.reduceLeDiff, Nat.reduceMul, Nat.reduceBEq, h] | refine rd0 rfl ?_))
  simp [this]
def fewer (a b : List Int) : Bool := if a.length = b.length then less a b else decide (a.length < b.length)
theorem str_beq (a b : ByteArray) : (a.toList == b.toList) = decide (a = b) := by
 rw [Bool.eq_iff_iff]; simp
 constructor
 ·intro h; rw [Go.Lib.toList_data, Go.Lib.toList_data] at h; exact ByteArray.ext (Array.toList_inj.1 h)
 ·rintro rfl; rfl
def ahead (s : ByteArray) : List ByteArray → Nat
 | [] => 0
 | x :: xs => if x = s then 0 else ahead s xs + 1
def okByte (i : Nat) (b : Int) : Bool := inR b 97 122 || (decide (0 < i) && (b == 46 || inR b 48 57))
def okUpTo (s : ByteArray) : Nat → Bool
 | 0 => true
 | k + 1 => okUpTo s k && okByte k (byteAt s k)
def nameOk (s : ByteArray) : Bool := inR s.size 1 16 && okUpTo s s.size
def fresh (s : ByteArray) (before : List ByteArray) : Int := if nameOk s = false then 6 else if ahead s before = before.length then 0 else 5
def numbers (a : Int) : Nat → List Int
 | 0 => []
 | n + 1 => a :: numbers (a + 1) n
theorem numbers_len : ∀ n a, (numbers a n).length = n
 | 0, _ => rfl
 | n + 1, a => by simp [numbers, numbers_len n]
theorem numbers_mem : ∀ n a x, x ∈ numbers a n ↔ a ≤ x ∧ x < a + n
 | 0, a, x => by simp [numbers]
 | n + 1, a, x => by simp [numbers, numbers_mem n]; omega
def least (i : Nat) (c : List Int) : Int := if 0 < i then (c[i - 1]?).getD 0 + 1 else 0
def nexts (below i : Nat) (c : List Int) : List (List Int) := (numbers (least i c) ((below : Int) - least i c).toNat).map fun n => c ++ [n]
def choices (below : Nat) : Nat → List (List Int)
 | 0 => [[]]
 | i + 1 => (choices below i).flatMap (nexts below i)
theorem choices_spec (below : Nat) : ∀ i c, c ∈ choices below i → c.length = i ∧ ∀ x ∈ c, 0 ≤ x ∧ x < below
 | 0, c, h => by simp [choices] at h; subst h; simp
 | i + 1, c, h => by
  simp only [choices, List.mem_flatMap] at h
  obtain ⟨d, h1, h2⟩ := h
  obtain ⟨q1, q2⟩ := choices_spec below i d h1
  simp only [nexts, List.mem_map, numbers_mem] at h2
  obtain ⟨n, h3, rfl⟩ := h2
  refine ⟨by simp [q1], fun x hx => ?_⟩
  rcases List.mem_append.1 hx with hx | hx
  ·exact q2 x hx
  ·simp at hx
   subst hx
   have : 0 ≤ least i d := by
    unfold least
    split
    ·rename_i hi
     have hlt : i - 1 < d.length := by omega
     have := q2 d[i - 1] (List.getElem_mem hlt)
     simp [hlt]
     omega
    ·omega
   omega
theorem less_trans : ∀ {a b c : List Int}, less a b = true → less b c = true → less a c = true
 | a, b, [], h1, h2 => by cases b <;> simp [less] at h2
 | a, [], c :: cs, h1, h2 => by cases a <;> simp [less] at h1
 | [], b :: bs, c :: cs, h1, h2 => by simp [less]
 | a :: az, b :: bs, c :: cs, h1, h2 => by
  simp only [less] at *
  by_cases hab : a = b
  ·subst hab
   by_cases hac : a = c
   ·subst hac
    simp only [if_true] at *
    exact less_trans h1 h2
   ·simp only [hac, if_false, if_true] at *
    exact h2
  ·by_cases hbc : b = c
   ·subst hbc
    simp only [hab, if_false, if_true, decide_eq_true_eq] at *
    exact h1
   ·simp only [hab, hbc, if_false, decide_eq_true_eq] at *
    rw [if_neg (by omega)]
    simp; omega
theorem fewer_irr (a : List Int) : fewer a a = false := by simp [fewer, less_irr]
theorem fewer_trans {a b c : List Int} (h1 : fewer a b = true) (h2 : fewer b c = true) : fewer a c = true := by
 simp only [fewer] at *
 by_cases e1 : a.length = b.length <;> by_cases e2 : b.length = c.length
 ·simp only [e1, e2, if_true] at *; exact less_trans h1 h2
 ·simp only [e1, e2, if_true, if_false, decide_eq_true_eq] at *; exact h2
 ·rw [if_neg e1] at h1; rw [if_neg (by omega)]; simp at h1 ⊢; omega
 ·simp only [e1, e2, if_false, decide_eq_true_eq] at *
  rw [if_neg (by omega)]; simp; omega
theorem fewer_tri {a b : List Int} (h1 : fewer a b = false) (h2 : fewer b a = false) : a = b := by
 simp only [fewer] at *
 by_cases e1 : a.length = b.length
 ·simp only [e1, if_true] at *
  exact less_tri a b h1 h2
 ·rw [if_neg e1] at h1; rw [if_neg (Ne.symm e1)] at h2
  simp at h1 h2; omega
theorem nfewer_trans {a b c : List Int} (h1 : fewer b a = false) (h2 : fewer c b = false) : fewer c a = false := by
 rw [Bool.eq_false_iff]
 intro h
 by_cases hab : fewer a b = true
 ·rw [fewer_trans h hab] at h2; cases h2
 ·have := fewer_tri (by simpa using hab) h1
  subst this
  rw [h] at h2; cases h2
def lst (n s : Nat) : List Int := (numbers 0 n).filter fun i => decide (s / 2 ^ i.toNat % 2 = 1)
theorem lst_in : ∀ n : Fin 7, ∀ s : Fin 64, s.val < 2 ^ n.val → lst n s ∈ choices n (lst n s).length := by decide +kernel
theorem in_lst : ∀ n m : Fin 7, ∀ c ∈ choices n m, ∃ s : Fin 64, s.val < 2 ^ n.val ∧ lst n s = c := by decide +kernel
theorem choices_sorted : ∀ n m : Fin 7, (choices n m).Pairwise fun a b => less a b = true := by decide +kernel
theorem choices_one : ∀ n : Fin 7, (choices n n).length = 1 := by decide +kernel
theorem lst_len (n s : Nat) : (lst n s).length ≤ n := by
 have := List.length_filter_le (fun i : Int => decide (s / 2 ^ i.toNat % 2 = 1)) (numbers 0 n)
 rw [numbers_len] at this
 exact this
def firstFrom (f : List Int → Bool) (n : Nat) : Nat → Nat → Option (List Int)
 | 0, _ => none
 | k + 1, m => match (choices n m).find? f with
  | some l => some l
  | none => firstFrom f n k (m + 1)
theorem all_contains : ∀ n : Fin 7, ∀ c ∈ choices n n, ∀ j : Fin 7, j.val < n.val → c.contains ((j.val : Nat) : Int) = true := by decide +kernel
def fewStep (f : List Int → Bool) (o : Option (List Int)) (l : List Int) : Option (List Int) := match o with
 | none => if f l = true then some l else none
 | some b => if fewer b l = true then some b else if f l = true then some l else some b
def fewFold (f : List Int → Bool) (n : Nat) : Nat → Nat → Option (List Int) → Option (List Int)
 | 0, _, o => o
 | k + 1, s, o => fewFold f n k (s + 1) (fewStep f o (lst n s))
theorem fewFold_spec (f : List Int → Bool) (n : Nat) : ∀ k s o, (∀ w, o = some w → f w = true ∧ ∃ t, t < s ∧ w = lst n t ∧ ∀ t', t' < s → f (lst n t') = true → fewer (lst n t') w = false) → (o = none → ∀ t, t < s → f (lst n t) = false) →
  (∀ w, fewFold f n k s o = some w → f w = true ∧ ∃ t, t < s + k ∧ w = lst n t ∧ ∀ t', t' < s + k → f (lst n t') = true → fewer (lst n t') w = false) ∧ (fewFold f n k s o = none → ∀ t, t < s + k → f (lst n t) = false)
 | 0, s, o, h1, h2 => ⟨h1, h2⟩
 | k + 1, s, o, h1, h2 => by
  have ih := fewFold_spec f n k (s + 1) (fewStep f o (lst n s))
  rw [show s + 1 + k = s + (k + 1) by omega] at ih
  simp only [fewFold]
  have last : ∀ (w : List Int) t', t' < s + 1 → (∀ t'', t'' < s → f (lst n t'') = true → fewer (lst n t'') w = false) → (f (lst n s) = true → fewer (lst n s) w = false) → f (lst n t') = true → fewer (lst n t') w = false := by
   intro w t' ht h3 h4 hs
   by_cases he : t' = s
   ·subst he; exact h4 hs
   ·exact h3 t' (by omega) hs
  refine ih (fun w hw => ?_) fun hn t ht => ?_
  ·cases o with
   | none =>
    simp only [fewStep] at hw
    split at hw
    ·rename_i hs
     simp only [Option.some.injEq] at hw
     subst hw
     refine ⟨hs, s, by omega, rfl, fun t' ht hst => last _ t' ht (fun t'' h4 h5 => by rw [h2 rfl t'' h4] at h5; cases h5) (fun _ => fewer_irr _) hst⟩
    ·cases hw
   | some b =>
    obtain ⟨q1, t, q2, q3, q4⟩ := h1 b rfl
    simp only [fewStep] at hw
    split at hw
    ·rename_i hf
     simp only [Option.some.injEq] at hw
     subst hw
     refine ⟨q1, t, by omega, q3, fun t' ht hst => last _ t' ht q4 (fun _ => ?_) hst⟩
     rw [Bool.eq_false_iff]
     intro h5
     have := fewer_trans hf h5
     rw [fewer_irr] at this; cases this
    ·rename_i hf
     split at hw
     ·rename_i hs
      simp only [Option.some.injEq] at hw
      subst hw
      refine ⟨hs, s, by omega, rfl, fun t' ht hst => last _ t' ht (fun t'' h4 h5 => ?_) (fun _ => fewer_irr _) hst⟩
      exact nfewer_trans (by simpa using hf) (q4 t'' h4 h5)
     ·rename_i hs
      simp only [Option.some.injEq] at hw
      subst hw
      exact ⟨q1, t, by omega, q3, fun t' ht hst => last _ t' ht q4 (fun h5 => absurd h5 hs) hst⟩
  ·cases o with
   | none =>
    simp only [fewStep] at hn
    split at hn
    ·cases hn
    ·rename_i hs
     by_cases he : t = s
     ·subst he; simpa using hs
     ·exact h2 rfl t (by omega)
   | some b =>
    simp only [fewStep] at hn
    split at hn
    ·cases hn
    ·split at hn <;> cases hn
theorem choices_le : ∀ {n i : Nat} {c : List Int}, c ∈ choices n i → i ≤ n := by
 intro n i
 cases i with
 | zero => intros; omega
 | succ i =>
  intro c hc
  simp only [choices, List.mem_flatMap, nexts, List.mem_map, numbers_mem] at hc
  obtain ⟨d, hd, x, hx, rfl⟩ := hc
  have key : ∀ j (d : List Int), d ∈ choices n j → (j : Int) ≤ least j d := by
   intro j
   induction j with
   | zero => intro d _; simp [least]
   | succ j ih =>
    intro d hd
    simp only [choices, List.mem_flatMap, nexts, List.mem_map, numbers_mem] at hd
    obtain ⟨d', hd', y, hy, rfl⟩ := hd
    have h5 := ih d' hd'
    have h6 := (choices_spec n j d' hd').1
    simp only [least, Nat.succ_pos, if_true, Nat.add_sub_cancel]
    rw [List.getElem?_append_right (by omega), h6, Nat.sub_self]
    simp only [List.getElem?_cons_zero, Option.getD_some]
    omega
  have := key i d hd
  omega
theorem firstFrom_spec (f : List Int → Bool) (n : Nat) (hN : n ≤ 6) : ∀ k m, (∀ m', m' < m → ∀ c ∈ choices n m', f c = false) →
  (∀ l, firstFrom f n k m = some l → l ∈ choices n l.length ∧ f l = true ∧ ∀ m', ∀ c ∈ choices n m', f c = true → fewer c l = false) ∧ (firstFrom f n k m = none → ∀ m', m' < m + k → ∀ c ∈ choices n m', f c = false)
 | 0, m, hlow => ⟨fun l h => by simp [firstFrom] at h, fun _ m' h c hc => hlow m' (by omega) c hc⟩
 | k + 1, m, hlow => by
  simp only [firstFrom]
  cases hf : (choices n m).find? f with
  | none =>
   simp only
   have ih := firstFrom_spec f n hN k (m + 1) fun m' hm' c hc => by
    by_cases he : m' = m
    ·subst he
     rw [List.find?_eq_none] at hf
     simpa using hf c hc
    ·exact hlow m' (by omega) c hc
   exact ⟨ih.1, fun h m' hm' => ih.2 h m' (by omega)⟩
  | some l =>
   simp only
   refine ⟨fun l' h => ?_, fun h => by cases h⟩
   cases h
   have hmem := List.mem_of_find?_eq_some hf
   have hs := List.find?_some hf
   have hlen := (choices_spec _ _ _ hmem).1
   rw [hlen]
   refine ⟨hmem, hs, fun m' c hc hsc => ?_⟩
   have hcl := (choices_spec _ _ _ hc).1
   by_cases h1 : m' < m
   ·rw [hlow m' h1 c hc] at hsc; cases hsc
   ·by_cases he : m' = m
    ·subst he
     rw [Bool.eq_false_iff]
     intro hlt
     simp only [fewer, hcl, hlen, if_true] at hlt
     obtain ⟨pre, post, e1, e2⟩ := (List.find?_eq_some_iff_append.1 hf).2
     have hmn := choices_le hmem
     have hpw := choices_sorted ⟨n, by omega⟩ ⟨m', by omega⟩
     simp only at hpw
     rw [e1] at hc hpw
     rcases List.mem_append.1 hc with hc | hc
     ·have := e2 c hc
      rw [hsc] at this; cases this
     ·rcases List.mem_cons.1 hc with rfl | hc
      ·rw [less_irr] at hlt; cases hlt
      ·have := (List.pairwise_append.1 hpw).2.1
       have := (List.pairwise_cons.1 this).1 c hc
       have h3 := less_trans hlt this
       rw [less_irr] at h3; cases h3
    ·simp only [fewer]; rw [if_neg (by omega)]; simp; omega
theorem few_eq (f : List Int → Bool) (n : Nat) (hN : n ≤ 6) : fewFold f n (2 ^ n) 0 none = firstFrom f n (n + 1) 0 := by
 have hp : 2 ^ n ≤ 2 ^ 6 := Nat.pow_le_pow_right (by omega) hN
 obtain ⟨w1, w2⟩ := firstFrom_spec f n hN (n + 1) 0 (fun m' h => by omega)
 obtain ⟨s1, s2⟩ := fewFold_spec f n (2 ^ n) 0 none (fun w h => by cases h) (fun _ t h => by omega)
 rw [Nat.zero_add] at s1 s2
 cases hf : fewFold f n (2 ^ n) 0 none with
 | none =>
  cases hg : firstFrom f n (n + 1) 0 with
  | none => rfl
  | some l =>
   obtain ⟨a, b, c⟩ := w1 l hg
   have hle := choices_le a
   obtain ⟨t, ht, hlt⟩ := in_lst ⟨n, by omega⟩ ⟨l.length, by omega⟩ l a
   have := s2 hf t.val ht
   rw [show lst n t.val = l from hlt, b] at this; cases this
 | some w =>
  obtain ⟨q1, t', q2, q3, q4⟩ := s1 w hf
  have hin := lst_in ⟨n, by omega⟩ ⟨t', by omega⟩ q2
  simp only at hin
  rw [← q3] at hin
  have hle : w.length ≤ n := by rw [q3]; exact lst_len _ _
  cases hg : firstFrom f n (n + 1) 0 with
  | none =>
   have := w2 hg w.length (by omega) w hin
   rw [q1] at this; cases this
  | some l =>
   obtain ⟨a, b, c⟩ := w1 l hg
   have hll := choices_le a
   obtain ⟨t, ht, hlt⟩ := in_lst ⟨n, by omega⟩ ⟨l.length, by omega⟩ l a
   have a1 := q4 t.val ht (by rw [show lst n t.val = l from hlt]; exact b)
   rw [show lst n t.val = l from hlt] at a1
   have a2 := c w.length w hin q1
   rw [fewer_tri a1 a2]
def firstBad {α : Type} (f : Nat → α → Int) : List α → Nat → Option (Nat × Int)
 | [], _ => none
 | x :: xs, i => if f i x = 0 then firstBad f xs (i + 1) else some (i, f i x)
theorem firstBad_step {α : Type} {f : Nat → α → Int} {l : List α} {k : Nat} (h : k < l.length) : firstBad f (l.drop k) k = if f k l[k] = 0 then firstBad f (l.drop (k + 1)) (k + 1) else some (k, f k l[k]) := by
 rw [List.drop_eq_getElem_cons h]; rfl
theorem firstBad_end {α : Type} {f : Nat → α → Int} {l : List α} {k : Nat} (h : k = l.length) : firstBad f (l.drop k) k = none := by
 rw [h, List.drop_length]; rfl
def spanL : List Int → Span
 | [] => ⟨0, 0⟩
 | x :: xs => xs.foldl join ⟨x, x⟩
def settled (yes all : Nat) : Int := if yes = all then 1 else if yes = 0 then 2 else 0
theorem inR_iff {n lo hi : Int} : inR n lo hi = true ↔ lo ≤ n ∧ n ≤ hi := by simp [inR]
theorem ends_zero {s : Span} {lo hi : Int} (h : ends s lo hi = 0) : lo ≤ s.lo ∧ s.lo ≤ s.hi ∧ s.hi ≤ hi := by
 unfold ends at h
 split at h
 ·omega
 ·rename_i h1
  split at h
  ·omega
  ·simp [inR] at h1; omega
theorem firstBad_all {α : Type} {f : Nat → α → Int} : ∀ {l : List α} {i : Nat}, firstBad f l i = none → ∀ k (h : k < l.length), f (i + k) l[k] = 0
 | [], _, _, k, h => by simp at h
 | x :: xs, i, h, k, hk => by
  simp only [firstBad] at h
  split at h
  ·rename_i h0
   cases k with
   | zero => exact h0
   | succ k =>
    have := firstBad_all h k (by simpa using hk)
    simpa [Nat.add_assoc, Nat.add_comm 1 k] using this
  ·cases h
theorem firstBad_nz {α : Type} {f : Nat → α → Int} : ∀ {l : List α} {i j : Nat} {e : Int}, firstBad f l i = some (j, e) → e ≠ 0
 | [], _, _, _, h => by cases h
 | x :: xs, i, j, e, h => by
  simp only [firstBad] at h
  split at h
  ·exact firstBad_nz h
  ·rename_i hn
   simp at h
   rw [← h.2]
   exact hn
end Go.Am.Room
