/-
  No cell of these rows narrows 'for every input' (looked for: loops, veiled, ifaces, maps, wideKeys, modest, calm, conditions, laid).
  DERIVED. THE GIVEN ROWS OF THIS SEAT. 13 by the template 'for every input the law returns true; each argument reads behind the call as it read before'; 0 by the template 'total and deterministic' (their statements: YtajhifmlmhmelaaTotals.lean).
  GIVEN WITH THE SEED: the statements are not yours to turn. If you find one false, say at which input.
  Laid BY PROGRAM, IN A SANDBOX (cutbox-rows.mjs): the forced cells as the released guide's own fill.sh prints them over the translation ddf2e1e5b9335de2… (all of the seat's roots in one cut). By AI agents, Wed Nov 11 2026. No macro, syntax, notation, axiom, sorry.
-/
import Derived.Test.YtajhifmlmhmelaaChecked
import GoSem.Claim
import GoSem.ClaimJoined
import GoSem.ClaimMapViews
import Derived.JoinedTies
import Derived.KernelRfl
namespace Go.Proofs.Ytajhifmlmhmelaa
/- THE CELL 'sum', in the pinned program and in every row, IS THE sha256 OF THE DUMP (.gsa) THAT YtajhifmlmhmelaaProg.lean LOADS. Nothing in Lean hashes anything: it is a label: what it is worth is what the hold of that sum in a sandbox is worth. -/
noncomputable def Try.pinned : Pinned := { name := "ytajhifmlmhmelaa", sum := "ddf2e1e5b9335de253fe587936ba25d5981edc202fe102b36385e016ecb5d607", checked := Try.checked }
namespace Rows
def none {H : Type} : Left H := { results := [], args := [] }

/-- 'ratoonlaw06.HoldMarks': WHATEVER THE INPUT: true; the input reads as it did. -/
def holdMarksSpec : ChangeSpec := { name := "holdMarks", fn := fun _ => fun
  | [d1, d2, d3] => { results := [.lit (.bool true)], args := [d1, d2, d3] }
  | _ => none }
def holdMarksRow : OpenClaim := { program := "ytajhifmlmhmelaa", sum := "ddf2e1e5b9335de253fe587936ba25d5981edc202fe102b36385e016ecb5d607", func := "ratoon/ratoonlaw06.HoldMarks", spec := "holdMarks", unfollowed := true, recurses := true, plainKeys := false, apart := false }
def HoldMarksSaid : Prop := holdMarksRow.holds Try.pinned (OpenSpec.ofChange holdMarksSpec)

/-- ITS FALSE NEIGHBOUR: 'it returns false'. Refute it at one input. -/
def holdMarksWrong : ChangeSpec := { name := "holdMarks", fn := fun _ => fun
  | [d1, d2, d3] => { results := [.lit (.bool false)], args := [d1, d2, d3] }
  | _ => none }
def HoldMarksWrongFalsely : Prop := holdMarksRow.holds Try.pinned (OpenSpec.ofChange holdMarksWrong)

/-- 'ratoonlaw06.HoldReaches': WHATEVER THE INPUT: true; the input reads as it did. -/
def holdReachesSpec : ChangeSpec := { name := "holdReaches", fn := fun _ => fun
  | [d1, d2, d3] => { results := [.lit (.bool true)], args := [d1, d2, d3] }
  | _ => none }
def holdReachesRow : OpenClaim := { program := "ytajhifmlmhmelaa", sum := "ddf2e1e5b9335de253fe587936ba25d5981edc202fe102b36385e016ecb5d607", func := "ratoon/ratoonlaw06.HoldReaches", spec := "holdReaches", unfollowed := true, recurses := true, plainKeys := false, apart := false }
def HoldReachesSaid : Prop := holdReachesRow.holds Try.pinned (OpenSpec.ofChange holdReachesSpec)

/-- ITS FALSE NEIGHBOUR: 'it returns false'. Refute it at one input. -/
def holdReachesWrong : ChangeSpec := { name := "holdReaches", fn := fun _ => fun
  | [d1, d2, d3] => { results := [.lit (.bool false)], args := [d1, d2, d3] }
  | _ => none }
def HoldReachesWrongFalsely : Prop := holdReachesRow.holds Try.pinned (OpenSpec.ofChange holdReachesWrong)

/-- 'ratoonlaw06.HoldKeeps': WHATEVER THE INPUT: true; the input reads as it did. -/
def holdKeepsSpec : ChangeSpec := { name := "holdKeeps", fn := fun _ => fun
  | [d1, d2] => { results := [.lit (.bool true)], args := [d1, d2] }
  | _ => none }
def holdKeepsRow : OpenClaim := { program := "ytajhifmlmhmelaa", sum := "ddf2e1e5b9335de253fe587936ba25d5981edc202fe102b36385e016ecb5d607", func := "ratoon/ratoonlaw06.HoldKeeps", spec := "holdKeeps", unfollowed := true, recurses := true, plainKeys := false, apart := false }
def HoldKeepsSaid : Prop := holdKeepsRow.holds Try.pinned (OpenSpec.ofChange holdKeepsSpec)

/-- ITS FALSE NEIGHBOUR: 'it returns false'. Refute it at one input. -/
def holdKeepsWrong : ChangeSpec := { name := "holdKeeps", fn := fun _ => fun
  | [d1, d2] => { results := [.lit (.bool false)], args := [d1, d2] }
  | _ => none }
def HoldKeepsWrongFalsely : Prop := holdKeepsRow.holds Try.pinned (OpenSpec.ofChange holdKeepsWrong)

/-- 'ratoonlaw06.HoldClears': WHATEVER THE INPUT: true; the input reads as it did. -/
def holdClearsSpec : ChangeSpec := { name := "holdClears", fn := fun _ => fun
  | [d] => { results := [.lit (.bool true)], args := [d] }
  | _ => none }
def holdClearsRow : OpenClaim := { program := "ytajhifmlmhmelaa", sum := "ddf2e1e5b9335de253fe587936ba25d5981edc202fe102b36385e016ecb5d607", func := "ratoon/ratoonlaw06.HoldClears", spec := "holdClears", unfollowed := true, recurses := true, plainKeys := false, apart := false }
def HoldClearsSaid : Prop := holdClearsRow.holds Try.pinned (OpenSpec.ofChange holdClearsSpec)

/-- ITS FALSE NEIGHBOUR: 'it returns false'. Refute it at one input. -/
def holdClearsWrong : ChangeSpec := { name := "holdClears", fn := fun _ => fun
  | [d] => { results := [.lit (.bool false)], args := [d] }
  | _ => none }
def HoldClearsWrongFalsely : Prop := holdClearsRow.holds Try.pinned (OpenSpec.ofChange holdClearsWrong)

/-- 'ratoonlaw06.HoldKnown': WHATEVER THE INPUT: true; the input reads as it did. -/
def holdKnownSpec : ChangeSpec := { name := "holdKnown", fn := fun _ => fun
  | [] => { results := [.lit (.bool true)], args := [] }
  | _ => none }
def holdKnownRow : OpenClaim := { program := "ytajhifmlmhmelaa", sum := "ddf2e1e5b9335de253fe587936ba25d5981edc202fe102b36385e016ecb5d607", func := "ratoon/ratoonlaw06.HoldKnown", spec := "holdKnown", unfollowed := true, recurses := true, plainKeys := false, apart := false }
def HoldKnownSaid : Prop := holdKnownRow.holds Try.pinned (OpenSpec.ofChange holdKnownSpec)

/-- ITS FALSE NEIGHBOUR: 'it returns false'. Refute it at one input. -/
def holdKnownWrong : ChangeSpec := { name := "holdKnown", fn := fun _ => fun
  | [] => { results := [.lit (.bool false)], args := [] }
  | _ => none }
def HoldKnownWrongFalsely : Prop := holdKnownRow.holds Try.pinned (OpenSpec.ofChange holdKnownWrong)

/-- 'ratoonlaw06.HoldTrue': WHATEVER THE INPUT: true; the input reads as it did. -/
def holdTrueSpec : ChangeSpec := { name := "holdTrue", fn := fun _ => fun
  | [d1, d2] => { results := [.lit (.bool true)], args := [d1, d2] }
  | _ => none }
def holdTrueRow : OpenClaim := { program := "ytajhifmlmhmelaa", sum := "ddf2e1e5b9335de253fe587936ba25d5981edc202fe102b36385e016ecb5d607", func := "ratoon/ratoonlaw06.HoldTrue", spec := "holdTrue", unfollowed := true, recurses := true, plainKeys := false, apart := false }
def HoldTrueSaid : Prop := holdTrueRow.holds Try.pinned (OpenSpec.ofChange holdTrueSpec)

/-- ITS FALSE NEIGHBOUR: 'it returns false'. Refute it at one input. -/
def holdTrueWrong : ChangeSpec := { name := "holdTrue", fn := fun _ => fun
  | [d1, d2] => { results := [.lit (.bool false)], args := [d1, d2] }
  | _ => none }
def HoldTrueWrongFalsely : Prop := holdTrueRow.holds Try.pinned (OpenSpec.ofChange holdTrueWrong)

/-- 'ratoonlaw06.HoldCleared': WHATEVER THE INPUT: true; the input reads as it did. -/
def holdClearedSpec : ChangeSpec := { name := "holdCleared", fn := fun _ => fun
  | [d1, d2, d3] => { results := [.lit (.bool true)], args := [d1, d2, d3] }
  | _ => none }
def holdClearedRow : OpenClaim := { program := "ytajhifmlmhmelaa", sum := "ddf2e1e5b9335de253fe587936ba25d5981edc202fe102b36385e016ecb5d607", func := "ratoon/ratoonlaw06.HoldCleared", spec := "holdCleared", unfollowed := true, recurses := true, plainKeys := false, apart := false }
def HoldClearedSaid : Prop := holdClearedRow.holds Try.pinned (OpenSpec.ofChange holdClearedSpec)

/-- ITS FALSE NEIGHBOUR: 'it returns false'. Refute it at one input. -/
def holdClearedWrong : ChangeSpec := { name := "holdCleared", fn := fun _ => fun
  | [d1, d2, d3] => { results := [.lit (.bool false)], args := [d1, d2, d3] }
  | _ => none }
def HoldClearedWrongFalsely : Prop := holdClearedRow.holds Try.pinned (OpenSpec.ofChange holdClearedWrong)

/-- 'ratoonlaw06.HoldFewest': WHATEVER THE INPUT: true; the input reads as it did. -/
def holdFewestSpec : ChangeSpec := { name := "holdFewest", fn := fun _ => fun
  | [d1, d2] => { results := [.lit (.bool true)], args := [d1, d2] }
  | _ => none }
def holdFewestRow : OpenClaim := { program := "ytajhifmlmhmelaa", sum := "ddf2e1e5b9335de253fe587936ba25d5981edc202fe102b36385e016ecb5d607", func := "ratoon/ratoonlaw06.HoldFewest", spec := "holdFewest", unfollowed := true, recurses := true, plainKeys := false, apart := false }
def HoldFewestSaid : Prop := holdFewestRow.holds Try.pinned (OpenSpec.ofChange holdFewestSpec)

/-- ITS FALSE NEIGHBOUR: 'it returns false'. Refute it at one input. -/
def holdFewestWrong : ChangeSpec := { name := "holdFewest", fn := fun _ => fun
  | [d1, d2] => { results := [.lit (.bool false)], args := [d1, d2] }
  | _ => none }
def HoldFewestWrongFalsely : Prop := holdFewestRow.holds Try.pinned (OpenSpec.ofChange holdFewestWrong)

/-- 'ratoonlaw06.HoldMore': WHATEVER THE INPUT: true; the input reads as it did. -/
def holdMoreSpec : ChangeSpec := { name := "holdMore", fn := fun _ => fun
  | [d1, d2, d3] => { results := [.lit (.bool true)], args := [d1, d2, d3] }
  | _ => none }
def holdMoreRow : OpenClaim := { program := "ytajhifmlmhmelaa", sum := "ddf2e1e5b9335de253fe587936ba25d5981edc202fe102b36385e016ecb5d607", func := "ratoon/ratoonlaw06.HoldMore", spec := "holdMore", unfollowed := true, recurses := true, plainKeys := false, apart := false }
def HoldMoreSaid : Prop := holdMoreRow.holds Try.pinned (OpenSpec.ofChange holdMoreSpec)

/-- ITS FALSE NEIGHBOUR: 'it returns false'. Refute it at one input. -/
def holdMoreWrong : ChangeSpec := { name := "holdMore", fn := fun _ => fun
  | [d1, d2, d3] => { results := [.lit (.bool false)], args := [d1, d2, d3] }
  | _ => none }
def HoldMoreWrongFalsely : Prop := holdMoreRow.holds Try.pinned (OpenSpec.ofChange holdMoreWrong)

/-- 'ratoonlaw06.HoldBehind': WHATEVER THE INPUT: true; the input reads as it did. -/
def holdBehindSpec : ChangeSpec := { name := "holdBehind", fn := fun _ => fun
  | [d1, d2] => { results := [.lit (.bool true)], args := [d1, d2] }
  | _ => none }
def holdBehindRow : OpenClaim := { program := "ytajhifmlmhmelaa", sum := "ddf2e1e5b9335de253fe587936ba25d5981edc202fe102b36385e016ecb5d607", func := "ratoon/ratoonlaw06.HoldBehind", spec := "holdBehind", unfollowed := true, recurses := true, plainKeys := false, apart := false }
def HoldBehindSaid : Prop := holdBehindRow.holds Try.pinned (OpenSpec.ofChange holdBehindSpec)

/-- ITS FALSE NEIGHBOUR: 'it returns false'. Refute it at one input. -/
def holdBehindWrong : ChangeSpec := { name := "holdBehind", fn := fun _ => fun
  | [d1, d2] => { results := [.lit (.bool false)], args := [d1, d2] }
  | _ => none }
def HoldBehindWrongFalsely : Prop := holdBehindRow.holds Try.pinned (OpenSpec.ofChange holdBehindWrong)

/-- 'ratoonlaw06.HoldTowards': WHATEVER THE INPUT: true; the input reads as it did. -/
def holdTowardsSpec : ChangeSpec := { name := "holdTowards", fn := fun _ => fun
  | [d1, d2] => { results := [.lit (.bool true)], args := [d1, d2] }
  | _ => none }
def holdTowardsRow : OpenClaim := { program := "ytajhifmlmhmelaa", sum := "ddf2e1e5b9335de253fe587936ba25d5981edc202fe102b36385e016ecb5d607", func := "ratoon/ratoonlaw06.HoldTowards", spec := "holdTowards", unfollowed := true, recurses := true, plainKeys := false, apart := false }
def HoldTowardsSaid : Prop := holdTowardsRow.holds Try.pinned (OpenSpec.ofChange holdTowardsSpec)

/-- ITS FALSE NEIGHBOUR: 'it returns false'. Refute it at one input. -/
def holdTowardsWrong : ChangeSpec := { name := "holdTowards", fn := fun _ => fun
  | [d1, d2] => { results := [.lit (.bool false)], args := [d1, d2] }
  | _ => none }
def HoldTowardsWrongFalsely : Prop := holdTowardsRow.holds Try.pinned (OpenSpec.ofChange holdTowardsWrong)

/-- 'ratoonlaw06.HoldWider': WHATEVER THE INPUT: true; the input reads as it did. -/
def holdWiderSpec : ChangeSpec := { name := "holdWider", fn := fun _ => fun
  | [d1, d2] => { results := [.lit (.bool true)], args := [d1, d2] }
  | _ => none }
def holdWiderRow : OpenClaim := { program := "ytajhifmlmhmelaa", sum := "ddf2e1e5b9335de253fe587936ba25d5981edc202fe102b36385e016ecb5d607", func := "ratoon/ratoonlaw06.HoldWider", spec := "holdWider", unfollowed := true, recurses := true, plainKeys := false, apart := false }
def HoldWiderSaid : Prop := holdWiderRow.holds Try.pinned (OpenSpec.ofChange holdWiderSpec)

/-- ITS FALSE NEIGHBOUR: 'it returns false'. Refute it at one input. -/
def holdWiderWrong : ChangeSpec := { name := "holdWider", fn := fun _ => fun
  | [d1, d2] => { results := [.lit (.bool false)], args := [d1, d2] }
  | _ => none }
def HoldWiderWrongFalsely : Prop := holdWiderRow.holds Try.pinned (OpenSpec.ofChange holdWiderWrong)

/-- 'ratoonlaw06.HoldFront': WHATEVER THE INPUT: true; the input reads as it did. -/
def holdFrontSpec : ChangeSpec := { name := "holdFront", fn := fun _ => fun
  | [d1, d2] => { results := [.lit (.bool true)], args := [d1, d2] }
  | _ => none }
def holdFrontRow : OpenClaim := { program := "ytajhifmlmhmelaa", sum := "ddf2e1e5b9335de253fe587936ba25d5981edc202fe102b36385e016ecb5d607", func := "ratoon/ratoonlaw06.HoldFront", spec := "holdFront", unfollowed := true, recurses := true, plainKeys := false, apart := false }
def HoldFrontSaid : Prop := holdFrontRow.holds Try.pinned (OpenSpec.ofChange holdFrontSpec)

/-- ITS FALSE NEIGHBOUR: 'it returns false'. Refute it at one input. -/
def holdFrontWrong : ChangeSpec := { name := "holdFront", fn := fun _ => fun
  | [d1, d2] => { results := [.lit (.bool false)], args := [d1, d2] }
  | _ => none }
def HoldFrontWrongFalsely : Prop := holdFrontRow.holds Try.pinned (OpenSpec.ofChange holdFrontWrong)

/- THE SECOND FORM. 'bulk': how many values and letters a reading holds, each counted each time it is reached (what is shared counts as often as it is met; a slice's spare places count too). A statement '..UptoSaid' is the law's where the arguments, and the package variables that the reading takes, are together of bulk at most 1048576: NARROWER than '..Said'. Prove '..Said' where nothing that the law and all that it calls make is longer than what came in: it says more and counts as full. Else prove '..UptoSaid'. A law counts once. -/
mutual
def uptoBulk {H : Type} : DataW H → Nat
  | .lit (.string bytes) => bytes.length + 1
  | .lit _ => 1
  | .nil => 1
  | .ptr d => uptoBulk d + 1
  | .slice elems spare => uptoBulkAll elems + uptoBulkAll spare + 1
  | .agg parts => uptoBulkAll parts + 1
  | .iface _ d => uptoBulk d + 1
  | .map entries => uptoBulkEntries entries + 1
  | .held _ => 1
def uptoBulkAll {H : Type} : List (DataW H) → Nat
  | [] => 0
  | d :: r => uptoBulk d + uptoBulkAll r
def uptoBulkEntries {H : Type} : List (Lit × DataW H) → Nat
  | [] => 0
  | x :: r => uptoBulkEntry x + uptoBulkEntries r
def uptoBulkEntry {H : Type} : Lit × DataW H → Nat
  | (.string bytes, d) => bytes.length + uptoBulk d + 1
  | (_, d) => uptoBulk d + 1
 end
def uptoSmall : (H : Type) → List (DataW H) → Bool := fun _ ds => decide (uptoBulkAll ds ≤ 1048576)
def OpenSpec.upto (s : _root_.Go.ChangeSpec) : _root_.Go.OpenSpec := { _root_.Go.OpenSpec.ofChange s with cond := some uptoSmall }

/-- 'ratoonlaw06.HoldMarks', WHERE WHAT IT READS IS OF BULK AT MOST 1048576: true; the input reads as it did. -/
def holdMarksUptoRow : OpenClaim := { program := "ytajhifmlmhmelaa", sum := "ddf2e1e5b9335de253fe587936ba25d5981edc202fe102b36385e016ecb5d607", func := "ratoon/ratoonlaw06.HoldMarks", spec := "holdMarks", unfollowed := true, recurses := true, plainKeys := false, apart := false, narrowed := true }
def HoldMarksUptoSaid : Prop := holdMarksUptoRow.holds Try.pinned (OpenSpec.upto holdMarksSpec)

/-- 'ratoonlaw06.HoldReaches', WHERE WHAT IT READS IS OF BULK AT MOST 1048576: true; the input reads as it did. -/
def holdReachesUptoRow : OpenClaim := { program := "ytajhifmlmhmelaa", sum := "ddf2e1e5b9335de253fe587936ba25d5981edc202fe102b36385e016ecb5d607", func := "ratoon/ratoonlaw06.HoldReaches", spec := "holdReaches", unfollowed := true, recurses := true, plainKeys := false, apart := false, narrowed := true }
def HoldReachesUptoSaid : Prop := holdReachesUptoRow.holds Try.pinned (OpenSpec.upto holdReachesSpec)

/-- 'ratoonlaw06.HoldKeeps', WHERE WHAT IT READS IS OF BULK AT MOST 1048576: true; the input reads as it did. -/
def holdKeepsUptoRow : OpenClaim := { program := "ytajhifmlmhmelaa", sum := "ddf2e1e5b9335de253fe587936ba25d5981edc202fe102b36385e016ecb5d607", func := "ratoon/ratoonlaw06.HoldKeeps", spec := "holdKeeps", unfollowed := true, recurses := true, plainKeys := false, apart := false, narrowed := true }
def HoldKeepsUptoSaid : Prop := holdKeepsUptoRow.holds Try.pinned (OpenSpec.upto holdKeepsSpec)

/-- 'ratoonlaw06.HoldClears', WHERE WHAT IT READS IS OF BULK AT MOST 1048576: true; the input reads as it did. -/
def holdClearsUptoRow : OpenClaim := { program := "ytajhifmlmhmelaa", sum := "ddf2e1e5b9335de253fe587936ba25d5981edc202fe102b36385e016ecb5d607", func := "ratoon/ratoonlaw06.HoldClears", spec := "holdClears", unfollowed := true, recurses := true, plainKeys := false, apart := false, narrowed := true }
def HoldClearsUptoSaid : Prop := holdClearsUptoRow.holds Try.pinned (OpenSpec.upto holdClearsSpec)

/-- 'ratoonlaw06.HoldKnown', WHERE WHAT IT READS IS OF BULK AT MOST 1048576: true; the input reads as it did. -/
def holdKnownUptoRow : OpenClaim := { program := "ytajhifmlmhmelaa", sum := "ddf2e1e5b9335de253fe587936ba25d5981edc202fe102b36385e016ecb5d607", func := "ratoon/ratoonlaw06.HoldKnown", spec := "holdKnown", unfollowed := true, recurses := true, plainKeys := false, apart := false, narrowed := true }
def HoldKnownUptoSaid : Prop := holdKnownUptoRow.holds Try.pinned (OpenSpec.upto holdKnownSpec)

/-- 'ratoonlaw06.HoldTrue', WHERE WHAT IT READS IS OF BULK AT MOST 1048576: true; the input reads as it did. -/
def holdTrueUptoRow : OpenClaim := { program := "ytajhifmlmhmelaa", sum := "ddf2e1e5b9335de253fe587936ba25d5981edc202fe102b36385e016ecb5d607", func := "ratoon/ratoonlaw06.HoldTrue", spec := "holdTrue", unfollowed := true, recurses := true, plainKeys := false, apart := false, narrowed := true }
def HoldTrueUptoSaid : Prop := holdTrueUptoRow.holds Try.pinned (OpenSpec.upto holdTrueSpec)

/-- 'ratoonlaw06.HoldCleared', WHERE WHAT IT READS IS OF BULK AT MOST 1048576: true; the input reads as it did. -/
def holdClearedUptoRow : OpenClaim := { program := "ytajhifmlmhmelaa", sum := "ddf2e1e5b9335de253fe587936ba25d5981edc202fe102b36385e016ecb5d607", func := "ratoon/ratoonlaw06.HoldCleared", spec := "holdCleared", unfollowed := true, recurses := true, plainKeys := false, apart := false, narrowed := true }
def HoldClearedUptoSaid : Prop := holdClearedUptoRow.holds Try.pinned (OpenSpec.upto holdClearedSpec)

/-- 'ratoonlaw06.HoldFewest', WHERE WHAT IT READS IS OF BULK AT MOST 1048576: true; the input reads as it did. -/
def holdFewestUptoRow : OpenClaim := { program := "ytajhifmlmhmelaa", sum := "ddf2e1e5b9335de253fe587936ba25d5981edc202fe102b36385e016ecb5d607", func := "ratoon/ratoonlaw06.HoldFewest", spec := "holdFewest", unfollowed := true, recurses := true, plainKeys := false, apart := false, narrowed := true }
def HoldFewestUptoSaid : Prop := holdFewestUptoRow.holds Try.pinned (OpenSpec.upto holdFewestSpec)

/-- 'ratoonlaw06.HoldMore', WHERE WHAT IT READS IS OF BULK AT MOST 1048576: true; the input reads as it did. -/
def holdMoreUptoRow : OpenClaim := { program := "ytajhifmlmhmelaa", sum := "ddf2e1e5b9335de253fe587936ba25d5981edc202fe102b36385e016ecb5d607", func := "ratoon/ratoonlaw06.HoldMore", spec := "holdMore", unfollowed := true, recurses := true, plainKeys := false, apart := false, narrowed := true }
def HoldMoreUptoSaid : Prop := holdMoreUptoRow.holds Try.pinned (OpenSpec.upto holdMoreSpec)

/-- 'ratoonlaw06.HoldBehind', WHERE WHAT IT READS IS OF BULK AT MOST 1048576: true; the input reads as it did. -/
def holdBehindUptoRow : OpenClaim := { program := "ytajhifmlmhmelaa", sum := "ddf2e1e5b9335de253fe587936ba25d5981edc202fe102b36385e016ecb5d607", func := "ratoon/ratoonlaw06.HoldBehind", spec := "holdBehind", unfollowed := true, recurses := true, plainKeys := false, apart := false, narrowed := true }
def HoldBehindUptoSaid : Prop := holdBehindUptoRow.holds Try.pinned (OpenSpec.upto holdBehindSpec)

/-- 'ratoonlaw06.HoldTowards', WHERE WHAT IT READS IS OF BULK AT MOST 1048576: true; the input reads as it did. -/
def holdTowardsUptoRow : OpenClaim := { program := "ytajhifmlmhmelaa", sum := "ddf2e1e5b9335de253fe587936ba25d5981edc202fe102b36385e016ecb5d607", func := "ratoon/ratoonlaw06.HoldTowards", spec := "holdTowards", unfollowed := true, recurses := true, plainKeys := false, apart := false, narrowed := true }
def HoldTowardsUptoSaid : Prop := holdTowardsUptoRow.holds Try.pinned (OpenSpec.upto holdTowardsSpec)

/-- 'ratoonlaw06.HoldWider', WHERE WHAT IT READS IS OF BULK AT MOST 1048576: true; the input reads as it did. -/
def holdWiderUptoRow : OpenClaim := { program := "ytajhifmlmhmelaa", sum := "ddf2e1e5b9335de253fe587936ba25d5981edc202fe102b36385e016ecb5d607", func := "ratoon/ratoonlaw06.HoldWider", spec := "holdWider", unfollowed := true, recurses := true, plainKeys := false, apart := false, narrowed := true }
def HoldWiderUptoSaid : Prop := holdWiderUptoRow.holds Try.pinned (OpenSpec.upto holdWiderSpec)

/-- 'ratoonlaw06.HoldFront', WHERE WHAT IT READS IS OF BULK AT MOST 1048576: true; the input reads as it did. -/
def holdFrontUptoRow : OpenClaim := { program := "ytajhifmlmhmelaa", sum := "ddf2e1e5b9335de253fe587936ba25d5981edc202fe102b36385e016ecb5d607", func := "ratoon/ratoonlaw06.HoldFront", spec := "holdFront", unfollowed := true, recurses := true, plainKeys := false, apart := false, narrowed := true }
def HoldFrontUptoSaid : Prop := holdFrontUptoRow.holds Try.pinned (OpenSpec.upto holdFrontSpec)

end Rows
end Go.Proofs.Ytajhifmlmhmelaa
