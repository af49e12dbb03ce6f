/-
  No cell of these rows narrows 'for every input' (looked for: loops, veiled, ifaces, maps, wideKeys, modest, calm, conditions, laid).
  DERIVED. THE GIVEN ROWS OF THIS SEAT. 13 by the template 'for every input the law returns true; each argument reads behind the call as it read before'; 0 by the template 'total and deterministic' (their statements: YtefifnlhfmfnlaaTotals.lean).
  GIVEN WITH THE SEED: the statements are not yours to turn. If you find one false, say at which input.
  Laid BY PROGRAM, IN A SANDBOX (cutbox-rows.mjs): the forced cells as the released guide's own fill.sh prints them over the translation 9f7f3b6273fbcfe6… (all of the seat's roots in one cut). By AI agents, Wed Nov 11 2026. No macro, syntax, notation, axiom, sorry.
-/
import Derived.Test.YtefifnlhfmfnlaaChecked
import GoSem.Claim
import GoSem.ClaimJoined
import GoSem.ClaimMapViews
import Derived.JoinedTies
import Derived.KernelRfl
namespace Go.Proofs.Ytefifnlhfmfnlaa
/- THE CELL 'sum', in the pinned program and in every row, IS THE sha256 OF THE DUMP (.gsa) THAT YtefifnlhfmfnlaaProg.lean LOADS. Nothing in Lean hashes anything: it is a label: what it is worth is what the hold of that sum in a sandbox is worth. -/
noncomputable def Try.pinned : Pinned := { name := "ytefifnlhfmfnlaa", sum := "9f7f3b6273fbcfe6d9c8b3665c578ef0fba8bfc352a2764e93f0501913990c8c", checked := Try.checked }
namespace Rows
def none {H : Type} : Left H := { results := [], args := [] }

/-- 'ratoonlaw10.DoorTurns': WHATEVER THE INPUT: true; the input reads as it did. -/
def doorTurnsSpec : ChangeSpec := { name := "doorTurns", fn := fun _ => fun
  | [d1, d2] => { results := [.lit (.bool true)], args := [d1, d2] }
  | _ => none }
def doorTurnsRow : OpenClaim := { program := "ytefifnlhfmfnlaa", sum := "9f7f3b6273fbcfe6d9c8b3665c578ef0fba8bfc352a2764e93f0501913990c8c", func := "ratoon/ratoonlaw10.DoorTurns", spec := "doorTurns", unfollowed := true, recurses := true, plainKeys := false, apart := false }
def DoorTurnsSaid : Prop := doorTurnsRow.holds Try.pinned (OpenSpec.ofChange doorTurnsSpec)

/-- ITS FALSE NEIGHBOUR: 'it returns false'. Refute it at one input. -/
def doorTurnsWrong : ChangeSpec := { name := "doorTurns", fn := fun _ => fun
  | [d1, d2] => { results := [.lit (.bool false)], args := [d1, d2] }
  | _ => none }
def DoorTurnsWrongFalsely : Prop := doorTurnsRow.holds Try.pinned (OpenSpec.ofChange doorTurnsWrong)

/-- 'ratoonlaw10.DoorWhoses': WHATEVER THE INPUT: true; the input reads as it did. -/
def doorWhosesSpec : ChangeSpec := { name := "doorWhoses", fn := fun _ => fun
  | [d1, d2] => { results := [.lit (.bool true)], args := [d1, d2] }
  | _ => none }
def doorWhosesRow : OpenClaim := { program := "ytefifnlhfmfnlaa", sum := "9f7f3b6273fbcfe6d9c8b3665c578ef0fba8bfc352a2764e93f0501913990c8c", func := "ratoon/ratoonlaw10.DoorWhoses", spec := "doorWhoses", unfollowed := true, recurses := true, plainKeys := false, apart := false }
def DoorWhosesSaid : Prop := doorWhosesRow.holds Try.pinned (OpenSpec.ofChange doorWhosesSpec)

/-- ITS FALSE NEIGHBOUR: 'it returns false'. Refute it at one input. -/
def doorWhosesWrong : ChangeSpec := { name := "doorWhoses", fn := fun _ => fun
  | [d1, d2] => { results := [.lit (.bool false)], args := [d1, d2] }
  | _ => none }
def DoorWhosesWrongFalsely : Prop := doorWhosesRow.holds Try.pinned (OpenSpec.ofChange doorWhosesWrong)

/-- 'ratoonlaw10.DoorOpens': WHATEVER THE INPUT: true; the input reads as it did. -/
def doorOpensSpec : ChangeSpec := { name := "doorOpens", fn := fun _ => fun
  | [d] => { results := [.lit (.bool true)], args := [d] }
  | _ => none }
def doorOpensRow : OpenClaim := { program := "ytefifnlhfmfnlaa", sum := "9f7f3b6273fbcfe6d9c8b3665c578ef0fba8bfc352a2764e93f0501913990c8c", func := "ratoon/ratoonlaw10.DoorOpens", spec := "doorOpens", unfollowed := true, recurses := true, plainKeys := false, apart := false }
def DoorOpensSaid : Prop := doorOpensRow.holds Try.pinned (OpenSpec.ofChange doorOpensSpec)

/-- ITS FALSE NEIGHBOUR: 'it returns false'. Refute it at one input. -/
def doorOpensWrong : ChangeSpec := { name := "doorOpens", fn := fun _ => fun
  | [d] => { results := [.lit (.bool false)], args := [d] }
  | _ => none }
def DoorOpensWrongFalsely : Prop := doorOpensRow.holds Try.pinned (OpenSpec.ofChange doorOpensWrong)

/-- 'ratoonlaw10.DoorSplits': WHATEVER THE INPUT: true; the input reads as it did. -/
def doorSplitsSpec : ChangeSpec := { name := "doorSplits", fn := fun _ => fun
  | [d1, d2] => { results := [.lit (.bool true)], args := [d1, d2] }
  | _ => none }
def doorSplitsRow : OpenClaim := { program := "ytefifnlhfmfnlaa", sum := "9f7f3b6273fbcfe6d9c8b3665c578ef0fba8bfc352a2764e93f0501913990c8c", func := "ratoon/ratoonlaw10.DoorSplits", spec := "doorSplits", unfollowed := true, recurses := true, plainKeys := false, apart := false }
def DoorSplitsSaid : Prop := doorSplitsRow.holds Try.pinned (OpenSpec.ofChange doorSplitsSpec)

/-- ITS FALSE NEIGHBOUR: 'it returns false'. Refute it at one input. -/
def doorSplitsWrong : ChangeSpec := { name := "doorSplits", fn := fun _ => fun
  | [d1, d2] => { results := [.lit (.bool false)], args := [d1, d2] }
  | _ => none }
def DoorSplitsWrongFalsely : Prop := doorSplitsRow.holds Try.pinned (OpenSpec.ofChange doorSplitsWrong)

/-- 'ratoonlaw10.DoorKnown': WHATEVER THE INPUT: true; the input reads as it did. -/
def doorKnownSpec : ChangeSpec := { name := "doorKnown", fn := fun _ => fun
  | [] => { results := [.lit (.bool true)], args := [] }
  | _ => none }
def doorKnownRow : OpenClaim := { program := "ytefifnlhfmfnlaa", sum := "9f7f3b6273fbcfe6d9c8b3665c578ef0fba8bfc352a2764e93f0501913990c8c", func := "ratoon/ratoonlaw10.DoorKnown", spec := "doorKnown", unfollowed := true, recurses := true, plainKeys := false, apart := false }
def DoorKnownSaid : Prop := doorKnownRow.holds Try.pinned (OpenSpec.ofChange doorKnownSpec)

/-- ITS FALSE NEIGHBOUR: 'it returns false'. Refute it at one input. -/
def doorKnownWrong : ChangeSpec := { name := "doorKnown", fn := fun _ => fun
  | [] => { results := [.lit (.bool false)], args := [] }
  | _ => none }
def DoorKnownWrongFalsely : Prop := doorKnownRow.holds Try.pinned (OpenSpec.ofChange doorKnownWrong)

/-- 'ratoonlaw10.DoorTrue': WHATEVER THE INPUT: true; the input reads as it did. -/
def doorTrueSpec : ChangeSpec := { name := "doorTrue", fn := fun _ => fun
  | [d1, d2] => { results := [.lit (.bool true)], args := [d1, d2] }
  | _ => none }
def doorTrueRow : OpenClaim := { program := "ytefifnlhfmfnlaa", sum := "9f7f3b6273fbcfe6d9c8b3665c578ef0fba8bfc352a2764e93f0501913990c8c", func := "ratoon/ratoonlaw10.DoorTrue", spec := "doorTrue", unfollowed := true, recurses := true, plainKeys := false, apart := false }
def DoorTrueSaid : Prop := doorTrueRow.holds Try.pinned (OpenSpec.ofChange doorTrueSpec)

/-- ITS FALSE NEIGHBOUR: 'it returns false'. Refute it at one input. -/
def doorTrueWrong : ChangeSpec := { name := "doorTrue", fn := fun _ => fun
  | [d1, d2] => { results := [.lit (.bool false)], args := [d1, d2] }
  | _ => none }
def DoorTrueWrongFalsely : Prop := doorTrueRow.holds Try.pinned (OpenSpec.ofChange doorTrueWrong)

/-- 'ratoonlaw10.DoorBlame': WHATEVER THE INPUT: true; the input reads as it did. -/
def doorBlameSpec : ChangeSpec := { name := "doorBlame", fn := fun _ => fun
  | [d1, d2, d3] => { results := [.lit (.bool true)], args := [d1, d2, d3] }
  | _ => none }
def doorBlameRow : OpenClaim := { program := "ytefifnlhfmfnlaa", sum := "9f7f3b6273fbcfe6d9c8b3665c578ef0fba8bfc352a2764e93f0501913990c8c", func := "ratoon/ratoonlaw10.DoorBlame", spec := "doorBlame", unfollowed := true, recurses := true, plainKeys := false, apart := false }
def DoorBlameSaid : Prop := doorBlameRow.holds Try.pinned (OpenSpec.ofChange doorBlameSpec)

/-- ITS FALSE NEIGHBOUR: 'it returns false'. Refute it at one input. -/
def doorBlameWrong : ChangeSpec := { name := "doorBlame", fn := fun _ => fun
  | [d1, d2, d3] => { results := [.lit (.bool false)], args := [d1, d2, d3] }
  | _ => none }
def DoorBlameWrongFalsely : Prop := doorBlameRow.holds Try.pinned (OpenSpec.ofChange doorBlameWrong)

/-- 'ratoonlaw10.DoorShort': WHATEVER THE INPUT: true; the input reads as it did. -/
def doorShortSpec : ChangeSpec := { name := "doorShort", fn := fun _ => fun
  | [d1, d2] => { results := [.lit (.bool true)], args := [d1, d2] }
  | _ => none }
def doorShortRow : OpenClaim := { program := "ytefifnlhfmfnlaa", sum := "9f7f3b6273fbcfe6d9c8b3665c578ef0fba8bfc352a2764e93f0501913990c8c", func := "ratoon/ratoonlaw10.DoorShort", spec := "doorShort", unfollowed := true, recurses := true, plainKeys := false, apart := false }
def DoorShortSaid : Prop := doorShortRow.holds Try.pinned (OpenSpec.ofChange doorShortSpec)

/-- ITS FALSE NEIGHBOUR: 'it returns false'. Refute it at one input. -/
def doorShortWrong : ChangeSpec := { name := "doorShort", fn := fun _ => fun
  | [d1, d2] => { results := [.lit (.bool false)], args := [d1, d2] }
  | _ => none }
def DoorShortWrongFalsely : Prop := doorShortRow.holds Try.pinned (OpenSpec.ofChange doorShortWrong)

/-- 'ratoonlaw10.DoorFewest': WHATEVER THE INPUT: true; the input reads as it did. -/
def doorFewestSpec : ChangeSpec := { name := "doorFewest", fn := fun _ => fun
  | [d1, d2] => { results := [.lit (.bool true)], args := [d1, d2] }
  | _ => none }
def doorFewestRow : OpenClaim := { program := "ytefifnlhfmfnlaa", sum := "9f7f3b6273fbcfe6d9c8b3665c578ef0fba8bfc352a2764e93f0501913990c8c", func := "ratoon/ratoonlaw10.DoorFewest", spec := "doorFewest", unfollowed := true, recurses := true, plainKeys := false, apart := false }
def DoorFewestSaid : Prop := doorFewestRow.holds Try.pinned (OpenSpec.ofChange doorFewestSpec)

/-- ITS FALSE NEIGHBOUR: 'it returns false'. Refute it at one input. -/
def doorFewestWrong : ChangeSpec := { name := "doorFewest", fn := fun _ => fun
  | [d1, d2] => { results := [.lit (.bool false)], args := [d1, d2] }
  | _ => none }
def DoorFewestWrongFalsely : Prop := doorFewestRow.holds Try.pinned (OpenSpec.ofChange doorFewestWrong)

/-- 'ratoonlaw10.DoorWrong': WHATEVER THE INPUT: true; the input reads as it did. -/
def doorWrongSpec : ChangeSpec := { name := "doorWrong", fn := fun _ => fun
  | [d1, d2] => { results := [.lit (.bool true)], args := [d1, d2] }
  | _ => none }
def doorWrongRow : OpenClaim := { program := "ytefifnlhfmfnlaa", sum := "9f7f3b6273fbcfe6d9c8b3665c578ef0fba8bfc352a2764e93f0501913990c8c", func := "ratoon/ratoonlaw10.DoorWrong", spec := "doorWrong", unfollowed := true, recurses := true, plainKeys := false, apart := false }
def DoorWrongSaid : Prop := doorWrongRow.holds Try.pinned (OpenSpec.ofChange doorWrongSpec)

/-- ITS FALSE NEIGHBOUR: 'it returns false'. Refute it at one input. -/
def doorWrongWrong : ChangeSpec := { name := "doorWrong", fn := fun _ => fun
  | [d1, d2] => { results := [.lit (.bool false)], args := [d1, d2] }
  | _ => none }
def DoorWrongWrongFalsely : Prop := doorWrongRow.holds Try.pinned (OpenSpec.ofChange doorWrongWrong)

/-- 'ratoonlaw10.DoorMore': WHATEVER THE INPUT: true; the input reads as it did. -/
def doorMoreSpec : ChangeSpec := { name := "doorMore", fn := fun _ => fun
  | [d1, d2] => { results := [.lit (.bool true)], args := [d1, d2] }
  | _ => none }
def doorMoreRow : OpenClaim := { program := "ytefifnlhfmfnlaa", sum := "9f7f3b6273fbcfe6d9c8b3665c578ef0fba8bfc352a2764e93f0501913990c8c", func := "ratoon/ratoonlaw10.DoorMore", spec := "doorMore", unfollowed := true, recurses := true, plainKeys := false, apart := false }
def DoorMoreSaid : Prop := doorMoreRow.holds Try.pinned (OpenSpec.ofChange doorMoreSpec)

/-- ITS FALSE NEIGHBOUR: 'it returns false'. Refute it at one input. -/
def doorMoreWrong : ChangeSpec := { name := "doorMore", fn := fun _ => fun
  | [d1, d2] => { results := [.lit (.bool false)], args := [d1, d2] }
  | _ => none }
def DoorMoreWrongFalsely : Prop := doorMoreRow.holds Try.pinned (OpenSpec.ofChange doorMoreWrong)

/-- 'ratoonlaw10.DoorAsked': WHATEVER THE INPUT: true; the input reads as it did. -/
def doorAskedSpec : ChangeSpec := { name := "doorAsked", fn := fun _ => fun
  | [d1, d2, d3] => { results := [.lit (.bool true)], args := [d1, d2, d3] }
  | _ => none }
def doorAskedRow : OpenClaim := { program := "ytefifnlhfmfnlaa", sum := "9f7f3b6273fbcfe6d9c8b3665c578ef0fba8bfc352a2764e93f0501913990c8c", func := "ratoon/ratoonlaw10.DoorAsked", spec := "doorAsked", unfollowed := true, recurses := true, plainKeys := false, apart := false }
def DoorAskedSaid : Prop := doorAskedRow.holds Try.pinned (OpenSpec.ofChange doorAskedSpec)

/-- ITS FALSE NEIGHBOUR: 'it returns false'. Refute it at one input. -/
def doorAskedWrong : ChangeSpec := { name := "doorAsked", fn := fun _ => fun
  | [d1, d2, d3] => { results := [.lit (.bool false)], args := [d1, d2, d3] }
  | _ => none }
def DoorAskedWrongFalsely : Prop := doorAskedRow.holds Try.pinned (OpenSpec.ofChange doorAskedWrong)

/-- 'ratoonlaw10.DoorNew': WHATEVER THE INPUT: true; the input reads as it did. -/
def doorNewSpec : ChangeSpec := { name := "doorNew", fn := fun _ => fun
  | [d1, d2] => { results := [.lit (.bool true)], args := [d1, d2] }
  | _ => none }
def doorNewRow : OpenClaim := { program := "ytefifnlhfmfnlaa", sum := "9f7f3b6273fbcfe6d9c8b3665c578ef0fba8bfc352a2764e93f0501913990c8c", func := "ratoon/ratoonlaw10.DoorNew", spec := "doorNew", unfollowed := true, recurses := true, plainKeys := false, apart := false }
def DoorNewSaid : Prop := doorNewRow.holds Try.pinned (OpenSpec.ofChange doorNewSpec)

/-- ITS FALSE NEIGHBOUR: 'it returns false'. Refute it at one input. -/
def doorNewWrong : ChangeSpec := { name := "doorNew", fn := fun _ => fun
  | [d1, d2] => { results := [.lit (.bool false)], args := [d1, d2] }
  | _ => none }
def DoorNewWrongFalsely : Prop := doorNewRow.holds Try.pinned (OpenSpec.ofChange doorNewWrong)

/- THE SECOND FORM. 'bulk': how many values and letters a reading holds, each counted each time it is reached (what is shared counts as often as it is met; a slice's spare places count too). A statement '..UptoSaid' is the law's where the arguments, and the package variables that the reading takes, are together of bulk at most 1048576: NARROWER than '..Said'. Prove '..Said' where nothing that the law and all that it calls make is longer than what came in: it says more and counts as full. Else prove '..UptoSaid'. A law counts once. -/
mutual
def uptoBulk {H : Type} : DataW H → Nat
  | .lit (.string bytes) => bytes.length + 1
  | .lit _ => 1
  | .nil => 1
  | .ptr d => uptoBulk d + 1
  | .slice elems spare => uptoBulkAll elems + uptoBulkAll spare + 1
  | .agg parts => uptoBulkAll parts + 1
  | .iface _ d => uptoBulk d + 1
  | .map entries => uptoBulkEntries entries + 1
  | .held _ => 1
def uptoBulkAll {H : Type} : List (DataW H) → Nat
  | [] => 0
  | d :: r => uptoBulk d + uptoBulkAll r
def uptoBulkEntries {H : Type} : List (Lit × DataW H) → Nat
  | [] => 0
  | x :: r => uptoBulkEntry x + uptoBulkEntries r
def uptoBulkEntry {H : Type} : Lit × DataW H → Nat
  | (.string bytes, d) => bytes.length + uptoBulk d + 1
  | (_, d) => uptoBulk d + 1
 end
def uptoSmall : (H : Type) → List (DataW H) → Bool := fun _ ds => decide (uptoBulkAll ds ≤ 1048576)
def OpenSpec.upto (s : _root_.Go.ChangeSpec) : _root_.Go.OpenSpec := { _root_.Go.OpenSpec.ofChange s with cond := some uptoSmall }

/-- 'ratoonlaw10.DoorTurns', WHERE WHAT IT READS IS OF BULK AT MOST 1048576: true; the input reads as it did. -/
def doorTurnsUptoRow : OpenClaim := { program := "ytefifnlhfmfnlaa", sum := "9f7f3b6273fbcfe6d9c8b3665c578ef0fba8bfc352a2764e93f0501913990c8c", func := "ratoon/ratoonlaw10.DoorTurns", spec := "doorTurns", unfollowed := true, recurses := true, plainKeys := false, apart := false, narrowed := true }
def DoorTurnsUptoSaid : Prop := doorTurnsUptoRow.holds Try.pinned (OpenSpec.upto doorTurnsSpec)

/-- 'ratoonlaw10.DoorWhoses', WHERE WHAT IT READS IS OF BULK AT MOST 1048576: true; the input reads as it did. -/
def doorWhosesUptoRow : OpenClaim := { program := "ytefifnlhfmfnlaa", sum := "9f7f3b6273fbcfe6d9c8b3665c578ef0fba8bfc352a2764e93f0501913990c8c", func := "ratoon/ratoonlaw10.DoorWhoses", spec := "doorWhoses", unfollowed := true, recurses := true, plainKeys := false, apart := false, narrowed := true }
def DoorWhosesUptoSaid : Prop := doorWhosesUptoRow.holds Try.pinned (OpenSpec.upto doorWhosesSpec)

/-- 'ratoonlaw10.DoorOpens', WHERE WHAT IT READS IS OF BULK AT MOST 1048576: true; the input reads as it did. -/
def doorOpensUptoRow : OpenClaim := { program := "ytefifnlhfmfnlaa", sum := "9f7f3b6273fbcfe6d9c8b3665c578ef0fba8bfc352a2764e93f0501913990c8c", func := "ratoon/ratoonlaw10.DoorOpens", spec := "doorOpens", unfollowed := true, recurses := true, plainKeys := false, apart := false, narrowed := true }
def DoorOpensUptoSaid : Prop := doorOpensUptoRow.holds Try.pinned (OpenSpec.upto doorOpensSpec)

/-- 'ratoonlaw10.DoorSplits', WHERE WHAT IT READS IS OF BULK AT MOST 1048576: true; the input reads as it did. -/
def doorSplitsUptoRow : OpenClaim := { program := "ytefifnlhfmfnlaa", sum := "9f7f3b6273fbcfe6d9c8b3665c578ef0fba8bfc352a2764e93f0501913990c8c", func := "ratoon/ratoonlaw10.DoorSplits", spec := "doorSplits", unfollowed := true, recurses := true, plainKeys := false, apart := false, narrowed := true }
def DoorSplitsUptoSaid : Prop := doorSplitsUptoRow.holds Try.pinned (OpenSpec.upto doorSplitsSpec)

/-- 'ratoonlaw10.DoorKnown', WHERE WHAT IT READS IS OF BULK AT MOST 1048576: true; the input reads as it did. -/
def doorKnownUptoRow : OpenClaim := { program := "ytefifnlhfmfnlaa", sum := "9f7f3b6273fbcfe6d9c8b3665c578ef0fba8bfc352a2764e93f0501913990c8c", func := "ratoon/ratoonlaw10.DoorKnown", spec := "doorKnown", unfollowed := true, recurses := true, plainKeys := false, apart := false, narrowed := true }
def DoorKnownUptoSaid : Prop := doorKnownUptoRow.holds Try.pinned (OpenSpec.upto doorKnownSpec)

/-- 'ratoonlaw10.DoorTrue', WHERE WHAT IT READS IS OF BULK AT MOST 1048576: true; the input reads as it did. -/
def doorTrueUptoRow : OpenClaim := { program := "ytefifnlhfmfnlaa", sum := "9f7f3b6273fbcfe6d9c8b3665c578ef0fba8bfc352a2764e93f0501913990c8c", func := "ratoon/ratoonlaw10.DoorTrue", spec := "doorTrue", unfollowed := true, recurses := true, plainKeys := false, apart := false, narrowed := true }
def DoorTrueUptoSaid : Prop := doorTrueUptoRow.holds Try.pinned (OpenSpec.upto doorTrueSpec)

/-- 'ratoonlaw10.DoorBlame', WHERE WHAT IT READS IS OF BULK AT MOST 1048576: true; the input reads as it did. -/
def doorBlameUptoRow : OpenClaim := { program := "ytefifnlhfmfnlaa", sum := "9f7f3b6273fbcfe6d9c8b3665c578ef0fba8bfc352a2764e93f0501913990c8c", func := "ratoon/ratoonlaw10.DoorBlame", spec := "doorBlame", unfollowed := true, recurses := true, plainKeys := false, apart := false, narrowed := true }
def DoorBlameUptoSaid : Prop := doorBlameUptoRow.holds Try.pinned (OpenSpec.upto doorBlameSpec)

/-- 'ratoonlaw10.DoorShort', WHERE WHAT IT READS IS OF BULK AT MOST 1048576: true; the input reads as it did. -/
def doorShortUptoRow : OpenClaim := { program := "ytefifnlhfmfnlaa", sum := "9f7f3b6273fbcfe6d9c8b3665c578ef0fba8bfc352a2764e93f0501913990c8c", func := "ratoon/ratoonlaw10.DoorShort", spec := "doorShort", unfollowed := true, recurses := true, plainKeys := false, apart := false, narrowed := true }
def DoorShortUptoSaid : Prop := doorShortUptoRow.holds Try.pinned (OpenSpec.upto doorShortSpec)

/-- 'ratoonlaw10.DoorFewest', WHERE WHAT IT READS IS OF BULK AT MOST 1048576: true; the input reads as it did. -/
def doorFewestUptoRow : OpenClaim := { program := "ytefifnlhfmfnlaa", sum := "9f7f3b6273fbcfe6d9c8b3665c578ef0fba8bfc352a2764e93f0501913990c8c", func := "ratoon/ratoonlaw10.DoorFewest", spec := "doorFewest", unfollowed := true, recurses := true, plainKeys := false, apart := false, narrowed := true }
def DoorFewestUptoSaid : Prop := doorFewestUptoRow.holds Try.pinned (OpenSpec.upto doorFewestSpec)

/-- 'ratoonlaw10.DoorWrong', WHERE WHAT IT READS IS OF BULK AT MOST 1048576: true; the input reads as it did. -/
def doorWrongUptoRow : OpenClaim := { program := "ytefifnlhfmfnlaa", sum := "9f7f3b6273fbcfe6d9c8b3665c578ef0fba8bfc352a2764e93f0501913990c8c", func := "ratoon/ratoonlaw10.DoorWrong", spec := "doorWrong", unfollowed := true, recurses := true, plainKeys := false, apart := false, narrowed := true }
def DoorWrongUptoSaid : Prop := doorWrongUptoRow.holds Try.pinned (OpenSpec.upto doorWrongSpec)

/-- 'ratoonlaw10.DoorMore', WHERE WHAT IT READS IS OF BULK AT MOST 1048576: true; the input reads as it did. -/
def doorMoreUptoRow : OpenClaim := { program := "ytefifnlhfmfnlaa", sum := "9f7f3b6273fbcfe6d9c8b3665c578ef0fba8bfc352a2764e93f0501913990c8c", func := "ratoon/ratoonlaw10.DoorMore", spec := "doorMore", unfollowed := true, recurses := true, plainKeys := false, apart := false, narrowed := true }
def DoorMoreUptoSaid : Prop := doorMoreUptoRow.holds Try.pinned (OpenSpec.upto doorMoreSpec)

/-- 'ratoonlaw10.DoorAsked', WHERE WHAT IT READS IS OF BULK AT MOST 1048576: true; the input reads as it did. -/
def doorAskedUptoRow : OpenClaim := { program := "ytefifnlhfmfnlaa", sum := "9f7f3b6273fbcfe6d9c8b3665c578ef0fba8bfc352a2764e93f0501913990c8c", func := "ratoon/ratoonlaw10.DoorAsked", spec := "doorAsked", unfollowed := true, recurses := true, plainKeys := false, apart := false, narrowed := true }
def DoorAskedUptoSaid : Prop := doorAskedUptoRow.holds Try.pinned (OpenSpec.upto doorAskedSpec)

/-- 'ratoonlaw10.DoorNew', WHERE WHAT IT READS IS OF BULK AT MOST 1048576: true; the input reads as it did. -/
def doorNewUptoRow : OpenClaim := { program := "ytefifnlhfmfnlaa", sum := "9f7f3b6273fbcfe6d9c8b3665c578ef0fba8bfc352a2764e93f0501913990c8c", func := "ratoon/ratoonlaw10.DoorNew", spec := "doorNew", unfollowed := true, recurses := true, plainKeys := false, apart := false, narrowed := true }
def DoorNewUptoSaid : Prop := doorNewUptoRow.holds Try.pinned (OpenSpec.upto doorNewSpec)

end Rows
end Go.Proofs.Ytefifnlhfmfnlaa
