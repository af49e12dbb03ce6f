/-
  No cell of these rows narrows 'for every input' (looked for: loops, veiled, ifaces, maps, wideKeys, modest, calm, conditions, laid).
  DERIVED. THE GIVEN ROWS OF THIS SEAT. 12 by the template 'for every input the law returns true; each argument reads behind the call as it read before'; 0 by the template 'total and deterministic' (their statements: YtnioeddjaihmmaaTotals.lean).
  GIVEN WITH THE SEED: the statements are not yours to turn. If you find one false, say at which input.
  Laid BY PROGRAM, IN A SANDBOX (cutbox-rows.mjs): the forced cells as the released guide's own fill.sh prints them over the translation f4e339e1c1fc50fb… (all of the seat's roots in one cut). By AI agents, Wed Nov 11 2026. No macro, syntax, notation, axiom, sorry.
-/
import Derived.Test.YtnioeddjaihmmaaChecked
import GoSem.Claim
import GoSem.ClaimJoined
import GoSem.ClaimMapViews
import Derived.JoinedTies
import Derived.KernelRfl
namespace Go.Proofs.Ytnioeddjaihmmaa
/- THE CELL 'sum', in the pinned program and in every row, IS THE sha256 OF THE DUMP (.gsa) THAT YtnioeddjaihmmaaProg.lean LOADS. Nothing in Lean hashes anything: it is a label: what it is worth is what the hold of that sum in a sandbox is worth. -/
noncomputable def Try.pinned : Pinned := { name := "ytnioeddjaihmmaa", sum := "f4e339e1c1fc50fb60a9f9b806dbba8318c2f6c4c6b79aea60ba644d6bfac9b7", checked := Try.checked }
namespace Rows
def none {H : Type} : Left H := { results := [], args := [] }

/-- 'ratoonlaw02.FarmGrowns': WHATEVER THE INPUT: true; the input reads as it did. -/
def farmGrownsSpec : ChangeSpec := { name := "farmGrowns", fn := fun _ => fun
  | [d1, d2, d3] => { results := [.lit (.bool true)], args := [d1, d2, d3] }
  | _ => none }
def farmGrownsRow : OpenClaim := { program := "ytnioeddjaihmmaa", sum := "f4e339e1c1fc50fb60a9f9b806dbba8318c2f6c4c6b79aea60ba644d6bfac9b7", func := "ratoon/ratoonlaw02.FarmGrowns", spec := "farmGrowns", unfollowed := true, recurses := true, plainKeys := false, apart := false }
def FarmGrownsSaid : Prop := farmGrownsRow.holds Try.pinned (OpenSpec.ofChange farmGrownsSpec)

/-- ITS FALSE NEIGHBOUR: 'it returns false'. Refute it at one input. -/
def farmGrownsWrong : ChangeSpec := { name := "farmGrowns", fn := fun _ => fun
  | [d1, d2, d3] => { results := [.lit (.bool false)], args := [d1, d2, d3] }
  | _ => none }
def FarmGrownsWrongFalsely : Prop := farmGrownsRow.holds Try.pinned (OpenSpec.ofChange farmGrownsWrong)

/-- 'ratoonlaw02.FarmCuts': WHATEVER THE INPUT: true; the input reads as it did. -/
def farmCutsSpec : ChangeSpec := { name := "farmCuts", fn := fun _ => fun
  | [d1, d2, d3] => { results := [.lit (.bool true)], args := [d1, d2, d3] }
  | _ => none }
def farmCutsRow : OpenClaim := { program := "ytnioeddjaihmmaa", sum := "f4e339e1c1fc50fb60a9f9b806dbba8318c2f6c4c6b79aea60ba644d6bfac9b7", func := "ratoon/ratoonlaw02.FarmCuts", spec := "farmCuts", unfollowed := true, recurses := true, plainKeys := false, apart := false }
def FarmCutsSaid : Prop := farmCutsRow.holds Try.pinned (OpenSpec.ofChange farmCutsSpec)

/-- ITS FALSE NEIGHBOUR: 'it returns false'. Refute it at one input. -/
def farmCutsWrong : ChangeSpec := { name := "farmCuts", fn := fun _ => fun
  | [d1, d2, d3] => { results := [.lit (.bool false)], args := [d1, d2, d3] }
  | _ => none }
def FarmCutsWrongFalsely : Prop := farmCutsRow.holds Try.pinned (OpenSpec.ofChange farmCutsWrong)

/-- 'ratoonlaw02.FarmEarlies': WHATEVER THE INPUT: true; the input reads as it did. -/
def farmEarliesSpec : ChangeSpec := { name := "farmEarlies", fn := fun _ => fun
  | [d1, d2, d3] => { results := [.lit (.bool true)], args := [d1, d2, d3] }
  | _ => none }
def farmEarliesRow : OpenClaim := { program := "ytnioeddjaihmmaa", sum := "f4e339e1c1fc50fb60a9f9b806dbba8318c2f6c4c6b79aea60ba644d6bfac9b7", func := "ratoon/ratoonlaw02.FarmEarlies", spec := "farmEarlies", unfollowed := true, recurses := true, plainKeys := false, apart := false }
def FarmEarliesSaid : Prop := farmEarliesRow.holds Try.pinned (OpenSpec.ofChange farmEarliesSpec)

/-- ITS FALSE NEIGHBOUR: 'it returns false'. Refute it at one input. -/
def farmEarliesWrong : ChangeSpec := { name := "farmEarlies", fn := fun _ => fun
  | [d1, d2, d3] => { results := [.lit (.bool false)], args := [d1, d2, d3] }
  | _ => none }
def FarmEarliesWrongFalsely : Prop := farmEarliesRow.holds Try.pinned (OpenSpec.ofChange farmEarliesWrong)

/-- 'ratoonlaw02.FarmKnown': WHATEVER THE INPUT: true; the input reads as it did. -/
def farmKnownSpec : ChangeSpec := { name := "farmKnown", fn := fun _ => fun
  | [] => { results := [.lit (.bool true)], args := [] }
  | _ => none }
def farmKnownRow : OpenClaim := { program := "ytnioeddjaihmmaa", sum := "f4e339e1c1fc50fb60a9f9b806dbba8318c2f6c4c6b79aea60ba644d6bfac9b7", func := "ratoon/ratoonlaw02.FarmKnown", spec := "farmKnown", unfollowed := true, recurses := true, plainKeys := false, apart := false }
def FarmKnownSaid : Prop := farmKnownRow.holds Try.pinned (OpenSpec.ofChange farmKnownSpec)

/-- ITS FALSE NEIGHBOUR: 'it returns false'. Refute it at one input. -/
def farmKnownWrong : ChangeSpec := { name := "farmKnown", fn := fun _ => fun
  | [] => { results := [.lit (.bool false)], args := [] }
  | _ => none }
def FarmKnownWrongFalsely : Prop := farmKnownRow.holds Try.pinned (OpenSpec.ofChange farmKnownWrong)

/-- 'ratoonlaw02.FarmTrue': WHATEVER THE INPUT: true; the input reads as it did. -/
def farmTrueSpec : ChangeSpec := { name := "farmTrue", fn := fun _ => fun
  | [d1, d2] => { results := [.lit (.bool true)], args := [d1, d2] }
  | _ => none }
def farmTrueRow : OpenClaim := { program := "ytnioeddjaihmmaa", sum := "f4e339e1c1fc50fb60a9f9b806dbba8318c2f6c4c6b79aea60ba644d6bfac9b7", func := "ratoon/ratoonlaw02.FarmTrue", spec := "farmTrue", unfollowed := true, recurses := true, plainKeys := false, apart := false }
def FarmTrueSaid : Prop := farmTrueRow.holds Try.pinned (OpenSpec.ofChange farmTrueSpec)

/-- ITS FALSE NEIGHBOUR: 'it returns false'. Refute it at one input. -/
def farmTrueWrong : ChangeSpec := { name := "farmTrue", fn := fun _ => fun
  | [d1, d2] => { results := [.lit (.bool false)], args := [d1, d2] }
  | _ => none }
def FarmTrueWrongFalsely : Prop := farmTrueRow.holds Try.pinned (OpenSpec.ofChange farmTrueWrong)

/-- 'ratoonlaw02.FarmShip': WHATEVER THE INPUT: true; the input reads as it did. -/
def farmShipSpec : ChangeSpec := { name := "farmShip", fn := fun _ => fun
  | [d1, d2, d3] => { results := [.lit (.bool true)], args := [d1, d2, d3] }
  | _ => none }
def farmShipRow : OpenClaim := { program := "ytnioeddjaihmmaa", sum := "f4e339e1c1fc50fb60a9f9b806dbba8318c2f6c4c6b79aea60ba644d6bfac9b7", func := "ratoon/ratoonlaw02.FarmShip", spec := "farmShip", unfollowed := true, recurses := true, plainKeys := false, apart := false }
def FarmShipSaid : Prop := farmShipRow.holds Try.pinned (OpenSpec.ofChange farmShipSpec)

/-- ITS FALSE NEIGHBOUR: 'it returns false'. Refute it at one input. -/
def farmShipWrong : ChangeSpec := { name := "farmShip", fn := fun _ => fun
  | [d1, d2, d3] => { results := [.lit (.bool false)], args := [d1, d2, d3] }
  | _ => none }
def FarmShipWrongFalsely : Prop := farmShipRow.holds Try.pinned (OpenSpec.ofChange farmShipWrong)

/-- 'ratoonlaw02.FarmFewest': WHATEVER THE INPUT: true; the input reads as it did. -/
def farmFewestSpec : ChangeSpec := { name := "farmFewest", fn := fun _ => fun
  | [d1, d2, d3] => { results := [.lit (.bool true)], args := [d1, d2, d3] }
  | _ => none }
def farmFewestRow : OpenClaim := { program := "ytnioeddjaihmmaa", sum := "f4e339e1c1fc50fb60a9f9b806dbba8318c2f6c4c6b79aea60ba644d6bfac9b7", func := "ratoon/ratoonlaw02.FarmFewest", spec := "farmFewest", unfollowed := true, recurses := true, plainKeys := false, apart := false }
def FarmFewestSaid : Prop := farmFewestRow.holds Try.pinned (OpenSpec.ofChange farmFewestSpec)

/-- ITS FALSE NEIGHBOUR: 'it returns false'. Refute it at one input. -/
def farmFewestWrong : ChangeSpec := { name := "farmFewest", fn := fun _ => fun
  | [d1, d2, d3] => { results := [.lit (.bool false)], args := [d1, d2, d3] }
  | _ => none }
def FarmFewestWrongFalsely : Prop := farmFewestRow.holds Try.pinned (OpenSpec.ofChange farmFewestWrong)

/-- 'ratoonlaw02.FarmWrong': WHATEVER THE INPUT: true; the input reads as it did. -/
def farmWrongSpec : ChangeSpec := { name := "farmWrong", fn := fun _ => fun
  | [d1, d2] => { results := [.lit (.bool true)], args := [d1, d2] }
  | _ => none }
def farmWrongRow : OpenClaim := { program := "ytnioeddjaihmmaa", sum := "f4e339e1c1fc50fb60a9f9b806dbba8318c2f6c4c6b79aea60ba644d6bfac9b7", func := "ratoon/ratoonlaw02.FarmWrong", spec := "farmWrong", unfollowed := true, recurses := true, plainKeys := false, apart := false }
def FarmWrongSaid : Prop := farmWrongRow.holds Try.pinned (OpenSpec.ofChange farmWrongSpec)

/-- ITS FALSE NEIGHBOUR: 'it returns false'. Refute it at one input. -/
def farmWrongWrong : ChangeSpec := { name := "farmWrong", fn := fun _ => fun
  | [d1, d2] => { results := [.lit (.bool false)], args := [d1, d2] }
  | _ => none }
def FarmWrongWrongFalsely : Prop := farmWrongRow.holds Try.pinned (OpenSpec.ofChange farmWrongWrong)

/-- 'ratoonlaw02.FarmMore': WHATEVER THE INPUT: true; the input reads as it did. -/
def farmMoreSpec : ChangeSpec := { name := "farmMore", fn := fun _ => fun
  | [d1, d2, d3] => { results := [.lit (.bool true)], args := [d1, d2, d3] }
  | _ => none }
def farmMoreRow : OpenClaim := { program := "ytnioeddjaihmmaa", sum := "f4e339e1c1fc50fb60a9f9b806dbba8318c2f6c4c6b79aea60ba644d6bfac9b7", func := "ratoon/ratoonlaw02.FarmMore", spec := "farmMore", unfollowed := true, recurses := true, plainKeys := false, apart := false }
def FarmMoreSaid : Prop := farmMoreRow.holds Try.pinned (OpenSpec.ofChange farmMoreSpec)

/-- ITS FALSE NEIGHBOUR: 'it returns false'. Refute it at one input. -/
def farmMoreWrong : ChangeSpec := { name := "farmMore", fn := fun _ => fun
  | [d1, d2, d3] => { results := [.lit (.bool false)], args := [d1, d2, d3] }
  | _ => none }
def FarmMoreWrongFalsely : Prop := farmMoreRow.holds Try.pinned (OpenSpec.ofChange farmMoreWrong)

/-- 'ratoonlaw02.FarmGrows': WHATEVER THE INPUT: true; the input reads as it did. -/
def farmGrowsSpec : ChangeSpec := { name := "farmGrows", fn := fun _ => fun
  | [d1, d2] => { results := [.lit (.bool true)], args := [d1, d2] }
  | _ => none }
def farmGrowsRow : OpenClaim := { program := "ytnioeddjaihmmaa", sum := "f4e339e1c1fc50fb60a9f9b806dbba8318c2f6c4c6b79aea60ba644d6bfac9b7", func := "ratoon/ratoonlaw02.FarmGrows", spec := "farmGrows", unfollowed := true, recurses := true, plainKeys := false, apart := false }
def FarmGrowsSaid : Prop := farmGrowsRow.holds Try.pinned (OpenSpec.ofChange farmGrowsSpec)

/-- ITS FALSE NEIGHBOUR: 'it returns false'. Refute it at one input. -/
def farmGrowsWrong : ChangeSpec := { name := "farmGrows", fn := fun _ => fun
  | [d1, d2] => { results := [.lit (.bool false)], args := [d1, d2] }
  | _ => none }
def FarmGrowsWrongFalsely : Prop := farmGrowsRow.holds Try.pinned (OpenSpec.ofChange farmGrowsWrong)

/-- 'ratoonlaw02.FarmDays': WHATEVER THE INPUT: true; the input reads as it did. -/
def farmDaysSpec : ChangeSpec := { name := "farmDays", fn := fun _ => fun
  | [d1, d2] => { results := [.lit (.bool true)], args := [d1, d2] }
  | _ => none }
def farmDaysRow : OpenClaim := { program := "ytnioeddjaihmmaa", sum := "f4e339e1c1fc50fb60a9f9b806dbba8318c2f6c4c6b79aea60ba644d6bfac9b7", func := "ratoon/ratoonlaw02.FarmDays", spec := "farmDays", unfollowed := true, recurses := true, plainKeys := false, apart := false }
def FarmDaysSaid : Prop := farmDaysRow.holds Try.pinned (OpenSpec.ofChange farmDaysSpec)

/-- ITS FALSE NEIGHBOUR: 'it returns false'. Refute it at one input. -/
def farmDaysWrong : ChangeSpec := { name := "farmDays", fn := fun _ => fun
  | [d1, d2] => { results := [.lit (.bool false)], args := [d1, d2] }
  | _ => none }
def FarmDaysWrongFalsely : Prop := farmDaysRow.holds Try.pinned (OpenSpec.ofChange farmDaysWrong)

/-- 'ratoonlaw02.FarmShorter': WHATEVER THE INPUT: true; the input reads as it did. -/
def farmShorterSpec : ChangeSpec := { name := "farmShorter", fn := fun _ => fun
  | [d1, d2, d3] => { results := [.lit (.bool true)], args := [d1, d2, d3] }
  | _ => none }
def farmShorterRow : OpenClaim := { program := "ytnioeddjaihmmaa", sum := "f4e339e1c1fc50fb60a9f9b806dbba8318c2f6c4c6b79aea60ba644d6bfac9b7", func := "ratoon/ratoonlaw02.FarmShorter", spec := "farmShorter", unfollowed := true, recurses := true, plainKeys := false, apart := false }
def FarmShorterSaid : Prop := farmShorterRow.holds Try.pinned (OpenSpec.ofChange farmShorterSpec)

/-- ITS FALSE NEIGHBOUR: 'it returns false'. Refute it at one input. -/
def farmShorterWrong : ChangeSpec := { name := "farmShorter", fn := fun _ => fun
  | [d1, d2, d3] => { results := [.lit (.bool false)], args := [d1, d2, d3] }
  | _ => none }
def FarmShorterWrongFalsely : Prop := farmShorterRow.holds Try.pinned (OpenSpec.ofChange farmShorterWrong)

/- THE SECOND FORM. 'bulk': how many values and letters a reading holds, each counted each time it is reached (what is shared counts as often as it is met; a slice's spare places count too). A statement '..UptoSaid' is the law's where the arguments, and the package variables that the reading takes, are together of bulk at most 1048576: NARROWER than '..Said'. Prove '..Said' where nothing that the law and all that it calls make is longer than what came in: it says more and counts as full. Else prove '..UptoSaid'. A law counts once. -/
mutual
def uptoBulk {H : Type} : DataW H → Nat
  | .lit (.string bytes) => bytes.length + 1
  | .lit _ => 1
  | .nil => 1
  | .ptr d => uptoBulk d + 1
  | .slice elems spare => uptoBulkAll elems + uptoBulkAll spare + 1
  | .agg parts => uptoBulkAll parts + 1
  | .iface _ d => uptoBulk d + 1
  | .map entries => uptoBulkEntries entries + 1
  | .held _ => 1
def uptoBulkAll {H : Type} : List (DataW H) → Nat
  | [] => 0
  | d :: r => uptoBulk d + uptoBulkAll r
def uptoBulkEntries {H : Type} : List (Lit × DataW H) → Nat
  | [] => 0
  | x :: r => uptoBulkEntry x + uptoBulkEntries r
def uptoBulkEntry {H : Type} : Lit × DataW H → Nat
  | (.string bytes, d) => bytes.length + uptoBulk d + 1
  | (_, d) => uptoBulk d + 1
 end
def uptoSmall : (H : Type) → List (DataW H) → Bool := fun _ ds => decide (uptoBulkAll ds ≤ 1048576)
def OpenSpec.upto (s : _root_.Go.ChangeSpec) : _root_.Go.OpenSpec := { _root_.Go.OpenSpec.ofChange s with cond := some uptoSmall }

/-- 'ratoonlaw02.FarmGrowns', WHERE WHAT IT READS IS OF BULK AT MOST 1048576: true; the input reads as it did. -/
def farmGrownsUptoRow : OpenClaim := { program := "ytnioeddjaihmmaa", sum := "f4e339e1c1fc50fb60a9f9b806dbba8318c2f6c4c6b79aea60ba644d6bfac9b7", func := "ratoon/ratoonlaw02.FarmGrowns", spec := "farmGrowns", unfollowed := true, recurses := true, plainKeys := false, apart := false, narrowed := true }
def FarmGrownsUptoSaid : Prop := farmGrownsUptoRow.holds Try.pinned (OpenSpec.upto farmGrownsSpec)

/-- 'ratoonlaw02.FarmCuts', WHERE WHAT IT READS IS OF BULK AT MOST 1048576: true; the input reads as it did. -/
def farmCutsUptoRow : OpenClaim := { program := "ytnioeddjaihmmaa", sum := "f4e339e1c1fc50fb60a9f9b806dbba8318c2f6c4c6b79aea60ba644d6bfac9b7", func := "ratoon/ratoonlaw02.FarmCuts", spec := "farmCuts", unfollowed := true, recurses := true, plainKeys := false, apart := false, narrowed := true }
def FarmCutsUptoSaid : Prop := farmCutsUptoRow.holds Try.pinned (OpenSpec.upto farmCutsSpec)

/-- 'ratoonlaw02.FarmEarlies', WHERE WHAT IT READS IS OF BULK AT MOST 1048576: true; the input reads as it did. -/
def farmEarliesUptoRow : OpenClaim := { program := "ytnioeddjaihmmaa", sum := "f4e339e1c1fc50fb60a9f9b806dbba8318c2f6c4c6b79aea60ba644d6bfac9b7", func := "ratoon/ratoonlaw02.FarmEarlies", spec := "farmEarlies", unfollowed := true, recurses := true, plainKeys := false, apart := false, narrowed := true }
def FarmEarliesUptoSaid : Prop := farmEarliesUptoRow.holds Try.pinned (OpenSpec.upto farmEarliesSpec)

/-- 'ratoonlaw02.FarmKnown', WHERE WHAT IT READS IS OF BULK AT MOST 1048576: true; the input reads as it did. -/
def farmKnownUptoRow : OpenClaim := { program := "ytnioeddjaihmmaa", sum := "f4e339e1c1fc50fb60a9f9b806dbba8318c2f6c4c6b79aea60ba644d6bfac9b7", func := "ratoon/ratoonlaw02.FarmKnown", spec := "farmKnown", unfollowed := true, recurses := true, plainKeys := false, apart := false, narrowed := true }
def FarmKnownUptoSaid : Prop := farmKnownUptoRow.holds Try.pinned (OpenSpec.upto farmKnownSpec)

/-- 'ratoonlaw02.FarmTrue', WHERE WHAT IT READS IS OF BULK AT MOST 1048576: true; the input reads as it did. -/
def farmTrueUptoRow : OpenClaim := { program := "ytnioeddjaihmmaa", sum := "f4e339e1c1fc50fb60a9f9b806dbba8318c2f6c4c6b79aea60ba644d6bfac9b7", func := "ratoon/ratoonlaw02.FarmTrue", spec := "farmTrue", unfollowed := true, recurses := true, plainKeys := false, apart := false, narrowed := true }
def FarmTrueUptoSaid : Prop := farmTrueUptoRow.holds Try.pinned (OpenSpec.upto farmTrueSpec)

/-- 'ratoonlaw02.FarmShip', WHERE WHAT IT READS IS OF BULK AT MOST 1048576: true; the input reads as it did. -/
def farmShipUptoRow : OpenClaim := { program := "ytnioeddjaihmmaa", sum := "f4e339e1c1fc50fb60a9f9b806dbba8318c2f6c4c6b79aea60ba644d6bfac9b7", func := "ratoon/ratoonlaw02.FarmShip", spec := "farmShip", unfollowed := true, recurses := true, plainKeys := false, apart := false, narrowed := true }
def FarmShipUptoSaid : Prop := farmShipUptoRow.holds Try.pinned (OpenSpec.upto farmShipSpec)

/-- 'ratoonlaw02.FarmFewest', WHERE WHAT IT READS IS OF BULK AT MOST 1048576: true; the input reads as it did. -/
def farmFewestUptoRow : OpenClaim := { program := "ytnioeddjaihmmaa", sum := "f4e339e1c1fc50fb60a9f9b806dbba8318c2f6c4c6b79aea60ba644d6bfac9b7", func := "ratoon/ratoonlaw02.FarmFewest", spec := "farmFewest", unfollowed := true, recurses := true, plainKeys := false, apart := false, narrowed := true }
def FarmFewestUptoSaid : Prop := farmFewestUptoRow.holds Try.pinned (OpenSpec.upto farmFewestSpec)

/-- 'ratoonlaw02.FarmWrong', WHERE WHAT IT READS IS OF BULK AT MOST 1048576: true; the input reads as it did. -/
def farmWrongUptoRow : OpenClaim := { program := "ytnioeddjaihmmaa", sum := "f4e339e1c1fc50fb60a9f9b806dbba8318c2f6c4c6b79aea60ba644d6bfac9b7", func := "ratoon/ratoonlaw02.FarmWrong", spec := "farmWrong", unfollowed := true, recurses := true, plainKeys := false, apart := false, narrowed := true }
def FarmWrongUptoSaid : Prop := farmWrongUptoRow.holds Try.pinned (OpenSpec.upto farmWrongSpec)

/-- 'ratoonlaw02.FarmMore', WHERE WHAT IT READS IS OF BULK AT MOST 1048576: true; the input reads as it did. -/
def farmMoreUptoRow : OpenClaim := { program := "ytnioeddjaihmmaa", sum := "f4e339e1c1fc50fb60a9f9b806dbba8318c2f6c4c6b79aea60ba644d6bfac9b7", func := "ratoon/ratoonlaw02.FarmMore", spec := "farmMore", unfollowed := true, recurses := true, plainKeys := false, apart := false, narrowed := true }
def FarmMoreUptoSaid : Prop := farmMoreUptoRow.holds Try.pinned (OpenSpec.upto farmMoreSpec)

/-- 'ratoonlaw02.FarmGrows', WHERE WHAT IT READS IS OF BULK AT MOST 1048576: true; the input reads as it did. -/
def farmGrowsUptoRow : OpenClaim := { program := "ytnioeddjaihmmaa", sum := "f4e339e1c1fc50fb60a9f9b806dbba8318c2f6c4c6b79aea60ba644d6bfac9b7", func := "ratoon/ratoonlaw02.FarmGrows", spec := "farmGrows", unfollowed := true, recurses := true, plainKeys := false, apart := false, narrowed := true }
def FarmGrowsUptoSaid : Prop := farmGrowsUptoRow.holds Try.pinned (OpenSpec.upto farmGrowsSpec)

/-- 'ratoonlaw02.FarmDays', WHERE WHAT IT READS IS OF BULK AT MOST 1048576: true; the input reads as it did. -/
def farmDaysUptoRow : OpenClaim := { program := "ytnioeddjaihmmaa", sum := "f4e339e1c1fc50fb60a9f9b806dbba8318c2f6c4c6b79aea60ba644d6bfac9b7", func := "ratoon/ratoonlaw02.FarmDays", spec := "farmDays", unfollowed := true, recurses := true, plainKeys := false, apart := false, narrowed := true }
def FarmDaysUptoSaid : Prop := farmDaysUptoRow.holds Try.pinned (OpenSpec.upto farmDaysSpec)

/-- 'ratoonlaw02.FarmShorter', WHERE WHAT IT READS IS OF BULK AT MOST 1048576: true; the input reads as it did. -/
def farmShorterUptoRow : OpenClaim := { program := "ytnioeddjaihmmaa", sum := "f4e339e1c1fc50fb60a9f9b806dbba8318c2f6c4c6b79aea60ba644d6bfac9b7", func := "ratoon/ratoonlaw02.FarmShorter", spec := "farmShorter", unfollowed := true, recurses := true, plainKeys := false, apart := false, narrowed := true }
def FarmShorterUptoSaid : Prop := farmShorterUptoRow.holds Try.pinned (OpenSpec.upto farmShorterSpec)

end Rows
end Go.Proofs.Ytnioeddjaihmmaa
