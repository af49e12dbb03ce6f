/-
  No cell of these rows narrows 'for every input' (looked for: loops, veiled, ifaces, maps, wideKeys, modest, calm, conditions, laid).
  DERIVED. THE GIVEN ROWS OF THIS SEAT. 12 by the template 'for every input the law returns true; each argument reads behind the call as it read before'; 0 by the template 'total and deterministic' (their statements: YtkppbjllknnilaaTotals.lean).
  GIVEN WITH THE SEED: the statements are not yours to turn. If you find one false, say at which input.
  Laid BY PROGRAM, IN A SANDBOX (cutbox-rows.mjs): the forced cells as the released guide's own fill.sh prints them over the translation d4a340556503bfee… (all of the seat's roots in one cut). By AI agents, Wed Nov 11 2026. No macro, syntax, notation, axiom, sorry.
-/
import Derived.Test.YtkppbjllknnilaaChecked
import GoSem.Claim
import GoSem.ClaimJoined
import GoSem.ClaimMapViews
import Derived.JoinedTies
import Derived.KernelRfl
namespace Go.Proofs.Ytkppbjllknnilaa
/- THE CELL 'sum', in the pinned program and in every row, IS THE sha256 OF THE DUMP (.gsa) THAT YtkppbjllknnilaaProg.lean LOADS. Nothing in Lean hashes anything: it is a label: what it is worth is what the hold of that sum in a sandbox is worth. -/
noncomputable def Try.pinned : Pinned := { name := "ytkppbjllknnilaa", sum := "d4a340556503bfee0408576aacf65c7a4df2e7175efcae1c1cc0c81dbc6274e2", checked := Try.checked }
namespace Rows
def none {H : Type} : Left H := { results := [], args := [] }

/-- 'ratoonlaw08.RoomPoints': WHATEVER THE INPUT: true; the input reads as it did. -/
def roomPointsSpec : ChangeSpec := { name := "roomPoints", fn := fun _ => fun
  | [d1, d2] => { results := [.lit (.bool true)], args := [d1, d2] }
  | _ => none }
def roomPointsRow : OpenClaim := { program := "ytkppbjllknnilaa", sum := "d4a340556503bfee0408576aacf65c7a4df2e7175efcae1c1cc0c81dbc6274e2", func := "ratoon/ratoonlaw08.RoomPoints", spec := "roomPoints", unfollowed := true, recurses := true, plainKeys := false, apart := false }
def RoomPointsSaid : Prop := roomPointsRow.holds Try.pinned (OpenSpec.ofChange roomPointsSpec)

/-- ITS FALSE NEIGHBOUR: 'it returns false'. Refute it at one input. -/
def roomPointsWrong : ChangeSpec := { name := "roomPoints", fn := fun _ => fun
  | [d1, d2] => { results := [.lit (.bool false)], args := [d1, d2] }
  | _ => none }
def RoomPointsWrongFalsely : Prop := roomPointsRow.holds Try.pinned (OpenSpec.ofChange roomPointsWrong)

/-- 'ratoonlaw08.RoomBecomes': WHATEVER THE INPUT: true; the input reads as it did. -/
def roomBecomesSpec : ChangeSpec := { name := "roomBecomes", fn := fun _ => fun
  | [d1, d2, d3] => { results := [.lit (.bool true)], args := [d1, d2, d3] }
  | _ => none }
def roomBecomesRow : OpenClaim := { program := "ytkppbjllknnilaa", sum := "d4a340556503bfee0408576aacf65c7a4df2e7175efcae1c1cc0c81dbc6274e2", func := "ratoon/ratoonlaw08.RoomBecomes", spec := "roomBecomes", unfollowed := true, recurses := true, plainKeys := false, apart := false }
def RoomBecomesSaid : Prop := roomBecomesRow.holds Try.pinned (OpenSpec.ofChange roomBecomesSpec)

/-- ITS FALSE NEIGHBOUR: 'it returns false'. Refute it at one input. -/
def roomBecomesWrong : ChangeSpec := { name := "roomBecomes", fn := fun _ => fun
  | [d1, d2, d3] => { results := [.lit (.bool false)], args := [d1, d2, d3] }
  | _ => none }
def RoomBecomesWrongFalsely : Prop := roomBecomesRow.holds Try.pinned (OpenSpec.ofChange roomBecomesWrong)

/-- 'ratoonlaw08.RoomPlans': WHATEVER THE INPUT: true; the input reads as it did. -/
def roomPlansSpec : ChangeSpec := { name := "roomPlans", fn := fun _ => fun
  | [d1, d2, d3] => { results := [.lit (.bool true)], args := [d1, d2, d3] }
  | _ => none }
def roomPlansRow : OpenClaim := { program := "ytkppbjllknnilaa", sum := "d4a340556503bfee0408576aacf65c7a4df2e7175efcae1c1cc0c81dbc6274e2", func := "ratoon/ratoonlaw08.RoomPlans", spec := "roomPlans", unfollowed := true, recurses := true, plainKeys := false, apart := false }
def RoomPlansSaid : Prop := roomPlansRow.holds Try.pinned (OpenSpec.ofChange roomPlansSpec)

/-- ITS FALSE NEIGHBOUR: 'it returns false'. Refute it at one input. -/
def roomPlansWrong : ChangeSpec := { name := "roomPlans", fn := fun _ => fun
  | [d1, d2, d3] => { results := [.lit (.bool false)], args := [d1, d2, d3] }
  | _ => none }
def RoomPlansWrongFalsely : Prop := roomPlansRow.holds Try.pinned (OpenSpec.ofChange roomPlansWrong)

/-- 'ratoonlaw08.RoomKnown': WHATEVER THE INPUT: true; the input reads as it did. -/
def roomKnownSpec : ChangeSpec := { name := "roomKnown", fn := fun _ => fun
  | [] => { results := [.lit (.bool true)], args := [] }
  | _ => none }
def roomKnownRow : OpenClaim := { program := "ytkppbjllknnilaa", sum := "d4a340556503bfee0408576aacf65c7a4df2e7175efcae1c1cc0c81dbc6274e2", func := "ratoon/ratoonlaw08.RoomKnown", spec := "roomKnown", unfollowed := true, recurses := true, plainKeys := false, apart := false }
def RoomKnownSaid : Prop := roomKnownRow.holds Try.pinned (OpenSpec.ofChange roomKnownSpec)

/-- ITS FALSE NEIGHBOUR: 'it returns false'. Refute it at one input. -/
def roomKnownWrong : ChangeSpec := { name := "roomKnown", fn := fun _ => fun
  | [] => { results := [.lit (.bool false)], args := [] }
  | _ => none }
def RoomKnownWrongFalsely : Prop := roomKnownRow.holds Try.pinned (OpenSpec.ofChange roomKnownWrong)

/-- 'ratoonlaw08.RoomTrue': WHATEVER THE INPUT: true; the input reads as it did. -/
def roomTrueSpec : ChangeSpec := { name := "roomTrue", fn := fun _ => fun
  | [d1, d2, d3] => { results := [.lit (.bool true)], args := [d1, d2, d3] }
  | _ => none }
def roomTrueRow : OpenClaim := { program := "ytkppbjllknnilaa", sum := "d4a340556503bfee0408576aacf65c7a4df2e7175efcae1c1cc0c81dbc6274e2", func := "ratoon/ratoonlaw08.RoomTrue", spec := "roomTrue", unfollowed := true, recurses := true, plainKeys := false, apart := false }
def RoomTrueSaid : Prop := roomTrueRow.holds Try.pinned (OpenSpec.ofChange roomTrueSpec)

/-- ITS FALSE NEIGHBOUR: 'it returns false'. Refute it at one input. -/
def roomTrueWrong : ChangeSpec := { name := "roomTrue", fn := fun _ => fun
  | [d1, d2, d3] => { results := [.lit (.bool false)], args := [d1, d2, d3] }
  | _ => none }
def RoomTrueWrongFalsely : Prop := roomTrueRow.holds Try.pinned (OpenSpec.ofChange roomTrueWrong)

/-- 'ratoonlaw08.RoomPlan': WHATEVER THE INPUT: true; the input reads as it did. -/
def roomPlanSpec : ChangeSpec := { name := "roomPlan", fn := fun _ => fun
  | [d1, d2, d3] => { results := [.lit (.bool true)], args := [d1, d2, d3] }
  | _ => none }
def roomPlanRow : OpenClaim := { program := "ytkppbjllknnilaa", sum := "d4a340556503bfee0408576aacf65c7a4df2e7175efcae1c1cc0c81dbc6274e2", func := "ratoon/ratoonlaw08.RoomPlan", spec := "roomPlan", unfollowed := true, recurses := true, plainKeys := false, apart := false }
def RoomPlanSaid : Prop := roomPlanRow.holds Try.pinned (OpenSpec.ofChange roomPlanSpec)

/-- ITS FALSE NEIGHBOUR: 'it returns false'. Refute it at one input. -/
def roomPlanWrong : ChangeSpec := { name := "roomPlan", fn := fun _ => fun
  | [d1, d2, d3] => { results := [.lit (.bool false)], args := [d1, d2, d3] }
  | _ => none }
def RoomPlanWrongFalsely : Prop := roomPlanRow.holds Try.pinned (OpenSpec.ofChange roomPlanWrong)

/-- 'ratoonlaw08.RoomFewest': WHATEVER THE INPUT: true; the input reads as it did. -/
def roomFewestSpec : ChangeSpec := { name := "roomFewest", fn := fun _ => fun
  | [d1, d2] => { results := [.lit (.bool true)], args := [d1, d2] }
  | _ => none }
def roomFewestRow : OpenClaim := { program := "ytkppbjllknnilaa", sum := "d4a340556503bfee0408576aacf65c7a4df2e7175efcae1c1cc0c81dbc6274e2", func := "ratoon/ratoonlaw08.RoomFewest", spec := "roomFewest", unfollowed := true, recurses := true, plainKeys := false, apart := false }
def RoomFewestSaid : Prop := roomFewestRow.holds Try.pinned (OpenSpec.ofChange roomFewestSpec)

/-- ITS FALSE NEIGHBOUR: 'it returns false'. Refute it at one input. -/
def roomFewestWrong : ChangeSpec := { name := "roomFewest", fn := fun _ => fun
  | [d1, d2] => { results := [.lit (.bool false)], args := [d1, d2] }
  | _ => none }
def RoomFewestWrongFalsely : Prop := roomFewestRow.holds Try.pinned (OpenSpec.ofChange roomFewestWrong)

/-- 'ratoonlaw08.RoomMore': WHATEVER THE INPUT: true; the input reads as it did. -/
def roomMoreSpec : ChangeSpec := { name := "roomMore", fn := fun _ => fun
  | [d1, d2, d3] => { results := [.lit (.bool true)], args := [d1, d2, d3] }
  | _ => none }
def roomMoreRow : OpenClaim := { program := "ytkppbjllknnilaa", sum := "d4a340556503bfee0408576aacf65c7a4df2e7175efcae1c1cc0c81dbc6274e2", func := "ratoon/ratoonlaw08.RoomMore", spec := "roomMore", unfollowed := true, recurses := true, plainKeys := false, apart := false }
def RoomMoreSaid : Prop := roomMoreRow.holds Try.pinned (OpenSpec.ofChange roomMoreSpec)

/-- ITS FALSE NEIGHBOUR: 'it returns false'. Refute it at one input. -/
def roomMoreWrong : ChangeSpec := { name := "roomMore", fn := fun _ => fun
  | [d1, d2, d3] => { results := [.lit (.bool false)], args := [d1, d2, d3] }
  | _ => none }
def RoomMoreWrongFalsely : Prop := roomMoreRow.holds Try.pinned (OpenSpec.ofChange roomMoreWrong)

/-- 'ratoonlaw08.RoomRipens': WHATEVER THE INPUT: true; the input reads as it did. -/
def roomRipensSpec : ChangeSpec := { name := "roomRipens", fn := fun _ => fun
  | [d1, d2] => { results := [.lit (.bool true)], args := [d1, d2] }
  | _ => none }
def roomRipensRow : OpenClaim := { program := "ytkppbjllknnilaa", sum := "d4a340556503bfee0408576aacf65c7a4df2e7175efcae1c1cc0c81dbc6274e2", func := "ratoon/ratoonlaw08.RoomRipens", spec := "roomRipens", unfollowed := true, recurses := true, plainKeys := false, apart := false }
def RoomRipensSaid : Prop := roomRipensRow.holds Try.pinned (OpenSpec.ofChange roomRipensSpec)

/-- ITS FALSE NEIGHBOUR: 'it returns false'. Refute it at one input. -/
def roomRipensWrong : ChangeSpec := { name := "roomRipens", fn := fun _ => fun
  | [d1, d2] => { results := [.lit (.bool false)], args := [d1, d2] }
  | _ => none }
def RoomRipensWrongFalsely : Prop := roomRipensRow.holds Try.pinned (OpenSpec.ofChange roomRipensWrong)

/-- 'ratoonlaw08.RoomReached': WHATEVER THE INPUT: true; the input reads as it did. -/
def roomReachedSpec : ChangeSpec := { name := "roomReached", fn := fun _ => fun
  | [d1, d2] => { results := [.lit (.bool true)], args := [d1, d2] }
  | _ => none }
def roomReachedRow : OpenClaim := { program := "ytkppbjllknnilaa", sum := "d4a340556503bfee0408576aacf65c7a4df2e7175efcae1c1cc0c81dbc6274e2", func := "ratoon/ratoonlaw08.RoomReached", spec := "roomReached", unfollowed := true, recurses := true, plainKeys := false, apart := false }
def RoomReachedSaid : Prop := roomReachedRow.holds Try.pinned (OpenSpec.ofChange roomReachedSpec)

/-- ITS FALSE NEIGHBOUR: 'it returns false'. Refute it at one input. -/
def roomReachedWrong : ChangeSpec := { name := "roomReached", fn := fun _ => fun
  | [d1, d2] => { results := [.lit (.bool false)], args := [d1, d2] }
  | _ => none }
def RoomReachedWrongFalsely : Prop := roomReachedRow.holds Try.pinned (OpenSpec.ofChange roomReachedWrong)

/-- 'ratoonlaw08.RoomFilled': WHATEVER THE INPUT: true; the input reads as it did. -/
def roomFilledSpec : ChangeSpec := { name := "roomFilled", fn := fun _ => fun
  | [d1, d2] => { results := [.lit (.bool true)], args := [d1, d2] }
  | _ => none }
def roomFilledRow : OpenClaim := { program := "ytkppbjllknnilaa", sum := "d4a340556503bfee0408576aacf65c7a4df2e7175efcae1c1cc0c81dbc6274e2", func := "ratoon/ratoonlaw08.RoomFilled", spec := "roomFilled", unfollowed := true, recurses := true, plainKeys := false, apart := false }
def RoomFilledSaid : Prop := roomFilledRow.holds Try.pinned (OpenSpec.ofChange roomFilledSpec)

/-- ITS FALSE NEIGHBOUR: 'it returns false'. Refute it at one input. -/
def roomFilledWrong : ChangeSpec := { name := "roomFilled", fn := fun _ => fun
  | [d1, d2] => { results := [.lit (.bool false)], args := [d1, d2] }
  | _ => none }
def RoomFilledWrongFalsely : Prop := roomFilledRow.holds Try.pinned (OpenSpec.ofChange roomFilledWrong)

/-- 'ratoonlaw08.RoomOften': WHATEVER THE INPUT: true; the input reads as it did. -/
def roomOftenSpec : ChangeSpec := { name := "roomOften", fn := fun _ => fun
  | [d1, d2, d3] => { results := [.lit (.bool true)], args := [d1, d2, d3] }
  | _ => none }
def roomOftenRow : OpenClaim := { program := "ytkppbjllknnilaa", sum := "d4a340556503bfee0408576aacf65c7a4df2e7175efcae1c1cc0c81dbc6274e2", func := "ratoon/ratoonlaw08.RoomOften", spec := "roomOften", unfollowed := true, recurses := true, plainKeys := false, apart := false }
def RoomOftenSaid : Prop := roomOftenRow.holds Try.pinned (OpenSpec.ofChange roomOftenSpec)

/-- ITS FALSE NEIGHBOUR: 'it returns false'. Refute it at one input. -/
def roomOftenWrong : ChangeSpec := { name := "roomOften", fn := fun _ => fun
  | [d1, d2, d3] => { results := [.lit (.bool false)], args := [d1, d2, d3] }
  | _ => none }
def RoomOftenWrongFalsely : Prop := roomOftenRow.holds Try.pinned (OpenSpec.ofChange roomOftenWrong)

/- THE SECOND FORM. 'bulk': how many values and letters a reading holds, each counted each time it is reached (what is shared counts as often as it is met; a slice's spare places count too). A statement '..UptoSaid' is the law's where the arguments, and the package variables that the reading takes, are together of bulk at most 1048576: NARROWER than '..Said'. Prove '..Said' where nothing that the law and all that it calls make is longer than what came in: it says more and counts as full. Else prove '..UptoSaid'. A law counts once. -/
mutual
def uptoBulk {H : Type} : DataW H → Nat
  | .lit (.string bytes) => bytes.length + 1
  | .lit _ => 1
  | .nil => 1
  | .ptr d => uptoBulk d + 1
  | .slice elems spare => uptoBulkAll elems + uptoBulkAll spare + 1
  | .agg parts => uptoBulkAll parts + 1
  | .iface _ d => uptoBulk d + 1
  | .map entries => uptoBulkEntries entries + 1
  | .held _ => 1
def uptoBulkAll {H : Type} : List (DataW H) → Nat
  | [] => 0
  | d :: r => uptoBulk d + uptoBulkAll r
def uptoBulkEntries {H : Type} : List (Lit × DataW H) → Nat
  | [] => 0
  | x :: r => uptoBulkEntry x + uptoBulkEntries r
def uptoBulkEntry {H : Type} : Lit × DataW H → Nat
  | (.string bytes, d) => bytes.length + uptoBulk d + 1
  | (_, d) => uptoBulk d + 1
 end
def uptoSmall : (H : Type) → List (DataW H) → Bool := fun _ ds => decide (uptoBulkAll ds ≤ 1048576)
def OpenSpec.upto (s : _root_.Go.ChangeSpec) : _root_.Go.OpenSpec := { _root_.Go.OpenSpec.ofChange s with cond := some uptoSmall }

/-- 'ratoonlaw08.RoomPoints', WHERE WHAT IT READS IS OF BULK AT MOST 1048576: true; the input reads as it did. -/
def roomPointsUptoRow : OpenClaim := { program := "ytkppbjllknnilaa", sum := "d4a340556503bfee0408576aacf65c7a4df2e7175efcae1c1cc0c81dbc6274e2", func := "ratoon/ratoonlaw08.RoomPoints", spec := "roomPoints", unfollowed := true, recurses := true, plainKeys := false, apart := false, narrowed := true }
def RoomPointsUptoSaid : Prop := roomPointsUptoRow.holds Try.pinned (OpenSpec.upto roomPointsSpec)

/-- 'ratoonlaw08.RoomBecomes', WHERE WHAT IT READS IS OF BULK AT MOST 1048576: true; the input reads as it did. -/
def roomBecomesUptoRow : OpenClaim := { program := "ytkppbjllknnilaa", sum := "d4a340556503bfee0408576aacf65c7a4df2e7175efcae1c1cc0c81dbc6274e2", func := "ratoon/ratoonlaw08.RoomBecomes", spec := "roomBecomes", unfollowed := true, recurses := true, plainKeys := false, apart := false, narrowed := true }
def RoomBecomesUptoSaid : Prop := roomBecomesUptoRow.holds Try.pinned (OpenSpec.upto roomBecomesSpec)

/-- 'ratoonlaw08.RoomPlans', WHERE WHAT IT READS IS OF BULK AT MOST 1048576: true; the input reads as it did. -/
def roomPlansUptoRow : OpenClaim := { program := "ytkppbjllknnilaa", sum := "d4a340556503bfee0408576aacf65c7a4df2e7175efcae1c1cc0c81dbc6274e2", func := "ratoon/ratoonlaw08.RoomPlans", spec := "roomPlans", unfollowed := true, recurses := true, plainKeys := false, apart := false, narrowed := true }
def RoomPlansUptoSaid : Prop := roomPlansUptoRow.holds Try.pinned (OpenSpec.upto roomPlansSpec)

/-- 'ratoonlaw08.RoomKnown', WHERE WHAT IT READS IS OF BULK AT MOST 1048576: true; the input reads as it did. -/
def roomKnownUptoRow : OpenClaim := { program := "ytkppbjllknnilaa", sum := "d4a340556503bfee0408576aacf65c7a4df2e7175efcae1c1cc0c81dbc6274e2", func := "ratoon/ratoonlaw08.RoomKnown", spec := "roomKnown", unfollowed := true, recurses := true, plainKeys := false, apart := false, narrowed := true }
def RoomKnownUptoSaid : Prop := roomKnownUptoRow.holds Try.pinned (OpenSpec.upto roomKnownSpec)

/-- 'ratoonlaw08.RoomTrue', WHERE WHAT IT READS IS OF BULK AT MOST 1048576: true; the input reads as it did. -/
def roomTrueUptoRow : OpenClaim := { program := "ytkppbjllknnilaa", sum := "d4a340556503bfee0408576aacf65c7a4df2e7175efcae1c1cc0c81dbc6274e2", func := "ratoon/ratoonlaw08.RoomTrue", spec := "roomTrue", unfollowed := true, recurses := true, plainKeys := false, apart := false, narrowed := true }
def RoomTrueUptoSaid : Prop := roomTrueUptoRow.holds Try.pinned (OpenSpec.upto roomTrueSpec)

/-- 'ratoonlaw08.RoomPlan', WHERE WHAT IT READS IS OF BULK AT MOST 1048576: true; the input reads as it did. -/
def roomPlanUptoRow : OpenClaim := { program := "ytkppbjllknnilaa", sum := "d4a340556503bfee0408576aacf65c7a4df2e7175efcae1c1cc0c81dbc6274e2", func := "ratoon/ratoonlaw08.RoomPlan", spec := "roomPlan", unfollowed := true, recurses := true, plainKeys := false, apart := false, narrowed := true }
def RoomPlanUptoSaid : Prop := roomPlanUptoRow.holds Try.pinned (OpenSpec.upto roomPlanSpec)

/-- 'ratoonlaw08.RoomFewest', WHERE WHAT IT READS IS OF BULK AT MOST 1048576: true; the input reads as it did. -/
def roomFewestUptoRow : OpenClaim := { program := "ytkppbjllknnilaa", sum := "d4a340556503bfee0408576aacf65c7a4df2e7175efcae1c1cc0c81dbc6274e2", func := "ratoon/ratoonlaw08.RoomFewest", spec := "roomFewest", unfollowed := true, recurses := true, plainKeys := false, apart := false, narrowed := true }
def RoomFewestUptoSaid : Prop := roomFewestUptoRow.holds Try.pinned (OpenSpec.upto roomFewestSpec)

/-- 'ratoonlaw08.RoomMore', WHERE WHAT IT READS IS OF BULK AT MOST 1048576: true; the input reads as it did. -/
def roomMoreUptoRow : OpenClaim := { program := "ytkppbjllknnilaa", sum := "d4a340556503bfee0408576aacf65c7a4df2e7175efcae1c1cc0c81dbc6274e2", func := "ratoon/ratoonlaw08.RoomMore", spec := "roomMore", unfollowed := true, recurses := true, plainKeys := false, apart := false, narrowed := true }
def RoomMoreUptoSaid : Prop := roomMoreUptoRow.holds Try.pinned (OpenSpec.upto roomMoreSpec)

/-- 'ratoonlaw08.RoomRipens', WHERE WHAT IT READS IS OF BULK AT MOST 1048576: true; the input reads as it did. -/
def roomRipensUptoRow : OpenClaim := { program := "ytkppbjllknnilaa", sum := "d4a340556503bfee0408576aacf65c7a4df2e7175efcae1c1cc0c81dbc6274e2", func := "ratoon/ratoonlaw08.RoomRipens", spec := "roomRipens", unfollowed := true, recurses := true, plainKeys := false, apart := false, narrowed := true }
def RoomRipensUptoSaid : Prop := roomRipensUptoRow.holds Try.pinned (OpenSpec.upto roomRipensSpec)

/-- 'ratoonlaw08.RoomReached', WHERE WHAT IT READS IS OF BULK AT MOST 1048576: true; the input reads as it did. -/
def roomReachedUptoRow : OpenClaim := { program := "ytkppbjllknnilaa", sum := "d4a340556503bfee0408576aacf65c7a4df2e7175efcae1c1cc0c81dbc6274e2", func := "ratoon/ratoonlaw08.RoomReached", spec := "roomReached", unfollowed := true, recurses := true, plainKeys := false, apart := false, narrowed := true }
def RoomReachedUptoSaid : Prop := roomReachedUptoRow.holds Try.pinned (OpenSpec.upto roomReachedSpec)

/-- 'ratoonlaw08.RoomFilled', WHERE WHAT IT READS IS OF BULK AT MOST 1048576: true; the input reads as it did. -/
def roomFilledUptoRow : OpenClaim := { program := "ytkppbjllknnilaa", sum := "d4a340556503bfee0408576aacf65c7a4df2e7175efcae1c1cc0c81dbc6274e2", func := "ratoon/ratoonlaw08.RoomFilled", spec := "roomFilled", unfollowed := true, recurses := true, plainKeys := false, apart := false, narrowed := true }
def RoomFilledUptoSaid : Prop := roomFilledUptoRow.holds Try.pinned (OpenSpec.upto roomFilledSpec)

/-- 'ratoonlaw08.RoomOften', WHERE WHAT IT READS IS OF BULK AT MOST 1048576: true; the input reads as it did. -/
def roomOftenUptoRow : OpenClaim := { program := "ytkppbjllknnilaa", sum := "d4a340556503bfee0408576aacf65c7a4df2e7175efcae1c1cc0c81dbc6274e2", func := "ratoon/ratoonlaw08.RoomOften", spec := "roomOften", unfollowed := true, recurses := true, plainKeys := false, apart := false, narrowed := true }
def RoomOftenUptoSaid : Prop := roomOftenUptoRow.holds Try.pinned (OpenSpec.upto roomOftenSpec)

end Rows
end Go.Proofs.Ytkppbjllknnilaa
