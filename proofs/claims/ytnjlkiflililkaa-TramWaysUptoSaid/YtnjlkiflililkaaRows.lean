/-
  No cell of these rows narrows 'for every input' (looked for: loops, veiled, ifaces, maps, wideKeys, modest, calm, conditions, laid).
  DERIVED. THE GIVEN ROWS OF THIS SEAT. 14 by the template 'for every input the law returns true; each argument reads behind the call as it read before'; 0 by the template 'total and deterministic' (their statements: YtnjlkiflililkaaTotals.lean).
  GIVEN WITH THE SEED: the statements are not yours to turn. If you find one false, say at which input.
  Laid BY PROGRAM, IN A SANDBOX (cutbox-rows.mjs): the forced cells as the released guide's own fill.sh prints them over the translation ad293b71709ca0a2… (all of the seat's roots in one cut). By AI agents, Wed Nov 11 2026. No macro, syntax, notation, axiom, sorry.
-/
import Derived.Test.YtnjlkiflililkaaChecked
import GoSem.Claim
import GoSem.ClaimJoined
import GoSem.ClaimMapViews
import Derived.JoinedTies
import Derived.KernelRfl
namespace Go.Proofs.Ytnjlkiflililkaa
/- THE CELL 'sum', in the pinned program and in every row, IS THE sha256 OF THE DUMP (.gsa) THAT YtnjlkiflililkaaProg.lean LOADS. Nothing in Lean hashes anything: it is a label: what it is worth is what the hold of that sum in a sandbox is worth. -/
noncomputable def Try.pinned : Pinned := { name := "ytnjlkiflililkaa", sum := "ad293b71709ca0a20c4b5f84bdad74f9b9936c0aebe8d74d9a2b93c302e95ab2", checked := Try.checked }
namespace Rows
def none {H : Type} : Left H := { results := [], args := [] }

/-- 'ratoonlaw04.TramPaths': WHATEVER THE INPUT: true; the input reads as it did. -/
def tramPathsSpec : ChangeSpec := { name := "tramPaths", fn := fun _ => fun
  | [d1, d2] => { results := [.lit (.bool true)], args := [d1, d2] }
  | _ => none }
def tramPathsRow : OpenClaim := { program := "ytnjlkiflililkaa", sum := "ad293b71709ca0a20c4b5f84bdad74f9b9936c0aebe8d74d9a2b93c302e95ab2", func := "ratoon/ratoonlaw04.TramPaths", spec := "tramPaths", unfollowed := true, recurses := true, plainKeys := false, apart := false }
def TramPathsSaid : Prop := tramPathsRow.holds Try.pinned (OpenSpec.ofChange tramPathsSpec)

/-- ITS FALSE NEIGHBOUR: 'it returns false'. Refute it at one input. -/
def tramPathsWrong : ChangeSpec := { name := "tramPaths", fn := fun _ => fun
  | [d1, d2] => { results := [.lit (.bool false)], args := [d1, d2] }
  | _ => none }
def TramPathsWrongFalsely : Prop := tramPathsRow.holds Try.pinned (OpenSpec.ofChange tramPathsWrong)

/-- 'ratoonlaw04.TramComes': WHATEVER THE INPUT: true; the input reads as it did. -/
def tramComesSpec : ChangeSpec := { name := "tramComes", fn := fun _ => fun
  | [d1, d2] => { results := [.lit (.bool true)], args := [d1, d2] }
  | _ => none }
def tramComesRow : OpenClaim := { program := "ytnjlkiflililkaa", sum := "ad293b71709ca0a20c4b5f84bdad74f9b9936c0aebe8d74d9a2b93c302e95ab2", func := "ratoon/ratoonlaw04.TramComes", spec := "tramComes", unfollowed := true, recurses := true, plainKeys := false, apart := false }
def TramComesSaid : Prop := tramComesRow.holds Try.pinned (OpenSpec.ofChange tramComesSpec)

/-- ITS FALSE NEIGHBOUR: 'it returns false'. Refute it at one input. -/
def tramComesWrong : ChangeSpec := { name := "tramComes", fn := fun _ => fun
  | [d1, d2] => { results := [.lit (.bool false)], args := [d1, d2] }
  | _ => none }
def TramComesWrongFalsely : Prop := tramComesRow.holds Try.pinned (OpenSpec.ofChange tramComesWrong)

/-- 'ratoonlaw04.TramMoves': WHATEVER THE INPUT: true; the input reads as it did. -/
def tramMovesSpec : ChangeSpec := { name := "tramMoves", fn := fun _ => fun
  | [d] => { results := [.lit (.bool true)], args := [d] }
  | _ => none }
def tramMovesRow : OpenClaim := { program := "ytnjlkiflililkaa", sum := "ad293b71709ca0a20c4b5f84bdad74f9b9936c0aebe8d74d9a2b93c302e95ab2", func := "ratoon/ratoonlaw04.TramMoves", spec := "tramMoves", unfollowed := true, recurses := true, plainKeys := false, apart := false }
def TramMovesSaid : Prop := tramMovesRow.holds Try.pinned (OpenSpec.ofChange tramMovesSpec)

/-- ITS FALSE NEIGHBOUR: 'it returns false'. Refute it at one input. -/
def tramMovesWrong : ChangeSpec := { name := "tramMoves", fn := fun _ => fun
  | [d] => { results := [.lit (.bool false)], args := [d] }
  | _ => none }
def TramMovesWrongFalsely : Prop := tramMovesRow.holds Try.pinned (OpenSpec.ofChange tramMovesWrong)

/-- 'ratoonlaw04.TramShuts': WHATEVER THE INPUT: true; the input reads as it did. -/
def tramShutsSpec : ChangeSpec := { name := "tramShuts", fn := fun _ => fun
  | [d] => { results := [.lit (.bool true)], args := [d] }
  | _ => none }
def tramShutsRow : OpenClaim := { program := "ytnjlkiflililkaa", sum := "ad293b71709ca0a20c4b5f84bdad74f9b9936c0aebe8d74d9a2b93c302e95ab2", func := "ratoon/ratoonlaw04.TramShuts", spec := "tramShuts", unfollowed := true, recurses := true, plainKeys := false, apart := false }
def TramShutsSaid : Prop := tramShutsRow.holds Try.pinned (OpenSpec.ofChange tramShutsSpec)

/-- ITS FALSE NEIGHBOUR: 'it returns false'. Refute it at one input. -/
def tramShutsWrong : ChangeSpec := { name := "tramShuts", fn := fun _ => fun
  | [d] => { results := [.lit (.bool false)], args := [d] }
  | _ => none }
def TramShutsWrongFalsely : Prop := tramShutsRow.holds Try.pinned (OpenSpec.ofChange tramShutsWrong)

/-- 'ratoonlaw04.TramKnown': WHATEVER THE INPUT: true; the input reads as it did. -/
def tramKnownSpec : ChangeSpec := { name := "tramKnown", fn := fun _ => fun
  | [] => { results := [.lit (.bool true)], args := [] }
  | _ => none }
def tramKnownRow : OpenClaim := { program := "ytnjlkiflililkaa", sum := "ad293b71709ca0a20c4b5f84bdad74f9b9936c0aebe8d74d9a2b93c302e95ab2", func := "ratoon/ratoonlaw04.TramKnown", spec := "tramKnown", unfollowed := true, recurses := true, plainKeys := false, apart := false }
def TramKnownSaid : Prop := tramKnownRow.holds Try.pinned (OpenSpec.ofChange tramKnownSpec)

/-- ITS FALSE NEIGHBOUR: 'it returns false'. Refute it at one input. -/
def tramKnownWrong : ChangeSpec := { name := "tramKnown", fn := fun _ => fun
  | [] => { results := [.lit (.bool false)], args := [] }
  | _ => none }
def TramKnownWrongFalsely : Prop := tramKnownRow.holds Try.pinned (OpenSpec.ofChange tramKnownWrong)

/-- 'ratoonlaw04.TramTrue': WHATEVER THE INPUT: true; the input reads as it did. -/
def tramTrueSpec : ChangeSpec := { name := "tramTrue", fn := fun _ => fun
  | [d1, d2] => { results := [.lit (.bool true)], args := [d1, d2] }
  | _ => none }
def tramTrueRow : OpenClaim := { program := "ytnjlkiflililkaa", sum := "ad293b71709ca0a20c4b5f84bdad74f9b9936c0aebe8d74d9a2b93c302e95ab2", func := "ratoon/ratoonlaw04.TramTrue", spec := "tramTrue", unfollowed := true, recurses := true, plainKeys := false, apart := false }
def TramTrueSaid : Prop := tramTrueRow.holds Try.pinned (OpenSpec.ofChange tramTrueSpec)

/-- ITS FALSE NEIGHBOUR: 'it returns false'. Refute it at one input. -/
def tramTrueWrong : ChangeSpec := { name := "tramTrue", fn := fun _ => fun
  | [d1, d2] => { results := [.lit (.bool false)], args := [d1, d2] }
  | _ => none }
def TramTrueWrongFalsely : Prop := tramTrueRow.holds Try.pinned (OpenSpec.ofChange tramTrueWrong)

/-- 'ratoonlaw04.TramInTime': WHATEVER THE INPUT: true; the input reads as it did. -/
def tramInTimeSpec : ChangeSpec := { name := "tramInTime", fn := fun _ => fun
  | [d1, d2] => { results := [.lit (.bool true)], args := [d1, d2] }
  | _ => none }
def tramInTimeRow : OpenClaim := { program := "ytnjlkiflililkaa", sum := "ad293b71709ca0a20c4b5f84bdad74f9b9936c0aebe8d74d9a2b93c302e95ab2", func := "ratoon/ratoonlaw04.TramInTime", spec := "tramInTime", unfollowed := true, recurses := true, plainKeys := false, apart := false }
def TramInTimeSaid : Prop := tramInTimeRow.holds Try.pinned (OpenSpec.ofChange tramInTimeSpec)

/-- ITS FALSE NEIGHBOUR: 'it returns false'. Refute it at one input. -/
def tramInTimeWrong : ChangeSpec := { name := "tramInTime", fn := fun _ => fun
  | [d1, d2] => { results := [.lit (.bool false)], args := [d1, d2] }
  | _ => none }
def TramInTimeWrongFalsely : Prop := tramInTimeRow.holds Try.pinned (OpenSpec.ofChange tramInTimeWrong)

/-- 'ratoonlaw04.TramMoved': WHATEVER THE INPUT: true; the input reads as it did. -/
def tramMovedSpec : ChangeSpec := { name := "tramMoved", fn := fun _ => fun
  | [d1, d2] => { results := [.lit (.bool true)], args := [d1, d2] }
  | _ => none }
def tramMovedRow : OpenClaim := { program := "ytnjlkiflililkaa", sum := "ad293b71709ca0a20c4b5f84bdad74f9b9936c0aebe8d74d9a2b93c302e95ab2", func := "ratoon/ratoonlaw04.TramMoved", spec := "tramMoved", unfollowed := true, recurses := true, plainKeys := false, apart := false }
def TramMovedSaid : Prop := tramMovedRow.holds Try.pinned (OpenSpec.ofChange tramMovedSpec)

/-- ITS FALSE NEIGHBOUR: 'it returns false'. Refute it at one input. -/
def tramMovedWrong : ChangeSpec := { name := "tramMoved", fn := fun _ => fun
  | [d1, d2] => { results := [.lit (.bool false)], args := [d1, d2] }
  | _ => none }
def TramMovedWrongFalsely : Prop := tramMovedRow.holds Try.pinned (OpenSpec.ofChange tramMovedWrong)

/-- 'ratoonlaw04.TramFewest': WHATEVER THE INPUT: true; the input reads as it did. -/
def tramFewestSpec : ChangeSpec := { name := "tramFewest", fn := fun _ => fun
  | [d1, d2] => { results := [.lit (.bool true)], args := [d1, d2] }
  | _ => none }
def tramFewestRow : OpenClaim := { program := "ytnjlkiflililkaa", sum := "ad293b71709ca0a20c4b5f84bdad74f9b9936c0aebe8d74d9a2b93c302e95ab2", func := "ratoon/ratoonlaw04.TramFewest", spec := "tramFewest", unfollowed := true, recurses := true, plainKeys := false, apart := false }
def TramFewestSaid : Prop := tramFewestRow.holds Try.pinned (OpenSpec.ofChange tramFewestSpec)

/-- ITS FALSE NEIGHBOUR: 'it returns false'. Refute it at one input. -/
def tramFewestWrong : ChangeSpec := { name := "tramFewest", fn := fun _ => fun
  | [d1, d2] => { results := [.lit (.bool false)], args := [d1, d2] }
  | _ => none }
def TramFewestWrongFalsely : Prop := tramFewestRow.holds Try.pinned (OpenSpec.ofChange tramFewestWrong)

/-- 'ratoonlaw04.TramMore': WHATEVER THE INPUT: true; the input reads as it did. -/
def tramMoreSpec : ChangeSpec := { name := "tramMore", fn := fun _ => fun
  | [d1, d2] => { results := [.lit (.bool true)], args := [d1, d2] }
  | _ => none }
def tramMoreRow : OpenClaim := { program := "ytnjlkiflililkaa", sum := "ad293b71709ca0a20c4b5f84bdad74f9b9936c0aebe8d74d9a2b93c302e95ab2", func := "ratoon/ratoonlaw04.TramMore", spec := "tramMore", unfollowed := true, recurses := true, plainKeys := false, apart := false }
def TramMoreSaid : Prop := tramMoreRow.holds Try.pinned (OpenSpec.ofChange tramMoreSpec)

/-- ITS FALSE NEIGHBOUR: 'it returns false'. Refute it at one input. -/
def tramMoreWrong : ChangeSpec := { name := "tramMore", fn := fun _ => fun
  | [d1, d2] => { results := [.lit (.bool false)], args := [d1, d2] }
  | _ => none }
def TramMoreWrongFalsely : Prop := tramMoreRow.holds Try.pinned (OpenSpec.ofChange tramMoreWrong)

/-- 'ratoonlaw04.TramOrder': WHATEVER THE INPUT: true; the input reads as it did. -/
def tramOrderSpec : ChangeSpec := { name := "tramOrder", fn := fun _ => fun
  | [d] => { results := [.lit (.bool true)], args := [d] }
  | _ => none }
def tramOrderRow : OpenClaim := { program := "ytnjlkiflililkaa", sum := "ad293b71709ca0a20c4b5f84bdad74f9b9936c0aebe8d74d9a2b93c302e95ab2", func := "ratoon/ratoonlaw04.TramOrder", spec := "tramOrder", unfollowed := true, recurses := true, plainKeys := false, apart := false }
def TramOrderSaid : Prop := tramOrderRow.holds Try.pinned (OpenSpec.ofChange tramOrderSpec)

/-- ITS FALSE NEIGHBOUR: 'it returns false'. Refute it at one input. -/
def tramOrderWrong : ChangeSpec := { name := "tramOrder", fn := fun _ => fun
  | [d] => { results := [.lit (.bool false)], args := [d] }
  | _ => none }
def TramOrderWrongFalsely : Prop := tramOrderRow.holds Try.pinned (OpenSpec.ofChange tramOrderWrong)

/-- 'ratoonlaw04.TramWays': WHATEVER THE INPUT: true; the input reads as it did. -/
def tramWaysSpec : ChangeSpec := { name := "tramWays", fn := fun _ => fun
  | [d1, d2, d3] => { results := [.lit (.bool true)], args := [d1, d2, d3] }
  | _ => none }
def tramWaysRow : OpenClaim := { program := "ytnjlkiflililkaa", sum := "ad293b71709ca0a20c4b5f84bdad74f9b9936c0aebe8d74d9a2b93c302e95ab2", func := "ratoon/ratoonlaw04.TramWays", spec := "tramWays", unfollowed := true, recurses := true, plainKeys := false, apart := false }
def TramWaysSaid : Prop := tramWaysRow.holds Try.pinned (OpenSpec.ofChange tramWaysSpec)

/-- ITS FALSE NEIGHBOUR: 'it returns false'. Refute it at one input. -/
def tramWaysWrong : ChangeSpec := { name := "tramWays", fn := fun _ => fun
  | [d1, d2, d3] => { results := [.lit (.bool false)], args := [d1, d2, d3] }
  | _ => none }
def TramWaysWrongFalsely : Prop := tramWaysRow.holds Try.pinned (OpenSpec.ofChange tramWaysWrong)

/-- 'ratoonlaw04.TramHurts': WHATEVER THE INPUT: true; the input reads as it did. -/
def tramHurtsSpec : ChangeSpec := { name := "tramHurts", fn := fun _ => fun
  | [d1, d2] => { results := [.lit (.bool true)], args := [d1, d2] }
  | _ => none }
def tramHurtsRow : OpenClaim := { program := "ytnjlkiflililkaa", sum := "ad293b71709ca0a20c4b5f84bdad74f9b9936c0aebe8d74d9a2b93c302e95ab2", func := "ratoon/ratoonlaw04.TramHurts", spec := "tramHurts", unfollowed := true, recurses := true, plainKeys := false, apart := false }
def TramHurtsSaid : Prop := tramHurtsRow.holds Try.pinned (OpenSpec.ofChange tramHurtsSpec)

/-- ITS FALSE NEIGHBOUR: 'it returns false'. Refute it at one input. -/
def tramHurtsWrong : ChangeSpec := { name := "tramHurts", fn := fun _ => fun
  | [d1, d2] => { results := [.lit (.bool false)], args := [d1, d2] }
  | _ => none }
def TramHurtsWrongFalsely : Prop := tramHurtsRow.holds Try.pinned (OpenSpec.ofChange tramHurtsWrong)

/-- 'ratoonlaw04.TramLast': WHATEVER THE INPUT: true; the input reads as it did. -/
def tramLastSpec : ChangeSpec := { name := "tramLast", fn := fun _ => fun
  | [d1, d2] => { results := [.lit (.bool true)], args := [d1, d2] }
  | _ => none }
def tramLastRow : OpenClaim := { program := "ytnjlkiflililkaa", sum := "ad293b71709ca0a20c4b5f84bdad74f9b9936c0aebe8d74d9a2b93c302e95ab2", func := "ratoon/ratoonlaw04.TramLast", spec := "tramLast", unfollowed := true, recurses := true, plainKeys := false, apart := false }
def TramLastSaid : Prop := tramLastRow.holds Try.pinned (OpenSpec.ofChange tramLastSpec)

/-- ITS FALSE NEIGHBOUR: 'it returns false'. Refute it at one input. -/
def tramLastWrong : ChangeSpec := { name := "tramLast", fn := fun _ => fun
  | [d1, d2] => { results := [.lit (.bool false)], args := [d1, d2] }
  | _ => none }
def TramLastWrongFalsely : Prop := tramLastRow.holds Try.pinned (OpenSpec.ofChange tramLastWrong)

/- THE SECOND FORM. 'bulk': how many values and letters a reading holds, each counted each time it is reached (what is shared counts as often as it is met; a slice's spare places count too). A statement '..UptoSaid' is the law's where the arguments, and the package variables that the reading takes, are together of bulk at most 1048576: NARROWER than '..Said'. Prove '..Said' where nothing that the law and all that it calls make is longer than what came in: it says more and counts as full. Else prove '..UptoSaid'. A law counts once. -/
mutual
def uptoBulk {H : Type} : DataW H → Nat
  | .lit (.string bytes) => bytes.length + 1
  | .lit _ => 1
  | .nil => 1
  | .ptr d => uptoBulk d + 1
  | .slice elems spare => uptoBulkAll elems + uptoBulkAll spare + 1
  | .agg parts => uptoBulkAll parts + 1
  | .iface _ d => uptoBulk d + 1
  | .map entries => uptoBulkEntries entries + 1
  | .held _ => 1
def uptoBulkAll {H : Type} : List (DataW H) → Nat
  | [] => 0
  | d :: r => uptoBulk d + uptoBulkAll r
def uptoBulkEntries {H : Type} : List (Lit × DataW H) → Nat
  | [] => 0
  | x :: r => uptoBulkEntry x + uptoBulkEntries r
def uptoBulkEntry {H : Type} : Lit × DataW H → Nat
  | (.string bytes, d) => bytes.length + uptoBulk d + 1
  | (_, d) => uptoBulk d + 1
 end
def uptoSmall : (H : Type) → List (DataW H) → Bool := fun _ ds => decide (uptoBulkAll ds ≤ 1048576)
def OpenSpec.upto (s : _root_.Go.ChangeSpec) : _root_.Go.OpenSpec := { _root_.Go.OpenSpec.ofChange s with cond := some uptoSmall }

/-- 'ratoonlaw04.TramPaths', WHERE WHAT IT READS IS OF BULK AT MOST 1048576: true; the input reads as it did. -/
def tramPathsUptoRow : OpenClaim := { program := "ytnjlkiflililkaa", sum := "ad293b71709ca0a20c4b5f84bdad74f9b9936c0aebe8d74d9a2b93c302e95ab2", func := "ratoon/ratoonlaw04.TramPaths", spec := "tramPaths", unfollowed := true, recurses := true, plainKeys := false, apart := false, narrowed := true }
def TramPathsUptoSaid : Prop := tramPathsUptoRow.holds Try.pinned (OpenSpec.upto tramPathsSpec)

/-- 'ratoonlaw04.TramComes', WHERE WHAT IT READS IS OF BULK AT MOST 1048576: true; the input reads as it did. -/
def tramComesUptoRow : OpenClaim := { program := "ytnjlkiflililkaa", sum := "ad293b71709ca0a20c4b5f84bdad74f9b9936c0aebe8d74d9a2b93c302e95ab2", func := "ratoon/ratoonlaw04.TramComes", spec := "tramComes", unfollowed := true, recurses := true, plainKeys := false, apart := false, narrowed := true }
def TramComesUptoSaid : Prop := tramComesUptoRow.holds Try.pinned (OpenSpec.upto tramComesSpec)

/-- 'ratoonlaw04.TramMoves', WHERE WHAT IT READS IS OF BULK AT MOST 1048576: true; the input reads as it did. -/
def tramMovesUptoRow : OpenClaim := { program := "ytnjlkiflililkaa", sum := "ad293b71709ca0a20c4b5f84bdad74f9b9936c0aebe8d74d9a2b93c302e95ab2", func := "ratoon/ratoonlaw04.TramMoves", spec := "tramMoves", unfollowed := true, recurses := true, plainKeys := false, apart := false, narrowed := true }
def TramMovesUptoSaid : Prop := tramMovesUptoRow.holds Try.pinned (OpenSpec.upto tramMovesSpec)

/-- 'ratoonlaw04.TramShuts', WHERE WHAT IT READS IS OF BULK AT MOST 1048576: true; the input reads as it did. -/
def tramShutsUptoRow : OpenClaim := { program := "ytnjlkiflililkaa", sum := "ad293b71709ca0a20c4b5f84bdad74f9b9936c0aebe8d74d9a2b93c302e95ab2", func := "ratoon/ratoonlaw04.TramShuts", spec := "tramShuts", unfollowed := true, recurses := true, plainKeys := false, apart := false, narrowed := true }
def TramShutsUptoSaid : Prop := tramShutsUptoRow.holds Try.pinned (OpenSpec.upto tramShutsSpec)

/-- 'ratoonlaw04.TramKnown', WHERE WHAT IT READS IS OF BULK AT MOST 1048576: true; the input reads as it did. -/
def tramKnownUptoRow : OpenClaim := { program := "ytnjlkiflililkaa", sum := "ad293b71709ca0a20c4b5f84bdad74f9b9936c0aebe8d74d9a2b93c302e95ab2", func := "ratoon/ratoonlaw04.TramKnown", spec := "tramKnown", unfollowed := true, recurses := true, plainKeys := false, apart := false, narrowed := true }
def TramKnownUptoSaid : Prop := tramKnownUptoRow.holds Try.pinned (OpenSpec.upto tramKnownSpec)

/-- 'ratoonlaw04.TramTrue', WHERE WHAT IT READS IS OF BULK AT MOST 1048576: true; the input reads as it did. -/
def tramTrueUptoRow : OpenClaim := { program := "ytnjlkiflililkaa", sum := "ad293b71709ca0a20c4b5f84bdad74f9b9936c0aebe8d74d9a2b93c302e95ab2", func := "ratoon/ratoonlaw04.TramTrue", spec := "tramTrue", unfollowed := true, recurses := true, plainKeys := false, apart := false, narrowed := true }
def TramTrueUptoSaid : Prop := tramTrueUptoRow.holds Try.pinned (OpenSpec.upto tramTrueSpec)

/-- 'ratoonlaw04.TramInTime', WHERE WHAT IT READS IS OF BULK AT MOST 1048576: true; the input reads as it did. -/
def tramInTimeUptoRow : OpenClaim := { program := "ytnjlkiflililkaa", sum := "ad293b71709ca0a20c4b5f84bdad74f9b9936c0aebe8d74d9a2b93c302e95ab2", func := "ratoon/ratoonlaw04.TramInTime", spec := "tramInTime", unfollowed := true, recurses := true, plainKeys := false, apart := false, narrowed := true }
def TramInTimeUptoSaid : Prop := tramInTimeUptoRow.holds Try.pinned (OpenSpec.upto tramInTimeSpec)

/-- 'ratoonlaw04.TramMoved', WHERE WHAT IT READS IS OF BULK AT MOST 1048576: true; the input reads as it did. -/
def tramMovedUptoRow : OpenClaim := { program := "ytnjlkiflililkaa", sum := "ad293b71709ca0a20c4b5f84bdad74f9b9936c0aebe8d74d9a2b93c302e95ab2", func := "ratoon/ratoonlaw04.TramMoved", spec := "tramMoved", unfollowed := true, recurses := true, plainKeys := false, apart := false, narrowed := true }
def TramMovedUptoSaid : Prop := tramMovedUptoRow.holds Try.pinned (OpenSpec.upto tramMovedSpec)

/-- 'ratoonlaw04.TramFewest', WHERE WHAT IT READS IS OF BULK AT MOST 1048576: true; the input reads as it did. -/
def tramFewestUptoRow : OpenClaim := { program := "ytnjlkiflililkaa", sum := "ad293b71709ca0a20c4b5f84bdad74f9b9936c0aebe8d74d9a2b93c302e95ab2", func := "ratoon/ratoonlaw04.TramFewest", spec := "tramFewest", unfollowed := true, recurses := true, plainKeys := false, apart := false, narrowed := true }
def TramFewestUptoSaid : Prop := tramFewestUptoRow.holds Try.pinned (OpenSpec.upto tramFewestSpec)

/-- 'ratoonlaw04.TramMore', WHERE WHAT IT READS IS OF BULK AT MOST 1048576: true; the input reads as it did. -/
def tramMoreUptoRow : OpenClaim := { program := "ytnjlkiflililkaa", sum := "ad293b71709ca0a20c4b5f84bdad74f9b9936c0aebe8d74d9a2b93c302e95ab2", func := "ratoon/ratoonlaw04.TramMore", spec := "tramMore", unfollowed := true, recurses := true, plainKeys := false, apart := false, narrowed := true }
def TramMoreUptoSaid : Prop := tramMoreUptoRow.holds Try.pinned (OpenSpec.upto tramMoreSpec)

/-- 'ratoonlaw04.TramOrder', WHERE WHAT IT READS IS OF BULK AT MOST 1048576: true; the input reads as it did. -/
def tramOrderUptoRow : OpenClaim := { program := "ytnjlkiflililkaa", sum := "ad293b71709ca0a20c4b5f84bdad74f9b9936c0aebe8d74d9a2b93c302e95ab2", func := "ratoon/ratoonlaw04.TramOrder", spec := "tramOrder", unfollowed := true, recurses := true, plainKeys := false, apart := false, narrowed := true }
def TramOrderUptoSaid : Prop := tramOrderUptoRow.holds Try.pinned (OpenSpec.upto tramOrderSpec)

/-- 'ratoonlaw04.TramWays', WHERE WHAT IT READS IS OF BULK AT MOST 1048576: true; the input reads as it did. -/
def tramWaysUptoRow : OpenClaim := { program := "ytnjlkiflililkaa", sum := "ad293b71709ca0a20c4b5f84bdad74f9b9936c0aebe8d74d9a2b93c302e95ab2", func := "ratoon/ratoonlaw04.TramWays", spec := "tramWays", unfollowed := true, recurses := true, plainKeys := false, apart := false, narrowed := true }
def TramWaysUptoSaid : Prop := tramWaysUptoRow.holds Try.pinned (OpenSpec.upto tramWaysSpec)

/-- 'ratoonlaw04.TramHurts', WHERE WHAT IT READS IS OF BULK AT MOST 1048576: true; the input reads as it did. -/
def tramHurtsUptoRow : OpenClaim := { program := "ytnjlkiflililkaa", sum := "ad293b71709ca0a20c4b5f84bdad74f9b9936c0aebe8d74d9a2b93c302e95ab2", func := "ratoon/ratoonlaw04.TramHurts", spec := "tramHurts", unfollowed := true, recurses := true, plainKeys := false, apart := false, narrowed := true }
def TramHurtsUptoSaid : Prop := tramHurtsUptoRow.holds Try.pinned (OpenSpec.upto tramHurtsSpec)

/-- 'ratoonlaw04.TramLast', WHERE WHAT IT READS IS OF BULK AT MOST 1048576: true; the input reads as it did. -/
def tramLastUptoRow : OpenClaim := { program := "ytnjlkiflililkaa", sum := "ad293b71709ca0a20c4b5f84bdad74f9b9936c0aebe8d74d9a2b93c302e95ab2", func := "ratoon/ratoonlaw04.TramLast", spec := "tramLast", unfollowed := true, recurses := true, plainKeys := false, apart := false, narrowed := true }
def TramLastUptoSaid : Prop := tramLastUptoRow.holds Try.pinned (OpenSpec.upto tramLastSpec)

end Rows
end Go.Proofs.Ytnjlkiflililkaa
