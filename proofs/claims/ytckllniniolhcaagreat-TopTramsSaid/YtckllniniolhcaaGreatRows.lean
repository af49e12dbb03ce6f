/-
  No cell of these rows narrows 'for every input' (looked for: loops, veiled, ifaces, maps, wideKeys, modest, calm, conditions, laid).
  DERIVED. THE GIVEN ROWS OF THIS SEAT. 7 by the template 'for every input the law returns true; each argument reads behind the call as it read before'; 0 by the template 'total and deterministic' (their statements: YtckllniniolhcaaGreatTotals.lean).
  GIVEN WITH THE SEED: the statements are not yours to turn. If you find one false, say at which input.
  Laid BY PROGRAM, IN A SANDBOX (cutbox-rows.mjs): the forced cells as the released guide's own fill.sh prints them over the translation 9f51535fc9dfd69f… (all of the seat's roots in one cut). By AI agents, Wed Nov 11 2026. No macro, syntax, notation, axiom, sorry.
-/
import Derived.Test.YtckllniniolhcaaGreatChecked
import GoSem.Claim
import GoSem.ClaimJoined
import GoSem.ClaimMapViews
import Derived.JoinedTies
import Derived.KernelRfl
namespace Go.Proofs.YtckllniniolhcaaGreat
/- THE CELL 'sum', in the pinned program and in every row, IS THE sha256 OF THE DUMP (.gsa) THAT YtckllniniolhcaaGreatProg.lean LOADS. Nothing in Lean hashes anything: it is a label: what it is worth is what the hold of that sum in a sandbox is worth. -/
noncomputable def Tryz.pinned : Pinned := { name := "ytckllniniolhcaagreat", sum := "9f51535fc9dfd69f6f20c884d9864f12639729817333f5ceb73305d503ae237a", checked := Tryz.checked }
namespace Rows
def none {H : Type} : Left H := { results := [], args := [] }

/-- 'ratoontop.TopRipening': WHATEVER THE INPUT: true; the input reads as it did. -/
def topRipeningSpec : ChangeSpec := { name := "topRipening", fn := fun _ => fun
  | [d1, d2, d3] => { results := [.lit (.bool true)], args := [d1, d2, d3] }
  | _ => none }
def topRipeningRow : OpenClaim := { program := "ytckllniniolhcaagreat", sum := "9f51535fc9dfd69f6f20c884d9864f12639729817333f5ceb73305d503ae237a", func := "ratoon/ratoontop.TopRipening", spec := "topRipening", unfollowed := true, recurses := true, plainKeys := false, apart := false }
def TopRipeningSaid : Prop := topRipeningRow.holds Tryz.pinned (OpenSpec.ofChange topRipeningSpec)

/-- ITS FALSE NEIGHBOUR: 'it returns false'. Refute it at one input. -/
def topRipeningWrong : ChangeSpec := { name := "topRipening", fn := fun _ => fun
  | [d1, d2, d3] => { results := [.lit (.bool false)], args := [d1, d2, d3] }
  | _ => none }
def TopRipeningWrongFalsely : Prop := topRipeningRow.holds Tryz.pinned (OpenSpec.ofChange topRipeningWrong)

/-- 'ratoontop.TopCutHands': WHATEVER THE INPUT: true; the input reads as it did. -/
def topCutHandsSpec : ChangeSpec := { name := "topCutHands", fn := fun _ => fun
  | [d1, d2, d3] => { results := [.lit (.bool true)], args := [d1, d2, d3] }
  | _ => none }
def topCutHandsRow : OpenClaim := { program := "ytckllniniolhcaagreat", sum := "9f51535fc9dfd69f6f20c884d9864f12639729817333f5ceb73305d503ae237a", func := "ratoon/ratoontop.TopCutHands", spec := "topCutHands", unfollowed := true, recurses := true, plainKeys := false, apart := false }
def TopCutHandsSaid : Prop := topCutHandsRow.holds Tryz.pinned (OpenSpec.ofChange topCutHandsSpec)

/-- ITS FALSE NEIGHBOUR: 'it returns false'. Refute it at one input. -/
def topCutHandsWrong : ChangeSpec := { name := "topCutHands", fn := fun _ => fun
  | [d1, d2, d3] => { results := [.lit (.bool false)], args := [d1, d2, d3] }
  | _ => none }
def TopCutHandsWrongFalsely : Prop := topCutHandsRow.holds Tryz.pinned (OpenSpec.ofChange topCutHandsWrong)

/-- 'ratoontop.TopKept': WHATEVER THE INPUT: true; the input reads as it did. -/
def topKeptSpec : ChangeSpec := { name := "topKept", fn := fun _ => fun
  | [d1, d2] => { results := [.lit (.bool true)], args := [d1, d2] }
  | _ => none }
def topKeptRow : OpenClaim := { program := "ytckllniniolhcaagreat", sum := "9f51535fc9dfd69f6f20c884d9864f12639729817333f5ceb73305d503ae237a", func := "ratoon/ratoontop.TopKept", spec := "topKept", unfollowed := true, recurses := true, plainKeys := false, apart := false }
def TopKeptSaid : Prop := topKeptRow.holds Tryz.pinned (OpenSpec.ofChange topKeptSpec)

/-- ITS FALSE NEIGHBOUR: 'it returns false'. Refute it at one input. -/
def topKeptWrong : ChangeSpec := { name := "topKept", fn := fun _ => fun
  | [d1, d2] => { results := [.lit (.bool false)], args := [d1, d2] }
  | _ => none }
def TopKeptWrongFalsely : Prop := topKeptRow.holds Tryz.pinned (OpenSpec.ofChange topKeptWrong)

/-- 'ratoontop.TopBlamed': WHATEVER THE INPUT: true; the input reads as it did. -/
def topBlamedSpec : ChangeSpec := { name := "topBlamed", fn := fun _ => fun
  | [d1, d2] => { results := [.lit (.bool true)], args := [d1, d2] }
  | _ => none }
def topBlamedRow : OpenClaim := { program := "ytckllniniolhcaagreat", sum := "9f51535fc9dfd69f6f20c884d9864f12639729817333f5ceb73305d503ae237a", func := "ratoon/ratoontop.TopBlamed", spec := "topBlamed", unfollowed := true, recurses := true, plainKeys := false, apart := false }
def TopBlamedSaid : Prop := topBlamedRow.holds Tryz.pinned (OpenSpec.ofChange topBlamedSpec)

/-- ITS FALSE NEIGHBOUR: 'it returns false'. Refute it at one input. -/
def topBlamedWrong : ChangeSpec := { name := "topBlamed", fn := fun _ => fun
  | [d1, d2] => { results := [.lit (.bool false)], args := [d1, d2] }
  | _ => none }
def TopBlamedWrongFalsely : Prop := topBlamedRow.holds Tryz.pinned (OpenSpec.ofChange topBlamedWrong)

/-- 'ratoontop.TopTrams': WHATEVER THE INPUT: true; the input reads as it did. -/
def topTramsSpec : ChangeSpec := { name := "topTrams", fn := fun _ => fun
  | [d1, d2, d3] => { results := [.lit (.bool true)], args := [d1, d2, d3] }
  | _ => none }
def topTramsRow : OpenClaim := { program := "ytckllniniolhcaagreat", sum := "9f51535fc9dfd69f6f20c884d9864f12639729817333f5ceb73305d503ae237a", func := "ratoon/ratoontop.TopTrams", spec := "topTrams", unfollowed := true, recurses := true, plainKeys := false, apart := false }
def TopTramsSaid : Prop := topTramsRow.holds Tryz.pinned (OpenSpec.ofChange topTramsSpec)

/-- ITS FALSE NEIGHBOUR: 'it returns false'. Refute it at one input. -/
def topTramsWrong : ChangeSpec := { name := "topTrams", fn := fun _ => fun
  | [d1, d2, d3] => { results := [.lit (.bool false)], args := [d1, d2, d3] }
  | _ => none }
def TopTramsWrongFalsely : Prop := topTramsRow.holds Tryz.pinned (OpenSpec.ofChange topTramsWrong)

/-- 'ratoontop.TopRipened': WHATEVER THE INPUT: true; the input reads as it did. -/
def topRipenedSpec : ChangeSpec := { name := "topRipened", fn := fun _ => fun
  | [d1, d2, d3] => { results := [.lit (.bool true)], args := [d1, d2, d3] }
  | _ => none }
def topRipenedRow : OpenClaim := { program := "ytckllniniolhcaagreat", sum := "9f51535fc9dfd69f6f20c884d9864f12639729817333f5ceb73305d503ae237a", func := "ratoon/ratoontop.TopRipened", spec := "topRipened", unfollowed := true, recurses := true, plainKeys := false, apart := false }
def TopRipenedSaid : Prop := topRipenedRow.holds Tryz.pinned (OpenSpec.ofChange topRipenedSpec)

/-- ITS FALSE NEIGHBOUR: 'it returns false'. Refute it at one input. -/
def topRipenedWrong : ChangeSpec := { name := "topRipened", fn := fun _ => fun
  | [d1, d2, d3] => { results := [.lit (.bool false)], args := [d1, d2, d3] }
  | _ => none }
def TopRipenedWrongFalsely : Prop := topRipenedRow.holds Tryz.pinned (OpenSpec.ofChange topRipenedWrong)

/-- 'ratoontop.TopDoors': WHATEVER THE INPUT: true; the input reads as it did. -/
def topDoorsSpec : ChangeSpec := { name := "topDoors", fn := fun _ => fun
  | [d1, d2, d3] => { results := [.lit (.bool true)], args := [d1, d2, d3] }
  | _ => none }
def topDoorsRow : OpenClaim := { program := "ytckllniniolhcaagreat", sum := "9f51535fc9dfd69f6f20c884d9864f12639729817333f5ceb73305d503ae237a", func := "ratoon/ratoontop.TopDoors", spec := "topDoors", unfollowed := true, recurses := true, plainKeys := false, apart := false }
def TopDoorsSaid : Prop := topDoorsRow.holds Tryz.pinned (OpenSpec.ofChange topDoorsSpec)

/-- ITS FALSE NEIGHBOUR: 'it returns false'. Refute it at one input. -/
def topDoorsWrong : ChangeSpec := { name := "topDoors", fn := fun _ => fun
  | [d1, d2, d3] => { results := [.lit (.bool false)], args := [d1, d2, d3] }
  | _ => none }
def TopDoorsWrongFalsely : Prop := topDoorsRow.holds Tryz.pinned (OpenSpec.ofChange topDoorsWrong)

/- THE SECOND FORM. 'bulk': how many values and letters a reading holds, each counted each time it is reached (what is shared counts as often as it is met; a slice's spare places count too). A statement '..UptoSaid' is the law's where the arguments, and the package variables that the reading takes, are together of bulk at most 1048576: NARROWER than '..Said'. Prove '..Said' where nothing that the law and all that it calls make is longer than what came in: it says more and counts as full. Else prove '..UptoSaid'. A law counts once. -/
mutual
def uptoBulk {H : Type} : DataW H → Nat
  | .lit (.string bytes) => bytes.length + 1
  | .lit _ => 1
  | .nil => 1
  | .ptr d => uptoBulk d + 1
  | .slice elems spare => uptoBulkAll elems + uptoBulkAll spare + 1
  | .agg parts => uptoBulkAll parts + 1
  | .iface _ d => uptoBulk d + 1
  | .map entries => uptoBulkEntries entries + 1
  | .held _ => 1
def uptoBulkAll {H : Type} : List (DataW H) → Nat
  | [] => 0
  | d :: r => uptoBulk d + uptoBulkAll r
def uptoBulkEntries {H : Type} : List (Lit × DataW H) → Nat
  | [] => 0
  | x :: r => uptoBulkEntry x + uptoBulkEntries r
def uptoBulkEntry {H : Type} : Lit × DataW H → Nat
  | (.string bytes, d) => bytes.length + uptoBulk d + 1
  | (_, d) => uptoBulk d + 1
 end
def uptoSmall : (H : Type) → List (DataW H) → Bool := fun _ ds => decide (uptoBulkAll ds ≤ 1048576)
def OpenSpec.upto (s : _root_.Go.ChangeSpec) : _root_.Go.OpenSpec := { _root_.Go.OpenSpec.ofChange s with cond := some uptoSmall }

/-- 'ratoontop.TopRipening', WHERE WHAT IT READS IS OF BULK AT MOST 1048576: true; the input reads as it did. -/
def topRipeningUptoRow : OpenClaim := { program := "ytckllniniolhcaagreat", sum := "9f51535fc9dfd69f6f20c884d9864f12639729817333f5ceb73305d503ae237a", func := "ratoon/ratoontop.TopRipening", spec := "topRipening", unfollowed := true, recurses := true, plainKeys := false, apart := false, narrowed := true }
def TopRipeningUptoSaid : Prop := topRipeningUptoRow.holds Tryz.pinned (OpenSpec.upto topRipeningSpec)

/-- 'ratoontop.TopCutHands', WHERE WHAT IT READS IS OF BULK AT MOST 1048576: true; the input reads as it did. -/
def topCutHandsUptoRow : OpenClaim := { program := "ytckllniniolhcaagreat", sum := "9f51535fc9dfd69f6f20c884d9864f12639729817333f5ceb73305d503ae237a", func := "ratoon/ratoontop.TopCutHands", spec := "topCutHands", unfollowed := true, recurses := true, plainKeys := false, apart := false, narrowed := true }
def TopCutHandsUptoSaid : Prop := topCutHandsUptoRow.holds Tryz.pinned (OpenSpec.upto topCutHandsSpec)

/-- 'ratoontop.TopKept', WHERE WHAT IT READS IS OF BULK AT MOST 1048576: true; the input reads as it did. -/
def topKeptUptoRow : OpenClaim := { program := "ytckllniniolhcaagreat", sum := "9f51535fc9dfd69f6f20c884d9864f12639729817333f5ceb73305d503ae237a", func := "ratoon/ratoontop.TopKept", spec := "topKept", unfollowed := true, recurses := true, plainKeys := false, apart := false, narrowed := true }
def TopKeptUptoSaid : Prop := topKeptUptoRow.holds Tryz.pinned (OpenSpec.upto topKeptSpec)

/-- 'ratoontop.TopBlamed', WHERE WHAT IT READS IS OF BULK AT MOST 1048576: true; the input reads as it did. -/
def topBlamedUptoRow : OpenClaim := { program := "ytckllniniolhcaagreat", sum := "9f51535fc9dfd69f6f20c884d9864f12639729817333f5ceb73305d503ae237a", func := "ratoon/ratoontop.TopBlamed", spec := "topBlamed", unfollowed := true, recurses := true, plainKeys := false, apart := false, narrowed := true }
def TopBlamedUptoSaid : Prop := topBlamedUptoRow.holds Tryz.pinned (OpenSpec.upto topBlamedSpec)

/-- 'ratoontop.TopTrams', WHERE WHAT IT READS IS OF BULK AT MOST 1048576: true; the input reads as it did. -/
def topTramsUptoRow : OpenClaim := { program := "ytckllniniolhcaagreat", sum := "9f51535fc9dfd69f6f20c884d9864f12639729817333f5ceb73305d503ae237a", func := "ratoon/ratoontop.TopTrams", spec := "topTrams", unfollowed := true, recurses := true, plainKeys := false, apart := false, narrowed := true }
def TopTramsUptoSaid : Prop := topTramsUptoRow.holds Tryz.pinned (OpenSpec.upto topTramsSpec)

/-- 'ratoontop.TopRipened', WHERE WHAT IT READS IS OF BULK AT MOST 1048576: true; the input reads as it did. -/
def topRipenedUptoRow : OpenClaim := { program := "ytckllniniolhcaagreat", sum := "9f51535fc9dfd69f6f20c884d9864f12639729817333f5ceb73305d503ae237a", func := "ratoon/ratoontop.TopRipened", spec := "topRipened", unfollowed := true, recurses := true, plainKeys := false, apart := false, narrowed := true }
def TopRipenedUptoSaid : Prop := topRipenedUptoRow.holds Tryz.pinned (OpenSpec.upto topRipenedSpec)

/-- 'ratoontop.TopDoors', WHERE WHAT IT READS IS OF BULK AT MOST 1048576: true; the input reads as it did. -/
def topDoorsUptoRow : OpenClaim := { program := "ytckllniniolhcaagreat", sum := "9f51535fc9dfd69f6f20c884d9864f12639729817333f5ceb73305d503ae237a", func := "ratoon/ratoontop.TopDoors", spec := "topDoors", unfollowed := true, recurses := true, plainKeys := false, apart := false, narrowed := true }
def TopDoorsUptoSaid : Prop := topDoorsUptoRow.holds Tryz.pinned (OpenSpec.upto topDoorsSpec)

end Rows
end Go.Proofs.YtckllniniolhcaaGreat
