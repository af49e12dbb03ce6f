/- A part of the proof of HoldFront: an abstract machine, or what functions come to on it. -/
import Derived.Test.YtajhifmlmhmelaaHoldFrontQ1
set_option linter.unusedVariables false
set_option linter.unusedSimpArgs false
set_option linter.defProp false
namespace Go.Proofs.Ytajhifmlmhmelaa
open Go.Am Go.Am.Room
theorem tys : Tys Try.prog := ⟨Try.underlying3, Try.underlying5, Try.underlying22, Try.underlying23, Try.underlying24, ⟨_, Try.underlying26, rfl⟩, ⟨_, Try.underlying31, rfl⟩, ⟨_, Try.underlying49, rfl⟩, Try.underlying52, Try.underlying74, ⟨_, Try.underlying76, rfl⟩, Try.underlying78, by kernel_rfl⟩
end Go.Proofs.Ytajhifmlmhmelaa
