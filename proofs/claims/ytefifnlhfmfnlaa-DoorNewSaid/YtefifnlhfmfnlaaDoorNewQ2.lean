/- A part of the proof of DoorNew: an abstract machine, or what functions come to on it. -/
import Derived.Test.YtefifnlhfmfnlaaDoorNewQ1
set_option linter.unusedVariables false
set_option linter.unusedSimpArgs false
set_option linter.defProp false
namespace Go.Proofs.Ytefifnlhfmfnlaa
open Go.Am Go.Am.Room
theorem tys : Tys Try.prog := ⟨Try.underlying3, Try.underlying4, Try.underlying5, Try.underlying9, ⟨_, Try.underlying23, rfl⟩, Try.underlying24, Try.underlying25, Try.underlying26, ⟨_, Try.underlying28, rfl⟩, ⟨_, Try.underlying47, rfl⟩, Try.underlying49, ⟨_, Try.underlying57, rfl⟩, Try.underlying76, ⟨_, Try.underlying90, rfl⟩, by kernel_rfl⟩
end Go.Proofs.Ytefifnlhfmfnlaa
