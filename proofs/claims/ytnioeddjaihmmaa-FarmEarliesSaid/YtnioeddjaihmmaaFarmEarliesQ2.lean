/- A part of the proof of FarmEarlies: an abstract machine, or what functions come to on it. -/
import Derived.Test.YtnioeddjaihmmaaFarmEarliesQ1
set_option linter.unusedVariables false
set_option linter.unusedSimpArgs false
set_option linter.defProp false
namespace Go.Proofs.Ytnioeddjaihmmaa
open Go.Am Go.Am.Room
theorem tys : Tys Try.prog := ⟨Try.underlying3, Try.underlying5, Try.underlying9, Try.underlying22, ⟨_, Try.underlying24, rfl⟩, Try.underlying25, Try.underlying26, ⟨_, Try.underlying28, rfl⟩, ⟨_, Try.underlying50, rfl⟩, Try.underlying53, Try.underlying63, ⟨_, Try.underlying65, rfl⟩, Try.underlying79, ⟨_, Try.underlying81, rfl⟩, by kernel_rfl⟩
end Go.Proofs.Ytnioeddjaihmmaa
