/- The pure machine, part T: a row of ours cut shorter, and its end cleared. Conditions: none (definitions and lemmas alone). -/
import Derived.Test.YtbmokbkgielmmaaGreatPmR
namespace Go.Pm
open Go
set_option linter.unusedVariables false
set_option linter.unusedSimpArgs false

section
variable {α : Type} {enc : α → List T} {P : Program} {o : Oper} {σ : St}
end

end Go.Pm
