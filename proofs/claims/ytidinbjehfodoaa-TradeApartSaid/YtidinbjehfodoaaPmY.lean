/- The pure machine, part Y: values of interface types: made of structs, asked for their types, compared with nil. Conditions: none (definitions and lemmas alone). -/
import Derived.Test.YtidinbjehfodoaaPmX
import Derived.Laws.Build
namespace Go.Pm
open Go
set_option linter.unusedVariables false
set_option linter.unusedSimpArgs false

section
variable {P : Program} {σ : St} {o : Oper} {cx : Cx} {g : Gh} {a : Act} {w : World}

/-- What is behind an interface, asked for a struct of type t: its cells (else those of nought), and whether it is one. -/
inductive AsT (P : Program) (t : TypeId) : T → List T → Bool → Prop where
  | hit (l : List T) : AsT P t (.ifc t (.agg l)) l true
  | miss (t' : TypeId) (x : T) (zs : Array Value) (l : List T) : Nat.beq t' t = false → (P.info? t).bind (·.zero) = some (.agg zs) → TRow (zs.toList.map .val) l → AsT P t (.ifc t' x) l false
  | none (zs : Array Value) (l : List T) : (P.info? t).bind (·.zero) = some (.agg zs) → TRow (zs.toList.map .val) l → AsT P t (.val .nilIface) l false

/-- Is it nil? -/
inductive IsN : T → Bool → Prop where
  | none : IsN (.val .nilIface) true
  | some (t : TypeId) (x : T) : IsN (.ifc t x) false

end

end Go.Pm
