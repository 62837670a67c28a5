/- The pure machine, part U: copies into a row of ours, one element more in its place, a make appended, rows that lie apart. Conditions: none (definitions and lemmas alone). -/
import Derived.Lib.Overlaps
import Derived.Lib.AppendZerosOnto
import Derived.Test.YtbmokbkgielmmaaGreatPmV
namespace Go.Pm
open Go
set_option linter.unusedVariables false
set_option linter.unusedSimpArgs false


section
variable {P : Program} {o : Oper} {σ : St}

variable {sl : List (Nat × Option AV)} {tk : List (Nat × Option Tok)} {n d : Nat} {ops : Array Oper} {l : List Oper} {fp : List Nat} {K : List Stp → St → Prop}
/-- A value, and tokens that turn. -/
theorem RunK.k {v : AV} {ts : List (Nat × Option Tok)} (hd : o.dst = some d) (hg : Met ops (mkSt sl tk n) o.guard true) (h : OpL P o (mkSt sl tk n) fp ⟨some v, ts, []⟩) (k : RunK P ops l (mkSt ((d, some v) :: sl) (ts ++ tk) n) (fun ms => K ((fp, .out ⟨some v, ts, []⟩) :: ms))) :
    RunK P ops (o :: l) (mkSt sl tk n) K := let ⟨_, _, k, hK⟩ := k; ⟨_, _, .c (m := 0) hd hg h k, hK⟩
end


variable {α : Type} {enc : α → List T}

end Go.Pm
