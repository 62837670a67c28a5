/- The pure machine, part AD: an append of a part of a row of ours. Conditions: none (definitions and lemmas alone). -/
import Derived.Test.YtlgfdldonoaahaaPmAA
namespace Go.Pm
open Go
set_option linter.unusedVariables false
set_option linter.unusedSimpArgs false
theorem viewB {l u : Int} {n : Nat} (h : 0 ≤ l ∧ l ≤ u ∧ u ≤ (n : Int)) : l.toNat + (u.toNat - l.toNat) ≤ n := by omega
section
variable {P : Program} {σ : St} {o : Oper}
theorem O.appW {α : Type} [Inhabited α] {enc : α → List T} {t e e' sz bytes n j q off c : Nat} {zs : List Value} {x y : Operand} {l m : List α} {f : Bool} (S : SlT P t e sz bytes zs) (E : EncOk enc sz) (hv : off + c ≤ m.length) (h : (l.length + (List.take c (List.drop off m)).length) * bytes ≤ 140737488355328)
    (ho : o.op = .call { callee := .builtin .append, args := #[x, y], argTypes := #[t, t] })
    (hx : rd σ x = some (.own j)) (hk : σ.tk j = some (.rows e sz (l.map enc) false)) (hy : rd σ y = some (.view q sz off c)) (hq : σ.tk q = some (.rows e' sz (m.map enc) f)) :
    OpL P o σ [j, q] ⟨some (.own n), [(j, none), (n, some (.rows e sz ((l ++ List.take c (List.drop off m)).map enc) false))], [n]⟩ := by
  obtain ⟨ie, z, h1, h2, h3, h4, rfl, rfl⟩ := S.parts
  rw [List.map_append]
  exact OpL.append (k := n) ho S.ht h1 h2 h4 S.pos.1 S.pos.2 hx hy (.own j _ hk) (by simp only [rowsOf, hq]; rw [if_pos ⟨trivial, trivial, by rw [List.length_map]; exact hv⟩, ← List.map_drop, ← List.map_take]) (E.uni _) (E.ones _) (by simpa using h)
end
end Go.Pm
