/- The pure machine, part AA: the field of a struct that is at hand as a value. Conditions: none (definitions and lemmas alone). -/
import Derived.Test.YtidinbjehfodoaaPmZ
namespace Go.Pm
open Go
set_option linter.unusedVariables false
set_option linter.unusedSimpArgs false

section
variable {P : Program} {σ : St} {o : Oper} {cx : Cx} {g : Gh} {a : Act} {w : World}

end

/-- How truths come out. -/
theorem BL : (∀ b, (true || b) = true) ∧ (∀ b, (b || true) = true) ∧ (∀ b, (false || b) = b) ∧ (∀ b, (b || false) = b) ∧ (∀ b, (true && b) = b) ∧ (∀ b, (b && true) = b) ∧ (∀ b, (false && b) = false) ∧ (∀ b, (b && false) = false) ∧
    (!true) = false ∧ (!false) = true ∧ (∀ (α : Type) (x y : α), (bif true then x else y) = x) ∧ (∀ (α : Type) (x y : α), (bif false then x else y) = y) := by
  simp

theorem RS.e {ρ : Nat → Nat} {n : Nat} {f : Nat → Option AV} : ∀ {l : List (Nat × Option AV)}, l.map (fun p => f p.1) = l.map (fun p => p.2.map (AV.ren ρ)) → (l.all fun p => match p.2 with | some x => keysOk n x.keys | none => false) = true → RS ρ n f l
  | [], _, _ => .n
  | (i, none) :: r, _, h => by simp at h
  | (i, some x) :: r, h, h' => by
    rw [List.map_cons, List.map_cons] at h
    rw [List.all_cons, Bool.and_eq_true] at h'
    injection h with h1 h2
    exact .c (y := x.ren ρ) h1 (.rfl _) h'.1 (RS.e h2 h'.2)
theorem RT.e {ρ : Nat → Nat} {n : Nat} {f : Nat → Option Tok} : ∀ {l : List (Nat × Option Tok)}, l.map (fun p => f (ρ p.1)) = l.map (fun p => p.2.map (Tok.ren ρ)) → (l.all fun p => match p.2 with | some x => Nat.blt p.1 n && keysOk n x.keys | none => false) = true → RT ρ n f l
  | [], _, _ => .n
  | (i, none) :: r, _, h => by simp at h
  | (i, some x) :: r, h, h' => by
    rw [List.map_cons, List.map_cons] at h
    rw [List.all_cons, Bool.and_eq_true, Bool.and_eq_true] at h'
    injection h with h1 h2
    exact .c (y := x.ren ρ) h1 (.rfl _) h'.1.1 h'.1.2 (RT.e h2 h'.2)

end Go.Pm
