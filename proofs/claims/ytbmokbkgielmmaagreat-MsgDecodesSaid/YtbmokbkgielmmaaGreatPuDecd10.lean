/- Shows what the program decodes: what is written as the bytes are, and may be; or a fault. -/
import Derived.Test.YtbmokbkgielmmaaGreatPuGet10
import Derived.Test.YtbmokbkgielmmaaGreatPuFit10
import Derived.Test.YtbmokbkgielmmaaGreatGx2
namespace Go.Proofs.YtbmokbkgielmmaaGreat
open Go Go.Pm Go.Pm.Arith
set_option linter.unusedVariables false
set_option linter.unusedSimpArgs false
theorem get_other (s : Bs) (p : Nat) (e k : Int) (h : ¬ (1 ≤ k ∧ k ≤ 15)) : msg_decoder_get.f ⟨s, (p : Int), e⟩ k = some (.nil, ⟨s, (p : Int), e⟩) := by
 have ne : ∀ n : Int, 1 ≤ n → n ≤ 15 → (k == n) = false := fun n h1 h2 => by
  rw [beq_eq_false_iff_ne]; intro e; subst e; exact h ⟨h1, h2⟩
 unfold msg_decoder_get.f
 rw [ne 1 (by decide) (by decide), ne 2 (by decide) (by decide), ne 3 (by decide) (by decide), ne 4 (by decide) (by decide), ne 5 (by decide) (by decide), ne 6 (by decide) (by decide), ne 7 (by decide) (by decide), ne 8 (by decide) (by decide),
  ne 9 (by decide) (by decide), ne 10 (by decide) (by decide), ne 11 (by decide) (by decide), ne 12 (by decide) (by decide), ne 13 (by decide) (by decide), ne 14 (by decide) (by decide), ne 15 (by decide) (by decide)]
 rfl
theorem end_is (s : Bs) (q : Nat) (e : Int) (hq : q ≤ s.length) : wire_Reader_End.f ⟨s, (q : Int), e⟩ = some (if e = 0 ∧ q < s.length then (false, ⟨s, (q : Int), 16⟩) else (e == 0, ⟨s, (q : Int), e⟩)) := by
 unfold wire_Reader_End.f
 by_cases c : e = 0 ∧ q < s.length
 ·obtain ⟨rfl, c2⟩ := c
  rw [if_pos (by simp; omega), if_pos ⟨rfl, c2⟩, fail0]; rfl
 ·rw [if_neg (by simp; omega), if_neg c]
theorem end_left (s : Bs) (q : Nat) (hq : q < s.length) : wire_Reader_End.f ⟨s, (q : Int), 0⟩ = some (false, ⟨s, (q : Int), 16⟩) := by
 rw [end_is s q 0 (by omega), if_pos ⟨rfl, hq⟩]
theorem end_done (s : Bs) : wire_Reader_End.f ⟨s, (s.length : Int), 0⟩ = some (true, ⟨s, (s.length : Int), 0⟩) := by
 rw [end_is s _ 0 (Nat.le_refl _), if_neg (by omega)]; rfl
theorem end_bad (s : Bs) (q : Nat) (e : Int) (hq : q ≤ s.length) (he : ¬ e = 0) : wire_Reader_End.f ⟨s, (q : Int), e⟩ = some (false, ⟨s, (q : Int), e⟩) := by
 rw [end_is s q e hq, if_neg (fun h => he h.1), beq_eq_false_iff_ne.2 he]
theorem kd_pos {m : msg_Message} (h : 1 ≤ kd m) : m.isNil = false ∧ m ≠ .nil := by
 cases m <;> first | exact ⟨rfl, fun h => by cases h⟩ | exact absurd h (by decide)
theorem whole {s : Bs} {d : List Int} (h : Lies s 0 d) (hl : d.length = s.length) : s = toB d := by
 obtain ⟨r, e⟩ := h
 rw [List.drop_zero] at e
 have := congrArg List.length e
 rw [List.length_append, toB_len] at this
 have : r = [] := List.length_eq_zero_iff.1 (by omega)
 rw [this, List.append_nil] at e
 exact e
end Go.Proofs.YtbmokbkgielmmaaGreat
