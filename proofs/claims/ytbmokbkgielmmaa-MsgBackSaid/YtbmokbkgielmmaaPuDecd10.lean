/- Shows what the program decodes: what is written as the bytes are, and may be; or a fault. -/
import Derived.Test.YtbmokbkgielmmaaPuGet10
import Derived.Test.YtbmokbkgielmmaaPuFit10
import Derived.Test.YtbmokbkgielmmaaGx2
namespace Go.Proofs.Ytbmokbkgielmmaa
open Go Go.Pm Go.Pm.Arith
set_option linter.unusedVariables false
set_option linter.unusedSimpArgs false

theorem get_other (s : Bs) (p : Nat) (e k : Int) (h : ¬ (1 ≤ k ∧ k ≤ 15)) : msg_decoder_get.f ⟨s, (p : Int), e⟩ k = some (.nil, ⟨s, (p : Int), e⟩) := by
  have ne : ∀ n : Int, 1 ≤ n → n ≤ 15 → (k == n) = false := fun n h1 h2 => by
    rw [beq_eq_false_iff_ne]; intro e; subst e; exact h ⟨h1, h2⟩
  unfold msg_decoder_get.f
  rw [ne 1 (by decide) (by decide), ne 2 (by decide) (by decide), ne 3 (by decide) (by decide), ne 4 (by decide) (by decide), ne 5 (by decide) (by decide), ne 6 (by decide) (by decide), ne 7 (by decide) (by decide), ne 8 (by decide) (by decide),
    ne 9 (by decide) (by decide), ne 10 (by decide) (by decide), ne 11 (by decide) (by decide), ne 12 (by decide) (by decide), ne 13 (by decide) (by decide), ne 14 (by decide) (by decide), ne 15 (by decide) (by decide)]
  rfl

theorem end_is (s : Bs) (q : Nat) (e : Int) (hq : q ≤ s.length) : wire_Reader_End.f ⟨s, (q : Int), e⟩ = some (if e = 0 ∧ q < s.length then (false, ⟨s, (q : Int), 16⟩) else (e == 0, ⟨s, (q : Int), e⟩)) := by
  unfold wire_Reader_End.f
  by_cases c : e = 0 ∧ q < s.length
  · obtain ⟨rfl, c2⟩ := c
    rw [if_pos (by simp; omega), if_pos ⟨rfl, c2⟩, fail0]; rfl
  · rw [if_neg (by simp; omega), if_neg c]

theorem end_left (s : Bs) (q : Nat) (hq : q < s.length) : wire_Reader_End.f ⟨s, (q : Int), 0⟩ = some (false, ⟨s, (q : Int), 16⟩) := by
  rw [end_is s q 0 (by omega), if_pos ⟨rfl, hq⟩]
theorem end_done (s : Bs) : wire_Reader_End.f ⟨s, (s.length : Int), 0⟩ = some (true, ⟨s, (s.length : Int), 0⟩) := by
  rw [end_is s _ 0 (Nat.le_refl _), if_neg (by omega)]; rfl
theorem end_bad (s : Bs) (q : Nat) (e : Int) (hq : q ≤ s.length) (he : ¬ e = 0) : wire_Reader_End.f ⟨s, (q : Int), e⟩ = some (false, ⟨s, (q : Int), e⟩) := by
  rw [end_is s q e hq, if_neg (fun h => he h.1), beq_eq_false_iff_ne.2 he]

theorem kd_pos {m : msg_Message} (h : 1 ≤ kd m) : m.isNil = false ∧ m ≠ .nil := by
  cases m <;> first | exact ⟨rfl, fun h => by cases h⟩ | exact absurd h (by decide)

theorem whole {s : Bs} {d : List Int} (h : Lies s 0 d) (hl : d.length = s.length) : s = toB d := by
  obtain ⟨r, e⟩ := h
  rw [List.drop_zero] at e
  have := congrArg List.length e
  rw [List.length_append, toB_len] at this
  have : r = [] := List.length_eq_zero_iff.1 (by omega)
  rw [this, List.append_nil] at e
  exact e

/-- What is decoded: a message that may be, written as the bytes are; or none, and a fault. -/
theorem dec_all (s : Bs) (hs : s.length < 1000000000) : ∃ m n g, msg_Decode.f s = some (m, n, g) ∧ (g ≠ 0 → m = .nil) ∧ (g = 0 → n = (s.length : Int) ∧ msg_Check.f m = some 0 ∧ m ≠ .nil ∧ s = toB (eI (kd m) ++ eMsg m)) := by
  obtain ⟨k, q, e, h1, h2, _, h4⟩ := rd_int hs (Nat.zero_le _) 0 (p := 0)
  unfold msg_Decode.f wire_NewReader.f
  rw [Option.bind_some]
  have h1' : wire_Reader_Int.f ⟨s, 0, 0⟩ = _ := h1
  rw [h1', Option.bind_some]
  simp only
  by_cases c : 1 ≤ k ∧ k ≤ 15
  · obtain ⟨m, q2, e2, g1, g2, g3, g4⟩ := rd_get hs h2 e k c.1 c.2
    obtain ⟨n1, n2⟩ := kd_pos (m := m) (by rw [g3]; exact c.1)
    rw [g1, Option.bind_some]
    unfold wire_Reader_Err.f wire_Reader_At.f
    rw [Option.bind_some, n1, if_neg (by simp)]
    by_cases z : e2 = 0
    · subst z
      by_cases lt : q2 < s.length
      · rw [end_left s q2 lt]
        exact ⟨.nil, _, 16, rfl, fun _ => rfl, fun h => by cases h⟩
      · obtain rfl : q2 = s.length := by omega
        obtain ⟨v, v1, v2⟩ := check_tot m
        rw [end_done, Option.bind_some, if_neg (by intro h; cases h), v1, Option.bind_some]
        by_cases vz : v = 0
        · subst vz
          rw [if_neg (by decide)]
          obtain ⟨z1, d2, rfl, z3, z4⟩ := g4 rfl
          obtain ⟨_, d1, rfl, y3, y4⟩ := h4 z1
          refine ⟨m, _, 0, rfl, fun h => absurd rfl h, fun _ => ⟨rfl, v1, n2, whole (d := eI (kd m) ++ eMsg m) ?_ ?_⟩⟩
          · rw [g3]
            rw [y4] at z3
            exact y3.app z3
          · rw [g3, List.length_append]; omega
        · rw [if_pos (by simpa using vz)]
          exact ⟨.nil, _, v, rfl, fun _ => rfl, fun h => absurd h vz⟩
    · rw [end_bad s q2 e2 g2 z]
      exact ⟨.nil, _, e2, rfl, fun _ => rfl, fun h => absurd h z⟩
  · rw [get_other s q e k c, Option.bind_some]
    unfold wire_Reader_Err.f wire_Reader_At.f
    rw [Option.bind_some]
    by_cases z : e = 0
    · subst z
      rw [if_pos (by rfl)]
      exact ⟨.nil, _, 17, rfl, fun _ => rfl, fun h => by cases h⟩
    · rw [if_neg (by simp [z]), end_bad s q e h2 z]
      exact ⟨.nil, _, e, rfl, fun _ => rfl, fun h => absurd h z⟩

end Go.Proofs.Ytbmokbkgielmmaa

