/- Shows that more covers no less, and a greater haircut no more, of the printed functions, for all arguments. -/
import Derived.Test.YtdcpdnfalnelkaaHairTHaircutMore
namespace Go.Proofs.Ytdcpdnfalnelkaa.Pure
open Go.RowKit Go.Proofs.Ytdcpdnfalnelkaa.PHaircutMore Go.Proofs.YtdcpdnfalnelkaaW.PrintWords Go.Proofs.YtdcpdnfalnelkaaW.PrintLast
set_option linter.unusedVariables false
set_option linter.unusedSimpArgs false

theorem j0_true (k : Nat) (hk : 130 < k) (a b p c d : Int) : lombardlaw15_HaircutMore.j0 (k + 1) a b p c d true = some true := by
  rw [lombardlaw15_HaircutMore.j0, if_pos rfl, awake_is k hk]; rfl

theorem j1_true (k : Nat) (hk : 130 < k) (a b c : Int) : lombardlaw15_HaircutMore.j1 (k + 1) a b c true = some true := by
  rw [lombardlaw15_HaircutMore.j1, if_pos rfl, awake_is k hk]; rfl

theorem HaircutMore : lombardlaw15_HaircutMore.Pure := by
  intro a b p c d wa wb wp wc wd
  refine ⟨200, ?_⟩
  unfold lombardlaw15_HaircutMore.f
  by_cases h1 : a > b
  · rw [if_pos h1, j0_true _ (by decide)]
  by_cases h2 : c > d
  · rw [if_neg h1, decide_eq_true h2, j0_true _ (by decide)]
  rw [if_neg h1, decide_eq_false h2, lombardlaw15_HaircutMore.j0, if_neg (by decide)]
  by_cases g1 : fair p c ∧ 0 ≤ a ∧ a ≤ 1125899906842624
  · rw [cover_is _ (by decide) a p c g1.1 g1.2.1 g1.2.2]
    simp only [Option.bind_some]
    by_cases g2 : fair p c ∧ 0 ≤ b ∧ b ≤ 1125899906842624
    · rw [cover_is _ (by decide) b p c g2.1 g2.2.1 g2.2.2]
      simp only [Option.bind_some]
      by_cases g3 : fair p d ∧ 0 ≤ b ∧ b ≤ 1125899906842624
      · rw [cover_is _ (by decide) b p d g3.1 g3.2.1 g3.2.2]
        simp only [Option.bind_some]
        have gp := g1.1.1
        rw [if_pos trivial, if_pos trivial, show ((0 : Int) != 0) = false from rfl, lombardlaw15_HaircutMore.j1, if_neg (by decide), if_pos (val_up p c a b g1.1 (by omega)),
          if_pos (val_cut p c d b (by omega) (by omega) g2.2.1), if_pos (val_nonneg p c a g1.1 g1.2.1), awake_is _ (by decide)]
        rfl
      · obtain ⟨f, hf, e⟩ := cover_fault 199 (by decide) b p d g3
        rw [e]
        simp only [Option.bind_some]
        rw [if_pos trivial, if_pos trivial, bne_iff_ne.mpr hf, j1_true _ (by decide)]
    · obtain ⟨f, hf, e⟩ := cover_fault 199 (by decide) b p c g2
      rw [e]
      simp only [Option.bind_some]
      by_cases g3 : fair p d ∧ 0 ≤ b ∧ b ≤ 1125899906842624
      · exact absurd ⟨g1.1, g3.2⟩ g2
      · obtain ⟨f', hf', e'⟩ := cover_fault 199 (by decide) b p d g3
        rw [e']
        simp only [Option.bind_some]
        rw [if_pos trivial, if_neg hf, j1_true _ (by decide)]
  · obtain ⟨f, hf, e⟩ := cover_fault 199 (by decide) a p c g1
    rw [e]
    simp only [Option.bind_some]
    have h3 : ∃ x, haircut_Cover.f 199 b p c = some x := by
      by_cases g2 : fair p c ∧ 0 ≤ b ∧ b ≤ 1125899906842624
      · exact ⟨_, cover_is _ (by decide) b p c g2.1 g2.2.1 g2.2.2⟩
      · obtain ⟨f', _, e'⟩ := cover_fault 199 (by decide) b p c g2; exact ⟨_, e'⟩
    have h4 : ∃ x, haircut_Cover.f 199 b p d = some x := by
      by_cases g2 : fair p d ∧ 0 ≤ b ∧ b ≤ 1125899906842624
      · exact ⟨_, cover_is _ (by decide) b p d g2.1 g2.2.1 g2.2.2⟩
      · obtain ⟨f', _, e'⟩ := cover_fault 199 (by decide) b p d g2; exact ⟨_, e'⟩
    obtain ⟨x, hx⟩ := h3
    obtain ⟨y, hy⟩ := h4
    rw [hx, hy]
    simp only [Option.bind_some]
    rw [if_neg hf, j1_true _ (by decide)]

end Go.Proofs.Ytdcpdnfalnelkaa.Pure
