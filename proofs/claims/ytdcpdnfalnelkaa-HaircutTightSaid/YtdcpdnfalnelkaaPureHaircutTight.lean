/- Shows that one fewer than the least covers too little, and one more than the most too much, of the printed functions, for all arguments. -/
import Derived.Test.YtdcpdnfalnelkaaHairTHaircutTight
namespace Go.Proofs.Ytdcpdnfalnelkaa.Pure
open Go.RowKit Go.Proofs.Ytdcpdnfalnelkaa.PHaircutTight Go.Proofs.YtdcpdnfalnelkaaW.PrintWords Go.Proofs.YtdcpdnfalnelkaaW.PrintLast
set_option linter.unusedVariables false
set_option linter.unusedSimpArgs false

theorem most_loop (limit p c qty : Int) (g : fair p c) (hqty : qty ≤ 1125899906842624) : ∀ (j k : Nat) (low high : Int), high - low < 2 ^ j → 66 + j < k → 0 ≤ low → low ≤ high → high ≤ qty → val p c low ≤ limit →
    (high = qty ∨ limit < val p c (high + 1)) → ∃ n, haircut_Most.l0 k limit p c low high = some n ∧ 0 ≤ n ∧ n ≤ qty ∧ val p c n ≤ limit ∧ (n = qty ∨ limit < val p c (n + 1))
  | j, 0, _, _, _, hk, _, _, _, _, _ => by omega
  | j, k + 1, low, high, hj, hk, h0, h1, h2, h3, h4 => by
    rw [haircut_Most.l0]
    by_cases c1 : low < high
    · obtain ⟨j, rfl⟩ : ∃ i, j = i + 1 := ⟨j - 1, by cases j with | zero => simp at hj; omega | succ i => rfl⟩
      have e2 : (2 : Int) ^ (j + 1) = 2 ^ j * 2 := Int.pow_succ _ _
      have hp : (0 : Int) < 2 ^ j := Int.pow_pos (by decide)
      have w1 : wrap64 (low + high) = low + high := by unfold wrap64; omega
      have w4 : wrap64 (low + high + 1) = low + high + 1 := by unfold wrap64; omega
      have t1 : Int.tdiv (low + high + 1) 2 = (low + high + 1) / 2 := Int.tdiv_eq_ediv_of_nonneg (by omega)
      have w2 : wrap64 ((low + high + 1) / 2) = (low + high + 1) / 2 := by unfold wrap64; omega
      have w3 : wrap64 ((low + high + 1) / 2 - 1) = (low + high + 1) / 2 - 1 := by unfold wrap64; omega
      rw [if_pos c1, w1, w4, t1, w2, w3, cover_is k (by omega) _ p c g (by omega) (by omega)]
      simp only [Option.bind_some]
      by_cases c2 : val p c ((low + high + 1) / 2) ≤ limit
      · rw [if_pos c2]
        exact most_loop limit p c qty g hqty j k _ _ (by omega) (by omega) (by omega) (by omega) h2 c2 h4
      · rw [if_neg c2]
        exact most_loop limit p c qty g hqty j k _ _ (by omega) (by omega) (by omega) (by omega) (by omega) h3 (Or.inr (by rw [Int.sub_add_cancel]; omega))
    · rw [if_neg c1]
      obtain rfl : low = high := by omega
      exact ⟨low, rfl, h0, h2, h3, h4⟩

theorem most_is (k : Nat) (hk : 130 < k) (limit p c qty : Int) : haircut_Most.f k limit p c qty = some (-1) ∨
    (fair p c ∧ qty ≤ 1125899906842624) ∧ ∃ n, haircut_Most.f k limit p c qty = some n ∧ 0 ≤ n ∧ n ≤ qty ∧ val p c n ≤ limit ∧ (n = qty ∨ limit < val p c (n + 1)) := by
  obtain ⟨k, rfl⟩ : ∃ n, k = n + 1 := ⟨k - 1, by omega⟩
  unfold haircut_Most.f
  rw [good_is]
  simp only [Option.bind_some]
  by_cases g : fair p c
  · rw [decide_eq_true g, if_pos rfl]
    by_cases h0 : limit < 0
    · rw [if_pos h0, haircut_Most.j0, if_pos rfl]; exact Or.inl rfl
    · by_cases h1 : qty < 0
      · rw [if_neg h0, if_pos h1, haircut_Most.j0, if_pos rfl]; exact Or.inl rfl
      · rw [if_neg h0, if_neg h1, haircut_Most.j0]
        by_cases h2 : qty > 1125899906842624
        · rw [decide_eq_true h2, if_pos rfl]; exact Or.inl rfl
        · rw [decide_eq_false h2, if_neg (by decide)]
          have v0 : val p c 0 = 0 := by unfold val; simp
          have p51 : (2 : Int) ^ 51 = 2251799813685248 := by decide
          exact Or.inr ⟨⟨g, by omega⟩, most_loop limit p c qty g (by omega) 51 k 0 qty (by omega) (by omega) (by omega) (by omega) (by omega) (by omega) (Or.inl rfl)⟩
  · rw [decide_eq_false g, if_neg (by decide), haircut_Most.j0, if_pos rfl]; exact Or.inl rfl

theorem j1_true (k : Nat) (hk : 150 < k) (qty p c need : Int) : lombardlaw15_HaircutTight.j1 k qty p c need = some true := by
  obtain ⟨k, rfl⟩ : ∃ n, k = n + 1 := ⟨k - 1, by omega⟩
  rw [lombardlaw15_HaircutTight.j1]
  rcases most_is k (by omega) need p c qty with h | ⟨⟨g, hq⟩, n, h, n0, n1, n2, n3⟩
  · rw [h]
    simp only [Option.bind_some]
    rw [if_pos (by decide), if_pos trivial, awake_is k (by omega)]
    rfl
  · rw [h]
    simp only [Option.bind_some]
    rw [if_neg (by omega), cover_is k (by omega) n p c g n0 (by omega)]
    simp only [Option.bind_some]
    rw [if_pos trivial, if_neg (by omega), decide_eq_false (by omega)]
    obtain ⟨k, rfl⟩ : ∃ n, k = n + 1 := ⟨k - 1, by omega⟩
    rw [lombardlaw15_HaircutTight.j2, if_neg (by decide)]
    by_cases e : n = qty
    · rw [if_pos e, awake_is k (by omega)]; rfl
    · have w : wrap64 (n + 1) = n + 1 := by unfold wrap64; omega
      have hv := n3.resolve_left e
      rw [if_neg e, w, cover_is k (by omega) (n + 1) p c g (by omega) (by omega)]
      simp only [Option.bind_some]
      rw [if_pos trivial, if_pos (by omega), awake_is k (by omega)]
      rfl

theorem HaircutTight : lombardlaw15_HaircutTight.Pure := by
  intro qty p c need wa wb wp wc
  refine ⟨200, ?_⟩
  unfold lombardlaw15_HaircutTight.f
  rcases least_is 200 (by decide) need p c with h | ⟨g, n, h, n0, n1, n2, n3⟩
  · rw [h]
    simp only [Option.bind_some]
    rw [if_neg (by decide), j1_true _ (by decide)]
  · rw [h]
    simp only [Option.bind_some]
    rw [if_pos trivial, cover_is _ (by decide) n p c g n0 n1]
    simp only [Option.bind_some]
    rw [if_pos trivial, decide_eq_false (by omega), lombardlaw15_HaircutTight.j0, if_neg (by decide)]
    by_cases e : n > 0
    · have w : wrap64 (n - 1) = n - 1 := by unfold wrap64; omega
      rw [if_pos e, w, cover_is _ (by decide) (n - 1) p c g (by omega) (by omega)]
      simp only [Option.bind_some]
      rw [if_pos trivial, if_neg (by omega), j1_true _ (by decide)]
    · rw [if_neg e, j1_true _ (by decide)]

end Go.Proofs.Ytdcpdnfalnelkaa.Pure
