/- Shows, in plain whole numbers, what the printed cover and the printed least quantity tell. -/
import Derived.Test.YtdcpdnfalnelkaaFixMHaircutMore
namespace Go.Proofs.Ytdcpdnfalnelkaa.PHaircutMore
open Go.RowKit Go.Proofs.YtdcpdnfalnelkaaW.PrintWords Go.Proofs.YtdcpdnfalnelkaaW.PrintLast Go.Proofs.YtdcpdnfalnelkaaW.PrintMore Go.Pm.Arith
set_option linter.unusedVariables false
set_option linter.unusedSimpArgs false

def fair (p c : Int) : Prop := 1 ≤ p ∧ p ≤ 4294967296 ∧ 0 ≤ c ∧ c < 1000000

instance (p c : Int) : Decidable (fair p c) := inferInstanceAs (Decidable (_ ∧ _ ∧ _ ∧ _))

theorem good_is (p c : Int) : haircut_good.f p c = some (decide (fair p c)) := by
  unfold haircut_good.f fair
  by_cases h1 : p ≥ 1
  · rw [if_pos h1]
    by_cases h2 : p ≤ 4294967296
    · rw [if_pos h2]
      by_cases h3 : c ≥ 0
      · rw [if_pos h3]; congr 1; simp [h1, h2, h3]
      · rw [if_neg h3]; congr 1; simp [h3]
    · rw [if_neg h2]; congr 1; simp [h2]
  · rw [if_neg h1]; congr 1; simp [h1]

/-- What so many cover. -/
def val (p c q : Int) : Int := q * p / 1000000 * (1000000 - c) / 1000000

theorem cover_is (k : Nat) (hk : 65 < k) (q p c : Int) (g : fair p c) (hq : 0 ≤ q) (hq' : q ≤ 1125899906842624) : haircut_Cover.f k q p c = some (val p c q, 0) := by
  unfold haircut_Cover.f
  obtain ⟨g1, g2, g3, g4⟩ := id g
  rw [good_is, decide_eq_true g]
  simp only [Option.bind_some]
  rw [if_pos trivial, worth_is k hk]
  have e : worth q p = (q * p / 1000000, 0) := by unfold worth; rw [if_neg (by omega)]
  rw [e]
  simp only [Option.bind_some]
  have hw : wrap64 (1000000 - c) = 1000000 - c := by unfold wrap64; omega
  have h0 : 0 ≤ q * p := Int.mul_nonneg hq (by omega)
  have hz' : q * p ≤ 1125899906842624 * 4294967296 := Int.mul_le_mul (by omega) (by omega) (by omega) (by decide)
  have h1 : 0 ≤ q * p / 1000000 * (1000000 - c) := Int.mul_nonneg (by omega) (by omega)
  have h2 : q * p / 1000000 * (1000000 - c) ≤ 4835703278458516698 * 1000000 := Int.mul_le_mul (by omega) (by omega) (by omega) (by decide)
  rw [if_pos trivial, hw, muldiv_floor k hk (q * p / 1000000) (1000000 - c) 1000000 (by omega) (by omega) (by omega) (by omega) (by decide) (by decide) (by omega)]
  rfl

theorem cover_fault (k : Nat) (hk : 65 < k) (q p c : Int) (g : ¬ (fair p c ∧ 0 ≤ q ∧ q ≤ 1125899906842624)) : ∃ f, f ≠ 0 ∧ haircut_Cover.f k q p c = some (0, f) := by
  unfold haircut_Cover.f
  rw [good_is]
  by_cases h : fair p c
  · rw [decide_eq_true h]
    simp only [Option.bind_some]
    rw [if_pos trivial, worth_is k hk]
    have e : worth q p = (0, 1) := by
      obtain ⟨g1, g2, g3, g4⟩ := id h
      unfold worth; rw [if_pos]
      by_cases hh : q < 0
      · exact Or.inl hh
      · exact Or.inr (Or.inl (by have : ¬ (0 ≤ q ∧ q ≤ 1125899906842624) := fun x => g ⟨h, x⟩; omega))
    rw [e]
    exact ⟨1, by decide, rfl⟩
  · rw [decide_eq_false h]
    exact ⟨1, by decide, rfl⟩

theorem val_up (p c a b : Int) (g : fair p c) (h : a ≤ b) : val p c a ≤ val p c b := by
  obtain ⟨g1, g2, g3, g4⟩ := g
  unfold val
  have h1 : a * p ≤ b * p := Int.mul_le_mul_of_nonneg_right h (by omega)
  have h2 : a * p / 1000000 ≤ b * p / 1000000 := Int.ediv_le_ediv (by decide) h1
  exact Int.ediv_le_ediv (by decide) (Int.mul_le_mul_of_nonneg_right h2 (by omega))

theorem val_cut (p c d q : Int) (hp : 0 ≤ p) (h : c ≤ d) (hq : 0 ≤ q) : val p d q ≤ val p c q := by
  unfold val
  have h0 : 0 ≤ q * p := Int.mul_nonneg hq hp
  exact Int.ediv_le_ediv (by decide) (Int.mul_le_mul_of_nonneg_left (by omega) (by omega))

theorem val_nonneg (p c q : Int) (g : fair p c) (hq : 0 ≤ q) : 0 ≤ val p c q := by
  obtain ⟨g1, g2, g3, g4⟩ := g
  unfold val
  have h0 : 0 ≤ q * p := Int.mul_nonneg hq (by omega)
  have h1 : 0 ≤ q * p / 1000000 * (1000000 - c) := Int.mul_nonneg (by omega) (by omega)
  omega

theorem least_loop (need p c : Int) (g : fair p c) : ∀ (j k : Nat) (low high : Int), high - low < 2 ^ j → 66 + j < k → 0 ≤ low → low ≤ high → high ≤ 1125899906842624 → need ≤ val p c high →
    (low = 0 ∨ val p c (low - 1) < need) → ∃ n, haircut_Least.l0 k need p c low high = some (n, true) ∧ 0 ≤ n ∧ n ≤ 1125899906842624 ∧ need ≤ val p c n ∧ (n = 0 ∨ val p c (n - 1) < need)
  | j, 0, _, _, _, hk, _, _, _, _, _ => by omega
  | j, k + 1, low, high, hj, hk, h0, h1, h2, h3, h4 => by
    rw [haircut_Least.l0]
    by_cases c1 : low < high
    · obtain ⟨j, rfl⟩ : ∃ i, j = i + 1 := ⟨j - 1, by cases j with | zero => simp at hj; omega | succ i => rfl⟩
      have e2 : (2 : Int) ^ (j + 1) = 2 ^ j * 2 := Int.pow_succ _ _
      have hp : (0 : Int) < 2 ^ j := Int.pow_pos (by decide)
      have w1 : wrap64 (low + high) = low + high := by unfold wrap64; omega
      have t1 : Int.tdiv (low + high) 2 = (low + high) / 2 := Int.tdiv_eq_ediv_of_nonneg (by omega)
      have w2 : wrap64 ((low + high) / 2) = (low + high) / 2 := by unfold wrap64; omega
      have w3 : wrap64 ((low + high) / 2 + 1) = (low + high) / 2 + 1 := by unfold wrap64; omega
      rw [if_pos c1, w1, t1, w2, w3, cover_is k (by omega) _ p c g (by omega) (by omega)]
      simp only [Option.bind_some]
      by_cases c2 : val p c ((low + high) / 2) ≥ need
      · rw [if_pos c2]
        exact least_loop need p c g j k _ _ (by omega) (by omega) h0 (by omega) (by omega) c2 h4
      · rw [if_neg c2]
        exact least_loop need p c g j k _ _ (by omega) (by omega) (by omega) (by omega) h2 h3 (Or.inr (by rw [Int.add_sub_cancel]; omega))
    · rw [if_neg c1]
      obtain rfl : low = high := by omega
      exact ⟨low, rfl, h0, h2, h3, h4⟩

/-- The least quantity: it is there, and just enough; or it is told that there is none. -/
theorem least_is (k : Nat) (hk : 130 < k) (need p c : Int) : haircut_Least.f k need p c = some (0, false) ∨
    fair p c ∧ ∃ n, haircut_Least.f k need p c = some (n, true) ∧ 0 ≤ n ∧ n ≤ 1125899906842624 ∧ need ≤ val p c n ∧ (n = 0 ∨ val p c (n - 1) < need) := by
  obtain ⟨k, rfl⟩ : ∃ n, k = n + 1 := ⟨k - 1, by omega⟩
  unfold haircut_Least.f
  rw [good_is]
  simp only [Option.bind_some]
  by_cases g : fair p c
  · rw [decide_eq_true g, if_pos rfl, haircut_Least.j0]
    by_cases h0 : need < 0
    · rw [decide_eq_true h0, if_pos rfl]; exact Or.inl rfl
    · rw [decide_eq_false h0, if_neg (by decide), cover_is k (by omega) _ p c g (by decide) (by decide)]
      simp only [Option.bind_some]
      by_cases h1 : val p c 1125899906842624 < need
      · rw [if_pos h1]; exact Or.inl rfl
      · rw [if_neg h1]
        exact Or.inr ⟨g, least_loop need p c g 51 k 0 1125899906842624 (by decide) (by omega) (by decide) (by decide) (by decide) (by omega) (Or.inl rfl)⟩
  · rw [decide_eq_false g, if_neg (by decide), haircut_Least.j0, if_pos rfl]; exact Or.inl rfl

theorem awake_is (k : Nat) (hk : 130 < k) : lombardlaw15_awake.f k = some true := by
  have g : fair 990000 100000 := by decide
  unfold lombardlaw15_awake.f
  rw [cover_is k (by omega) 1000 990000 100000 g (by decide) (by decide)]
  have v0 : val 990000 100000 1000 = 891 := by decide
  have v1 : val 990000 100000 999 = 890 := by decide
  simp only [Option.bind_some]
  rcases least_is k hk 891 990000 100000 with h | ⟨_, n, h, n0, n1, n2, n3⟩
  · exfalso
    obtain ⟨k, rfl⟩ : ∃ n, k = n + 1 := ⟨k - 1, by omega⟩
    unfold haircut_Least.f at h
    rw [good_is, decide_eq_true g] at h
    simp only [Option.bind_some] at h
    rw [if_pos trivial, haircut_Least.j0, if_neg (by decide), cover_is k (by omega) _ _ _ g (by decide) (by decide)] at h
    simp only [Option.bind_some] at h
    rw [if_neg (by decide)] at h
    obtain ⟨n, e, _⟩ := least_loop 891 990000 100000 g 51 k 0 1125899906842624 (by decide) (by omega) (by decide) (by decide) (by decide) (by decide) (Or.inl rfl)
    rw [e] at h
    cases h
  · have : n = 1000 := by
      rcases Int.lt_trichotomy n 1000 with l | l | l
      · have := val_up 990000 100000 n 999 g (by omega); omega
      · exact l
      · rcases n3 with n3 | n3
        · omega
        · have := val_up 990000 100000 1000 (n - 1) g (by omega); omega
    subst this
    rw [h, v0]
    rfl

end Go.Proofs.Ytdcpdnfalnelkaa.PHaircutMore
