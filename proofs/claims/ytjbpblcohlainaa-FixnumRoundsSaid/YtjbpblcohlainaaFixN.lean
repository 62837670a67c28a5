/- Shows, in plain whole numbers, what the printed product, division, and divided product tell, for every argument that is a machine's number. -/
import Derived.Test.YtjbpblcohlainaaPrintx10
import Derived.Test.YtjbpblcohlainaaPrintx7
import Derived.Test.YtjbpblcohlainaaPrintx9
import Derived.Test.YtjbpblcohlainaaPmArith
namespace Go.Proofs.Ytjbpblcohlainaa.Print
open Go.RowKit Go.Proofs.YtjbpblcohlainaaW.PrintWords Go.Proofs.YtjbpblcohlainaaW.PrintLast Go.Proofs.YtjbpblcohlainaaW.PrintMore Go.Pm.Arith
set_option linter.unusedVariables false
set_option linter.unusedSimpArgs false

theorem size_is (a : Int) (h₀ : -9223372036854775808 ≤ a) (h₁ : a < 9223372036854775808) :
    fixnum_size.f a = some ((a.natAbs : Int), decide (a < 0)) := by
  unfold fixnum_size.f
  split
  · rename_i h
    simp only [u64_wrap, h, decide_true]
    congr 2; omega
  · rename_i h
    simp only [u64_wrap, h, decide_false]
    congr 2; omega

theorem mul_is (a b : Int) (ha₀ : 0 ≤ a) (ha₁ : a < 18446744073709551616) (hb₀ : 0 ≤ b) (hb₁ : b < 18446744073709551616) :
    fixnum_Mul.f a b = some (hiOf a b, loOf a b) := by
  unfold fixnum_Mul.f
  rw [(mul_wide a b ha₀ ha₁ hb₀ hb₁).1, (mul_wide a b ha₀ ha₁ hb₀ hb₁).2]

theorem loop_is (d lo hi qh : Int) (hd : 0 < d) (hd₁ : d < 18446744073709551616) (hl₀ : 0 ≤ lo) (hl₁ : lo < 18446744073709551616) :
    ∀ (j : Nat) (k : Nat) (rest q : Int), j ≤ 64 → j < k → 0 ≤ rest → rest < d → 0 ≤ q → q + 2 ^ j ≤ 18446744073709551616 → q % 2 ^ j = 0 →
      fixnum_Wide_Div.l0 k d rest ((j : Int) - 1) hi lo qh q = some (qh, q + (rest * 2 ^ j + lo % 2 ^ j) / d, (rest * 2 ^ j + lo % 2 ^ j) % d)
  | 0, k + 1, rest, q, _, _, hr₀, hr₁, hq₀, hq₁, hq => by
    unfold fixnum_Wide_Div.l0
    rw [if_neg (by omega)]
    simp only [Int.pow_zero, Int.mul_one, Int.emod_one, Int.add_zero]
    rw [Int.ediv_eq_zero_of_lt hr₀ hr₁, Int.emod_eq_of_lt hr₀ hr₁, Int.add_zero]
  | j + 1, k + 1, rest, q, hj, hk, hr₀, hr₁, hq₀, hq₁, hq => by
    have ih := loop_is d lo hi qh hd hd₁ hl₀ hl₁ j k
    have hp : (0 : Int) < 2 ^ j := Int.pow_pos (by decide)
    have e2 : (2 : Int) ^ (j + 1) = 2 ^ j * 2 := Int.pow_succ _ _
    have wj : IntKind.u64.wrap (((j + 1 : Nat) : Int) - 1) = (j : Int) := by rw [u64_wrap]; omega
    have sr : shr .u64 lo (j : Int) = lo / 2 ^ j := by unfold shr; rw [Nat.min_eq_left (by simp [IntKind.bits]; omega)]; simp
    have sl : shl .u64 1 (j : Int) = 2 ^ j := by
      unfold shl; rw [Nat.min_eq_left (by simp [IntKind.bits]; omega)]; simp only [Int.toNat_natCast, Int.one_mul]
      exact u64_id _ (by omega) (by have := two_pow_lt j (by omega); omega)
    have wn : wrap64 (((j + 1 : Nat) : Int) - 1 - 1) = (j : Int) - 1 := by unfold wrap64; omega
    have hb := div_bit lo j hl₀ hl₁
    have st := div_set j (by omega) hq₀ hq₁ hq
    obtain ⟨r1, r2⟩ := div_rest lo rest d j hd
    have qj : q % 2 ^ j = 0 := by
      have : (q % (2 ^ j * 2)) % 2 ^ j = q % 2 ^ j := Int.emod_emod_of_dvd q ⟨2, rfl⟩
      rw [← this, ← e2, hq]; exact Int.zero_emod _
    have qj2 : (q + 2 ^ j) % 2 ^ j = 0 := by rw [Int.add_emod_right]; exact qj
    unfold fixnum_Wide_Div.l0
    rw [if_pos (by omega), wj, if_pos (by omega), sr, sl, wn, hb, st, r1]
    have b0 : 0 ≤ lo / 2 ^ j % 2 := by omega
    have b1 : lo / 2 ^ j % 2 ≤ 1 := by omega
    generalize hbit : lo / 2 ^ j % 2 = bit at *
    by_cases top : rest / 9223372036854775808 = 1
    · rw [if_pos top, div_top hr₀ hr₁ hd₁ b0 b1 top, ih _ _ (by omega) (by omega) (by omega) (by omega) (by omega) (by omega) qj2, (r2 (2 * rest + bit)).1, (r2 (2 * rest + bit)).2]
      simp only [Int.add_assoc]
    · rw [if_neg top, div_low hr₀ hr₁ hd₁ b0 b1 top]
      by_cases c : 2 * rest + bit ≥ d
      · rw [if_pos c, u64_id (2 * rest + bit - d) (by omega) (by omega), ih _ _ (by omega) (by omega) (by omega) (by omega) (by omega) (by omega) qj2, (r2 (2 * rest + bit)).1, (r2 (2 * rest + bit)).2]
        simp only [Int.add_assoc]
      · rw [if_neg c, ih _ _ (by omega) (by omega) (by omega) (by omega) (by omega) (by omega) qj]

theorem div_is (k : Nat) (hk : 64 < k) (hi lo d : Int) (hd : 0 < d) (hd₁ : d < 18446744073709551616) (hh₀ : 0 ≤ hi) (hh₁ : hi < 18446744073709551616) (hl₀ : 0 ≤ lo) (hl₁ : lo < 18446744073709551616) :
    fixnum_Wide_Div.f k hi lo d = some (hi / d, (hi % d * 18446744073709551616 + lo) / d, (hi % d * 18446744073709551616 + lo) % d) := by
  unfold fixnum_Wide_Div.f
  have q0 : 0 ≤ hi / d := Int.ediv_nonneg hh₀ (by omega)
  have q1 : hi / d ≤ hi := Int.ediv_le_self _ hh₀
  rw [if_neg (by omega), Int.tmod_eq_emod_of_nonneg hh₀, Int.tdiv_eq_ediv_of_nonneg hh₀, u64_id _ q0 (by omega)]
  have := loop_is d lo hi (hi / d) hd hd₁ hl₀ hl₁ 64 k (hi % d) 0 (by omega) hk (Int.emod_nonneg _ (by omega)) (Int.emod_lt_of_pos _ hd) (by omega) (by decide) (by decide)
  rw [show ((64 : Nat) : Int) - 1 = 63 from rfl] at this
  rw [this, show (2 : Int) ^ 64 = 18446744073709551616 from rfl, Int.emod_eq_of_lt hl₀ hl₁, Int.zero_add]

end Go.Proofs.Ytjbpblcohlainaa.Print
