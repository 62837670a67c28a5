/- Shows what the program's writer and the document write for a whole number: its digits to the base 128. -/
import Derived.Test.YtoongmdkndbppaaPmArith
import Derived.Test.YtoongmdkndbppaaGx0
import Derived.Test.YtoongmdkndbppaaGx0
namespace Go.Proofs.Ytoongmdkndbppaa
open Go Go.Pm Go.Pm.Arith
set_option linter.unusedVariables false
set_option linter.unusedSimpArgs false

theorem i64_wrap (n : Int) : IntKind.i64.wrap n = (n + 9223372036854775808) % 18446744073709551616 - 9223372036854775808 := by
  simp only [IntKind.wrap, IntKind.bits, IntKind.signed]; simp; omega
theorem i64_id (n : Int) (h₀ : -9223372036854775808 ≤ n) (h₁ : n < 9223372036854775808) : IntKind.i64.wrap n = n := by rw [i64_wrap]; omega
theorem u8_wrap (n : Int) : IntKind.u8.wrap n = n % 256 := by simp [IntKind.wrap, IntKind.bits, IntKind.signed]

theorem shrn (x : Int) (j : Nat) (hj : j ≤ 64) : shrI .u64 x (j : Int) = x / 2 ^ j := by
  unfold shrI; rw [Int.toNat_natCast, Nat.min_eq_left (by simp [IntKind.bits]; omega)]; exact Int.fdiv_eq_ediv_of_nonneg _ (Int.pow_nonneg (by decide))

theorem pow7 (k : Nat) : (2 : Int) ^ (7 * k) = 128 ^ k := by rw [Int.pow_mul]; rfl

theorem or128 : ∀ n : Fin 256, bits .or .u8 (bits .and .u8 (n : Int) 127) 128 = 128 + (n : Int) % 128 ∧ bits .and .u8 (n : Int) 127 = (n : Int) % 128 := by decide +kernel

theorem or_128 (y : Int) (h : 0 ≤ y) : bits .or .u8 (bits .and .u8 (IntKind.wrap .u8 y) 127) 128 = 128 + y % 128 ∧ bits .and .u8 (IntKind.wrap .u8 y) 127 = y % 128 := by
  rw [u8_wrap]
  have k := or128 ⟨(y % 256).toNat, by omega⟩
  have e : ((⟨(y % 256).toNat, by omega⟩ : Fin 256) : Nat) = (y % 256).toNat := rfl
  have e2 : (((y % 256).toNat : Nat) : Int) = y % 256 := by omega
  simp only [e2] at k
  rw [k.1, k.2]
  omega

/-- The digits of a number to the base 128, k + 1 of them; all but the last with the high bit. -/
def digits : Nat → Int → List Int
  | 0, x => [x % 128]
  | k + 1, x => (128 + x / 128 ^ (k + 1) % 128) :: digits k x

theorem digits_len : ∀ (k : Nat) (x : Int), (digits k x).length = k + 1
  | 0, x => rfl
  | k + 1, x => by rw [digits, List.length_cons, digits_len k x]

theorem first_loop (x : Int) (hx : 0 ≤ x) : ∀ k : Nat, k ≤ 9 → x / 128 ^ (k + 1) = 0 →
    ∃ m : Nat, m ≤ 9 ∧ loop (wire_Writer_Uint.r0 x) ((7 * k : Nat) : Int) = some ((7 * m : Nat) : Int) ∧ x / 128 ^ (m + 1) = 0 ∧ (m = 0 ∨ x / 128 ^ m ≠ 0)
  | 0, hk, h => ⟨0, by omega, loop_end (by unfold wire_Writer_Uint.r0 wire_Writer_Uint.b0; rw [if_neg (by simp)]), h, Or.inl rfl⟩
  | k + 1, hk, h => by
    have w1 : IntKind.u64.wrap ((7 * (k + 1) : Nat) : Int) = ((7 * (k + 1) : Nat) : Int) := u64_id _ (by omega) (by omega)
    have w2 : IntKind.i64.wrap (((7 * (k + 1) : Nat) : Int) - 7) = ((7 * k : Nat) : Int) := by rw [i64_id _ (by omega) (by omega)]; omega
    have gt : ((7 * (k + 1) : Nat) : Int) > 0 := by omega
    have key : wire_Writer_Uint.r0 x ((7 * (k + 1) : Nat) : Int) = if x / 128 ^ (k + 1) = 0 then some (.inl ((7 * k : Nat) : Int)) else some (.inr ((7 * (k + 1) : Nat) : Int)) := by
      unfold wire_Writer_Uint.r0 wire_Writer_Uint.b0
      rw [w1, shrn x _ (by omega), pow7, w2, decide_eq_true gt, Bool.true_and]
      simp only [beq_iff_eq]
    by_cases c : x / 128 ^ (k + 1) = 0
    · rw [if_pos c] at key
      obtain ⟨m, h1, h2, h3, h4⟩ := first_loop x hx k (by omega) c
      exact ⟨m, h1, by rw [loop_next key, h2], h3, h4⟩
    · rw [if_neg c] at key
      exact ⟨k + 1, by omega, loop_end key, h, Or.inr c⟩

theorem second_loop (x : Int) (hx : 0 ≤ x) : ∀ (m : Nat) (l : List Int), m ≤ 9 → l.length + m < 100000000 →
    loop (wire_Writer_Uint.r1 x) (((7 * m : Nat) : Int), l) = some (l ++ (digits m x).dropLast)
  | 0, l, hm, hl => loop_end (by unfold wire_Writer_Uint.r1 wire_Writer_Uint.b1; rw [if_neg (by simp)]; simp [digits])
  | m + 1, l, hm, hl => by
    have w1 : IntKind.u64.wrap ((7 * (m + 1) : Nat) : Int) = ((7 * (m + 1) : Nat) : Int) := u64_id _ (by omega) (by omega)
    have w2 : IntKind.i64.wrap (((7 * (m + 1) : Nat) : Int) - 7) = ((7 * m : Nat) : Int) := by rw [i64_id _ (by omega) (by omega)]; omega
    have gt : ((7 * (m + 1) : Nat) : Int) > 0 := by omega
    have nn : 0 ≤ x / 128 ^ (m + 1) := Int.ediv_nonneg hx (Int.pow_nonneg (by decide))
    have key : wire_Writer_Uint.r1 x (((7 * (m + 1) : Nat) : Int), l) = some (.inl (((7 * m : Nat) : Int), l ++ [128 + x / 128 ^ (m + 1) % 128])) := by
      unfold wire_Writer_Uint.r1 wire_Writer_Uint.b1
      simp only
      rw [if_pos (decide_eq_true gt), if_pos (by simp; omega), w1, shrn x _ (by omega), pow7, w2, (or_128 _ nn).1]
    rw [loop_next key, second_loop x hx m _ (by omega) (by simp; omega)]
    have ne : digits m x ≠ [] := fun h => by have := digits_len m x; rw [h] at this; simp at this
    rw [List.append_assoc, List.singleton_append]
    show _ = some (l ++ ((128 + x / 128 ^ (m + 1) % 128) :: digits m x).dropLast)
    rw [List.dropLast_cons_of_ne_nil ne]

theorem digits_last (x : Int) : ∀ m, (digits m x).dropLast ++ [x % 128] = digits m x
  | 0 => rfl
  | m + 1 => by
    have ne : digits m x ≠ [] := fun h => by have := digits_len m x; rw [h] at this; simp at this
    show ((128 + x / 128 ^ (m + 1) % 128) :: digits m x).dropLast ++ [x % 128] = _
    rw [List.dropLast_cons_of_ne_nil ne, List.cons_append, digits_last x m]; rfl

/-- As many digits as the number needs. -/
def Needs (x : Int) (m : Nat) : Prop := m ≤ 9 ∧ x / 128 ^ (m + 1) = 0 ∧ (m = 0 ∨ x / 128 ^ m ≠ 0)

theorem uint_is (x : Int) (h0 : 0 ≤ x) (h1 : x < 18446744073709551616) (b : List Int) (hb : b.length < 10000000) : ∃ m, Needs x m ∧ wire_Writer_Uint.f ⟨b⟩ x = some ⟨b ++ digits m x⟩ := by
  obtain ⟨m, m1, m2, m3, m4⟩ := first_loop x h0 9 (by omega) (Int.ediv_eq_zero_of_lt h0 (by
    have : (128 : Int) ^ (9 + 1) = 1180591620717411303424 := by decide
    omega))
  have m2' : loop (wire_Writer_Uint.r0 x) 63 = some ((7 * m : Nat) : Int) := m2
  refine ⟨m, ⟨m1, m3, m4⟩, ?_⟩
  unfold wire_Writer_Uint.f
  rw [m2', Option.bind_some]
  simp only
  rw [second_loop x h0 m b m1 (by omega), Option.bind_some, if_pos (by
    have := digits_len m x
    simp [this]; omega), (or_128 x h0).2, List.append_assoc, digits_last]

end Go.Proofs.Ytoongmdkndbppaa

