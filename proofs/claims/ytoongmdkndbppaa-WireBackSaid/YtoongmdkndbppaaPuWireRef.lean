/- Shows what the document writes for a whole number, and that it is what the program's writer writes. -/
import Derived.Test.YtoongmdkndbppaaPuWire
namespace Go.Proofs.Ytoongmdkndbppaa
open Go Go.Pm Go.Pm.Arith
set_option linter.unusedVariables false
set_option linter.unusedSimpArgs false

theorem toB_cons (a : Int) (l : List Int) : toB (a :: l) = toB [a] ++ toB l := rfl
theorem toB_append (a b : List Int) : toB (a ++ b) = toB a ++ toB b := by unfold toB; exact List.map_append
theorem toB_len (a : List Int) : (toB a).length = a.length := by unfold toB; exact List.length_map _
theorem toB_bts (s : Bs) : toB (bts s) = s := by
  unfold toB bts
  rw [List.map_map]
  conv => rhs; rw [← List.map_id s]
  refine List.map_congr_left fun x _ => ?_
  show UInt8.ofNat ((x.toNat : Int)).toNat = x
  rw [Int.toNat_natCast, UInt8.ofNat_toNat]

theorem div_next (x : Int) (i : Nat) : x / 128 ^ (i + 1) / 128 = x / 128 ^ (i + 2) := by
  rw [Int.ediv_ediv_of_nonneg (Int.pow_nonneg (by decide)), ← Int.pow_succ]

theorem needs_uniq {x : Int} {m k : Nat} (h : Needs x m) (h' : Needs x k) : m = k := by
  have mono : ∀ (a d : Nat), x / 128 ^ (a + 1) = 0 → x / 128 ^ (a + 1 + d) = 0 := fun a d e => by
    rw [Int.pow_add, ← Int.ediv_ediv_of_nonneg (Int.pow_nonneg (by decide)), e, Int.zero_ediv]
  rcases Nat.lt_trichotomy m k with c | c | c
  · rcases h'.2.2 with z | z
    · omega
    · have := mono m (k - m - 1) h.2.1
      rw [show m + 1 + (k - m - 1) = k by omega] at this
      exact absurd this z
  · exact c
  · rcases h.2.2 with z | z
    · omega
    · have := mono k (m - k - 1) h'.2.1
      rw [show k + 1 + (m - k - 1) = m by omega] at this
      exact absurd this z

theorem ref_uint_loop (x : Int) (h0 : 0 ≤ x) (h1 : x < 18446744073709551616) : ∀ (j i : Nat), i + j = 9 → (i = 0 ∨ x / 128 ^ i ≠ 0) →
    ∃ m, Needs x m ∧ loop lombardref09_Uint.r0 (x / 128 ^ (i + 1), toB (digits i x)) = some (toB (digits m x))
  | j, i, hj, hi => by
    have nn : 0 ≤ x / 128 ^ (i + 1) := Int.ediv_nonneg h0 (Int.pow_nonneg (by decide))
    have le : x / 128 ^ (i + 1) ≤ x := Int.ediv_le_self _ h0
    by_cases c : x / 128 ^ (i + 1) = 0
    · refine ⟨i, ⟨by omega, c, hi⟩, loop_end ?_⟩
      unfold lombardref09_Uint.r0 lombardref09_Uint.b0
      rw [if_neg (by simp; omega)]
    · obtain ⟨j, rfl⟩ : ∃ k, j = k + 1 := by
        cases j with
        | succ k => exact ⟨k, rfl⟩
        | zero =>
          exfalso
          obtain rfl : i = 9 := by omega
          have : (128 : Int) ^ (9 + 1) = 1180591620717411303424 := by decide
          exact c (Int.ediv_eq_zero_of_lt h0 (by omega))
      have w1 : IntKind.u64.wrap (Int.tdiv (x / 128 ^ (i + 1)) 128) = x / 128 ^ (i + 1 + 1) := by
        rw [Int.tdiv_eq_ediv_of_nonneg nn, u64_id _ (by omega) (by omega), div_next]
      have w2 : IntKind.u8.wrap (IntKind.wrap .u64 (128 + Int.tmod (x / 128 ^ (i + 1)) 128)) = 128 + x / 128 ^ (i + 1) % 128 := by
        rw [Int.tmod_eq_emod_of_nonneg nn, u64_id _ (by omega) (by omega), u8_wrap]; omega
      have key : lombardref09_Uint.r0 (x / 128 ^ (i + 1), toB (digits i x)) = some (.inl (x / 128 ^ (i + 1 + 1), toB (digits (i + 1) x))) := by
        unfold lombardref09_Uint.r0 lombardref09_Uint.b0
        simp only
        rw [if_pos (decide_eq_true (by omega)), w1, w2, if_pos (by rw [toB_len, toB_len, digits_len]; simp; omega)]
        rfl
      obtain ⟨m, hm, e⟩ := ref_uint_loop x h0 h1 j (i + 1) (by omega) (Or.inr c)
      exact ⟨m, hm, by rw [loop_next key, e]⟩

theorem ref_uint_is (x : Int) (h0 : 0 ≤ x) (h1 : x < 18446744073709551616) : ∃ m, Needs x m ∧ lombardref09_Uint.f x = some (toB (digits m x)) := by
  obtain ⟨m, hm, e⟩ := ref_uint_loop x h0 h1 9 0 (by omega) (Or.inl rfl)
  refine ⟨m, hm, ?_⟩
  have w1 : IntKind.u64.wrap (Int.tdiv x 128) = x / 128 ^ (0 + 1) := by
    rw [Int.tdiv_eq_ediv_of_nonneg h0, u64_id _ (by omega) (by omega)]; rfl
  have w2 : IntKind.u8.wrap (Int.tmod x 128) = x % 128 := by
    rw [Int.tmod_eq_emod_of_nonneg h0, u8_wrap]; omega
  unfold lombardref09_Uint.f
  rw [w1, w2]
  show (loop lombardref09_Uint.r0 (x / 128 ^ (0 + 1), toB (digits 0 x))).bind _ = _
  rw [e]; rfl

/-- Both write the same. -/
theorem uint_both (x : Int) (h0 : 0 ≤ x) (h1 : x < 18446744073709551616) (b : List Int) (hb : b.length < 10000000) :
    ∃ d : List Int, d.length ≤ 10 ∧ wire_Writer_Uint.f ⟨b⟩ x = some ⟨b ++ d⟩ ∧ lombardref09_Uint.f x = some (toB d) := by
  obtain ⟨m, hm, e⟩ := uint_is x h0 h1 b hb
  obtain ⟨k, hk, e'⟩ := ref_uint_is x h0 h1
  obtain rfl := needs_uniq hm hk
  exact ⟨digits m x, by rw [digits_len]; have := hm.1; omega, e, e'⟩

end Go.Proofs.Ytoongmdkndbppaa

