/- Shows that the document's signs of a text are those that a range over it tells. -/
import Derived.Test.YtjdkibnhlmgppaaGreatPuDec
import Derived.Test.YtjdkibnhlmgppaaGreatPuCur
import Derived.Test.YtjdkibnhlmgppaaGreatGx0
namespace Go.Proofs.YtjdkibnhlmgppaaGreat
open Go Go.Pm Go.Pm.Arith
set_option linter.unusedVariables false
set_option linter.unusedSimpArgs false

theorem at_is (s : Bs) (p : Nat) (hp : p < 1000000000) : lombardref04_at.f s (p : Int) = some (bt s p) := by
  unfold lombardref04_at.f bt
  by_cases c : p < s.length
  · rw [if_pos (decide_eq_true (by omega)), if_pos (by omega), if_pos c]
    have := (s.getD p 0).toNat_lt
    show some (IntKind.wrap .i64 ((s.getD p 0).toNat : Int)) = _
    rw [i64_idz _ (by omega) (by omega)]
  · rw [if_neg (by simp; omega), if_neg c]

theorem tail_is (x : Int) : lombardref04_tail.f x = some (decide (tl x)) := by
  unfold lombardref04_tail.f
  congr 1
  rw [Bool.eq_iff_iff, Bool.and_eq_true, decide_eq_true_eq, decide_eq_true_eq, decide_eq_true_eq]
  rfl

theorem sign_is (s : Bs) (p : Nat) (hp : p < 900000000) : lombardref04_Sign.f s (p : Int) = some (sgn4 (bt s p) (bt s (p + 1)) (bt s (p + 2)) (bt s (p + 3))) := by
  have w1 : IntKind.wrap .i64 ((p : Int) + 1) = ((p + 1 : Nat) : Int) := by rw [i64_idz _ (by omega) (by omega)]; omega
  have w2 : IntKind.wrap .i64 ((p : Int) + 2) = ((p + 2 : Nat) : Int) := by rw [i64_idz _ (by omega) (by omega)]; omega
  have w3 : IntKind.wrap .i64 ((p : Int) + 3) = ((p + 3 : Nat) : Int) := by rw [i64_idz _ (by omega) (by omega)]; omega
  unfold lombardref04_Sign.f
  rw [w1, w2, w3, at_is s p (by omega), at_is s (p + 1) (by omega), at_is s (p + 2) (by omega), at_is s (p + 3) (by omega)]
  simp only [Option.bind_some]
  have ra := bt_range s p
  have rb := bt_range s (p + 1)
  have rc := bt_range s (p + 2)
  have rd := bt_range s (p + 3)
  generalize bt s p = a at ra
  generalize bt s (p + 1) = b at rb
  generalize bt s (p + 2) = c at rc
  generalize bt s (p + 3) = d at rd
  clear w1 w2 w3 hp
  have e2 : IntKind.wrap .i64 (IntKind.wrap .i64 (IntKind.wrap .i64 (IntKind.wrap .i64 (a - 192) * 64) + b) - 128) = (a - 192) * 64 + b - 128 := by
    rw [i64_idz (a - 192) (by omega) (by omega), i64_idz ((a - 192) * 64) (by omega) (by omega), i64_idz ((a - 192) * 64 + b) (by omega) (by omega), i64_idz _ (by omega) (by omega)]
  have e3 : IntKind.wrap .i64 (IntKind.wrap .i64 (IntKind.wrap .i64 (IntKind.wrap .i64 (IntKind.wrap .i64 (a - 224) * 4096) + IntKind.wrap .i64 (IntKind.wrap .i64 (b - 128) * 64)) + c) - 128) = n3 a b c := by
    unfold n3
    rw [i64_idz (a - 224) (by omega) (by omega), i64_idz ((a - 224) * 4096) (by omega) (by omega), i64_idz (b - 128) (by omega) (by omega), i64_idz ((b - 128) * 64) (by omega) (by omega), i64_idz ((a - 224) * 4096 + (b - 128) * 64) (by omega) (by omega), i64_idz ((a - 224) * 4096 + (b - 128) * 64 + c) (by omega) (by omega), i64_idz _ (by omega) (by omega)]
  have e4 : IntKind.wrap .i64 (IntKind.wrap .i64 (IntKind.wrap .i64 (IntKind.wrap .i64 (IntKind.wrap .i64 (IntKind.wrap .i64 (a - 240) * 262144) + IntKind.wrap .i64 (IntKind.wrap .i64 (b - 128) * 4096)) + IntKind.wrap .i64 (IntKind.wrap .i64 (c - 128) * 64)) + d) - 128) = n4 a b c d := by
    unfold n4
    rw [i64_idz (a - 240) (by omega) (by omega), i64_idz ((a - 240) * 262144) (by omega) (by omega), i64_idz (b - 128) (by omega) (by omega), i64_idz ((b - 128) * 4096) (by omega) (by omega), i64_idz (c - 128) (by omega) (by omega), i64_idz ((c - 128) * 64) (by omega) (by omega),
      i64_idz ((a - 240) * 262144 + (b - 128) * 4096) (by omega) (by omega), i64_idz ((a - 240) * 262144 + (b - 128) * 4096 + (c - 128) * 64) (by omega) (by omega), i64_idz ((a - 240) * 262144 + (b - 128) * 4096 + (c - 128) * 64 + d) (by omega) (by omega), i64_idz _ (by omega) (by omega)]
  rw [e2, e3, e4]
  have A2 : (decide (a ≥ 194) && decide (a < 224)) = decide (194 ≤ a ∧ a < 224) := by rw [Bool.decide_and]
  have A3 : (decide (a ≥ 224) && decide (a < 240)) = decide (224 ≤ a ∧ a < 240) := by rw [Bool.decide_and]
  have A4 : (decide (a ≥ 240) && decide (a < 245)) = decide (240 ≤ a ∧ a < 245) := by rw [Bool.decide_and]
  have G3 : (decide (n3 a b c ≥ 2048) && (decide (n3 a b c < 55296) || decide (n3 a b c > 57343))) = decide (2048 ≤ n3 a b c ∧ (n3 a b c < 55296 ∨ n3 a b c > 57343)) := by rw [Bool.decide_and, Bool.decide_or]
  have G4 : (decide (n4 a b c d ≥ 65536) && decide (n4 a b c d < 1114112)) = decide (65536 ≤ n4 a b c d ∧ n4 a b c d < 1114112) := by rw [Bool.decide_and]
  rw [A2, A3, A4, G3, G4]
  simp only [tail_is]
  unfold sgn4
  by_cases c1 : a < 128
  · rw [if_pos (decide_eq_true c1), if_pos c1]
  · rw [if_neg (by simpa using c1), if_neg c1]
    by_cases k2 : 194 ≤ a ∧ a < 224
    · have k3 : ¬ (224 ≤ a ∧ a < 240) := by omega
      have k4 : ¬ (240 ≤ a ∧ a < 245) := by omega
      by_cases tb : tl b <;> simp [k2, k3, k4, tb]
    · by_cases k3 : 224 ≤ a ∧ a < 240
      · have k4 : ¬ (240 ≤ a ∧ a < 245) := by omega
        by_cases tb : tl b
        · by_cases tc : tl c
          · by_cases g3 : 2048 ≤ n3 a b c ∧ (n3 a b c < 55296 ∨ n3 a b c > 57343)
            · simp [k2, k3, tb, tc, g3]
            · simp [k2, k3, k4, tb, tc, g3]
          · simp [k2, k3, k4, tb, tc]
        · simp [k2, k3, k4, tb]
      · by_cases k4 : 240 ≤ a ∧ a < 245
        · by_cases tb : tl b
          · by_cases tc : tl c
            · by_cases td : tl d
              · by_cases g4 : 65536 ≤ n4 a b c d ∧ n4 a b c d < 1114112
                · simp [k2, k3, k4, tb, tc, td, g4]
                · simp [k2, k3, k4, tb, tc, td, g4]
              · simp [k2, k3, k4, tb, tc, td]
            · simp [k2, k3, k4, tb, tc]
          · simp [k2, k3, k4, tb]
        · simp [k2, k3, k4]

end Go.Proofs.YtjdkibnhlmgppaaGreat

