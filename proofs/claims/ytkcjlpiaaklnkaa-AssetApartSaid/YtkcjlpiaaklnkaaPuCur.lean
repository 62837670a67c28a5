/- Shows that the check of a currency's code is the document's. -/
import Derived.Test.YtkcjlpiaaklnkaaPmArith
import Derived.Test.YtkcjlpiaaklnkaaGx0
import Derived.Test.YtkcjlpiaaklnkaaGx0
namespace Go.Proofs.Ytkcjlpiaaklnkaa
open Go Go.Pm Go.Pm.Arith
set_option linter.unusedVariables false
set_option linter.unusedSimpArgs false

theorem i64_idz (n : Int) (h₀ : -9223372036854775808 ≤ n) (h₁ : n < 9223372036854775808) : IntKind.i64.wrap n = n := by
  rw [IntKind.wrap_i64]; omega
theorem i64_nx (i : Nat) (h : i < 9000000000000000000) : IntKind.i64.wrap ((i : Int) + 1) = ((i + 1 : Nat) : Int) := by
  rw [i64_idz _ (by omega) (by omega)]; omega
theorem u8_id (n : Int) (h₀ : 0 ≤ n) (h₁ : n < 256) : IntKind.u8.wrap n = n := by
  have : IntKind.u8.wrap n = n % 256 := by simp [IntKind.wrap, IntKind.bits, IntKind.signed]
  rw [this]; omega

def codes : List Bs := [[69, 85, 82], [85, 83, 68], [71, 66, 80], [67, 72, 70], [74, 80, 89], [83, 69, 75], [78, 79, 75], [68, 75, 75]]

theorem cur_is (x : Bs) : isin_Currency.f x = some (codes.contains x) ∧ lombardref05_Currency.f x = some (codes.contains x) := by
  constructor
  · unfold isin_Currency.f codes
    simp only [List.contains_cons, List.contains_nil]
    repeat' split
    all_goals simp_all
  · have k0 : lombardref05_Currency.r0 x 0 = if (([69, 85, 82] : Bs) == x) = true then some (.inr (.inl true)) else some (.inl 4) := rfl
    have k1 : lombardref05_Currency.r0 x 4 = if (([85, 83, 68] : Bs) == x) = true then some (.inr (.inl true)) else some (.inl 8) := rfl
    have k2 : lombardref05_Currency.r0 x 8 = if (([71, 66, 80] : Bs) == x) = true then some (.inr (.inl true)) else some (.inl 12) := rfl
    have k3 : lombardref05_Currency.r0 x 12 = if (([67, 72, 70] : Bs) == x) = true then some (.inr (.inl true)) else some (.inl 16) := rfl
    have k4 : lombardref05_Currency.r0 x 16 = if (([74, 80, 89] : Bs) == x) = true then some (.inr (.inl true)) else some (.inl 20) := rfl
    have k5 : lombardref05_Currency.r0 x 20 = if (([83, 69, 75] : Bs) == x) = true then some (.inr (.inl true)) else some (.inl 24) := rfl
    have k6 : lombardref05_Currency.r0 x 24 = if (([78, 79, 75] : Bs) == x) = true then some (.inr (.inl true)) else some (.inl 28) := rfl
    have k7 : lombardref05_Currency.r0 x 28 = if (([68, 75, 75] : Bs) == x) = true then some (.inr (.inl true)) else some (.inl 32) := rfl
    have k8 : lombardref05_Currency.r0 x 32 = some (.inr (.inr ())) := rfl
    have st : ∀ (a b : Int) (c : Bs) (v : Bool ⊕ Unit), (lombardref05_Currency.r0 x a = if (c == x) = true then some (.inr (.inl true)) else some (.inl b)) → loop (lombardref05_Currency.r0 x) b = some v →
        loop (lombardref05_Currency.r0 x) a = some (if (x == c) = true then .inl true else v) := by
      intro a b c v h1 h2
      by_cases e : c = x
      · subst e
        rw [if_pos (by simp)] at h1 ⊢
        exact loop_end h1
      · rw [if_neg (by simpa using e)] at h1
        rw [if_neg (by simpa using fun q => e q.symm), loop_next h1, h2]
    have := st _ _ _ _ k0 (st _ _ _ _ k1 (st _ _ _ _ k2 (st _ _ _ _ k3 (st _ _ _ _ k4 (st _ _ _ _ k5 (st _ _ _ _ k6 (st _ _ _ _ k7 (loop_end k8))))))))
    clear k0 k1 k2 k3 k4 k5 k6 k7 k8 st
    unfold lombardref05_Currency.f codes
    rw [this, Option.bind_some]
    clear this
    simp only [List.contains_cons, List.contains_nil]
    generalize (x == ([69, 85, 82] : Bs)) = b0
    generalize (x == ([85, 83, 68] : Bs)) = b1
    generalize (x == ([71, 66, 80] : Bs)) = b2
    generalize (x == ([67, 72, 70] : Bs)) = b3
    generalize (x == ([74, 80, 89] : Bs)) = b4
    generalize (x == ([83, 69, 75] : Bs)) = b5
    generalize (x == ([78, 79, 75] : Bs)) = b6
    generalize (x == ([68, 75, 75] : Bs)) = b7
    cases b0
    · cases b1
      · cases b2
        · cases b3
          · cases b4
            · cases b5
              · cases b6
                · cases b7 <;> rfl
                · rfl
              · rfl
            · rfl
          · rfl
        · rfl
      · rfl
    · rfl

end Go.Proofs.Ytkcjlpiaaklnkaa

