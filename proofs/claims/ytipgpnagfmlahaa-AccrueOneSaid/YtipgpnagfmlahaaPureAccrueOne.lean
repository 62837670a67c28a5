/- The plain statement of AccrueOne: with one rate alone, the interest of a span of days is the simple one. -/
import Derived.Test.YtipgpnagfmlahaaPuSpan
namespace Go.Proofs.Ytipgpnagfmlahaa
open Go Go.Pm Go.Pm.Arith

theorem check_one (r : Int) : checkOf [⟨0, r⟩] = if r < -1000000 ∨ r > 1000000 then 1 else 0 := by
  unfold checkOf
  rw [if_neg (by simp), if_neg (by simp)]
  show (if chk [⟨0, r⟩] 0 = 0 then 0 else chk [⟨0, r⟩] 0) = _
  have e : chk [⟨0, r⟩] 0 = if r < -1000000 ∨ r > 1000000 then 1 else 0 := by
    unfold chk
    rw [if_neg (by show ¬ (¬ ((0 : Int) ≤ 0 ∧ (0 : Int) ≤ 200000) ∨ _); omega)]
    rfl
  rw [e]
  split <;> simp_all

theorem Pure.AccrueOne : ∀ (x0 : Int) (x1 : Int) (x2 : Int) (x3 : Int), (inK .i64 x0) → (inK .i64 x1) → (inK .i64 x2) → (inK .i64 x3) → lombardlaw03_AccrueOne.f x0 x1 x2 x3 = some true := by
  intro a r x n _ _ _ _
  unfold lombardlaw03_AccrueOne.f
  rw [awake_is]
  simp only [Bool.or_eq_true, decide_eq_true_eq]
  by_cases c : ((n < 0 ∨ n > 3660) ∨ x < 0) ∨ x > 100000
  · rw [if_pos c]; rfl
  · rw [if_neg c, i64_id (x + n) (by omega) (by omega), between_is a _ x (x + n) (by unfold inI64; omega) (by unfold inI64; omega), simple_is, Option.bind_some, Option.bind_some]
    have g : goodSpan [⟨0, r⟩] x (x + n) := by
      unfold goodSpan
      show _ ∧ _ ∧ _ ∧ _ ∧ _ ∧ _ ∧ (0 : Int) ≤ x
      omega
    have E : (if runErr a [⟨0, r⟩] x (x + n) = 0 then (a * S [⟨0, r⟩] x (x + n - x).toNat / 360000000, 0) else (0, runErr a [⟨0, r⟩] x (x + n))) = simpleOf a r n := by
      unfold simpleOf
      by_cases k : r < -1000000 ∨ r > 1000000
      · have e : runErr a [⟨0, r⟩] x (x + n) = 1 := by unfold runErr; rw [check_one, if_pos k, if_pos (by decide)]
        rw [e, if_neg (show ¬ (goodAR a r ∧ 0 ≤ n ∧ n ≤ 3660) by unfold goodAR; omega)]
        rfl
      · have fi : Fine [⟨0, r⟩] := fine_of (by rw [check_one, if_neg k])
        by_cases ha : 0 ≤ a ∧ a ≤ 1125899906842624
        · have e : runErr a [⟨0, r⟩] x (x + n) = 0 := by unfold runErr; rw [check_one, if_neg k, if_neg (show ¬ ((0 : Int) ≠ 0) by decide), if_neg (fun h => h g), if_neg (fun h => h ha)]
          rw [if_pos (show goodAR a r ∧ 0 ≤ n ∧ n ≤ 3660 by unfold goodAR; omega), if_pos e]
          rw [S_const (r := r) _ (fun u hu => by
            rw [rateAt_cut fi (c := 1) ⟨by simp, fun k hk => by
              obtain rfl : k = 0 := by omega
              show (0 : Int) ≤ _
              omega, fun k hk hk2 => by simp at hk2; omega⟩]
            rfl)]
          rw [show (((x + n - x).toNat : Nat) : Int) = n by omega]
        · have e : runErr a [⟨0, r⟩] x (x + n) = 1 := by unfold runErr; rw [check_one, if_neg k, if_neg (show ¬ ((0 : Int) ≠ 0) by decide), if_neg (fun h => h g), if_pos ha]
          rw [e, if_neg (show ¬ (goodAR a r ∧ 0 ≤ n ∧ n ≤ 3660) by unfold goodAR; omega)]
          rfl
    rw [E]
    simp

end Go.Proofs.Ytipgpnagfmlahaa

