/- The plain statement of AccrueExact: what is paid down and what is paid up are at most one unit apart, and the one is the other turned round. -/
import Derived.Test.YtipgpnagfmlahaaPuAcc
namespace Go.Proofs.Ytipgpnagfmlahaa
open Go Go.Pm Go.Pm.Arith

theorem Pure.AccrueExact : ∀ (x0 : Int) (x1 : Int) (x2 : Int), (inK .i64 x0) → (inK .i64 x1) → (inK .i64 x2) → lombardlaw03_AccrueExact.f x0 x1 x2 = some true := by
  intro a r n h0 h1 h2
  unfold lombardlaw03_AccrueExact.f
  rw [simple_is, Option.bind_some, awake_is]
  by_cases h : goodAR a r ∧ 0 ≤ n ∧ n ≤ 3660
  · obtain ⟨b1, b2⟩ := simple_bound h.1 h.2
    have h' := h.1
    unfold goodAR at h'
    have e1 : simpleOf a r n = (a * (r * n) / 360000000, 0) := if_pos h
    have g2 : goodAR a (-r) := ⟨h'.1, h'.2.1, by omega, by omega⟩
    have e2 : simpleOf a (-r) n = (a * (-r * n) / 360000000, 0) := if_pos ⟨g2, h.2⟩
    have e3 : a * (-r * n) = -(a * (r * n)) := by rw [Int.neg_mul, Int.mul_neg]
    rw [e1, i64_id (r * n) (by omega) (by omega), i64_id (0 - r) (by omega) (by omega), show 0 - r = -r by omega, simple_is, e2, e3,
      ref_muldiv_is a (r * n) 360000000 2 (by omega) (by omega) (by omega), md_ceil a (r * n) 360000000 (by omega) (by omega) (by omega) (by omega)]
    generalize a * (r * n) = p at *
    simp only [Option.bind_some]
    rw [i64_id _ (by omega) (by omega), i64_id _ (by omega) (by omega)]
    have c1 : decide (-(-p / 360000000) - p / 360000000 ≥ 0) = true := decide_eq_true (by omega)
    have c2 : decide (-(-p / 360000000) - p / 360000000 ≤ 1) = true := decide_eq_true (by omega)
    have c3 : (-p / 360000000 == 0 - -(-p / 360000000)) = true := beq_iff_eq.mpr (by omega)
    rw [c1, c2, c3]; rfl
  · have e1 : simpleOf a r n = (0, 1) := if_neg h
    rw [e1]; rfl

end Go.Proofs.Ytipgpnagfmlahaa

