/- The plain statement of AccrueJoins: two spans of days, one behind the other, make what the whole span makes. -/
import Derived.Test.YtipgpnagfmlahaaPuSpan
namespace Go.Proofs.Ytipgpnagfmlahaa
open Go Go.Pm Go.Pm.Arith

theorem Pure.AccrueJoins : ∀ (x0 : Int) (x1 : List api_Reset) (x2 : Int) (x3 : Int) (x4 : Int), (inK .i64 x0) → (x1.length * 16 ≤ reach ∧ ∀ y ∈ x1, api_Reset.bd y) → (inK .i64 x2) → (inK .i64 x3) → (inK .i64 x4) → lombardlaw03_AccrueJoins.f x0 x1 x2 x3 x4 = some true := by
  intro a l x y z ha _ hx hy hz
  have ha := in64 ha
  have hx := in64 hx
  have hy := in64 hy
  have hz := in64 hz
  unfold lombardlaw03_AccrueJoins.f
  rw [run_is a l x y hx hy, run_is a l y z hy hz, run_is a l x z hx hz, awake_is, Option.bind_some, Option.bind_some, Option.bind_some]
  by_cases c1 : runErr a l x y = 0
  · by_cases c2 : runErr a l y z = 0
    · by_cases c3 : runErr a l x z = 0
      · obtain ⟨h, g1, h1, h2⟩ := runErr_zero c1
        obtain ⟨_, g2, _, _⟩ := runErr_zero c2
        obtain ⟨_, g3, _, _⟩ := runErr_zero c3
        unfold goodSpan at g1 g2 g3
        have p1 := prod_S h ⟨h1, h2⟩ x (n := (y - x).toNat) (by omega)
        have p2 := prod_S h ⟨h1, h2⟩ y (n := (z - y).toNat) (by omega)
        have sa := S_add l x (y - x).toNat (z - y).toNat
        rw [show (y - x).toNat + (z - y).toNat = (z - x).toNat by omega, show x + (((y - x).toNat : Nat) : Int) = y by omega] at sa
        have e : a * S l x (z - x).toNat = a * S l x (y - x).toNat + a * S l y (z - y).toNat := by rw [sa, Int.mul_add]
        simp only [if_pos c1, if_pos c2, if_pos c3]
        rw [e]
        generalize a * S l x (y - x).toNat = q1 at *
        generalize a * S l y (z - y).toNat = q2 at *
        rw [i64_id (q1 % 360000000 + q2 % 360000000) (by omega) (by omega), i64_id (q1 / 360000000 + q2 / 360000000) (by omega) (by omega)]
        by_cases k : q1 % 360000000 + q2 % 360000000 ≥ 360000000
        · rw [if_neg (by decide), if_pos (decide_eq_true k), Option.bind_some, i64_id _ (by omega) (by omega)]
          simp only
          rw [i64_id _ (by omega) (by omega)]
          have r1 : ((q1 + q2) % 360000000 == q1 % 360000000 + q2 % 360000000 - 360000000) = true := beq_iff_eq.mpr (by omega)
          have r2 : ((q1 + q2) / 360000000 == q1 / 360000000 + q2 / 360000000 + 1) = true := beq_iff_eq.mpr (by omega)
          rw [r1, r2]; rfl
        · rw [if_neg (by decide), if_neg (by simpa using k), Option.bind_some]
          simp only
          rw [i64_id _ (by omega) (by omega)]
          have r1 : ((q1 + q2) % 360000000 == q1 % 360000000 + q2 % 360000000) = true := beq_iff_eq.mpr (by omega)
          have r2 : ((q1 + q2) / 360000000 == q1 / 360000000 + q2 / 360000000 + 0) = true := beq_iff_eq.mpr (by omega)
          rw [r1, r2]; rfl
      · rw [if_pos (by simp [c3])]; rfl
    · rw [if_pos (by simp [c2])]; rfl
  · rw [if_pos (by simp [c1])]; rfl

end Go.Proofs.Ytipgpnagfmlahaa

