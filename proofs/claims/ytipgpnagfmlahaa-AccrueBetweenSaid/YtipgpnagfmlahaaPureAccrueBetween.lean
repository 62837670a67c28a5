/- The plain statement of AccrueBetween: the program's interest of a span of days and the document's are the same, and it is added to the amount. -/
import Derived.Test.YtipgpnagfmlahaaPuSpan
namespace Go.Proofs.Ytipgpnagfmlahaa
open Go Go.Pm Go.Pm.Arith

theorem Pure.AccrueBetween : ∀ (x0 : Int) (x1 : List api_Reset) (x2 : Int) (x3 : Int), (inK .i64 x0) → (x1.length * 16 ≤ reach ∧ ∀ y ∈ x1, api_Reset.bd y) → (inK .i64 x2) → (inK .i64 x3) → lombardlaw03_AccrueBetween.f x0 x1 x2 x3 = some true := by
  intro a l x y ha _ hx hy
  have ha := in64 ha
  have hx := in64 hx
  have hy := in64 hy
  unfold lombardlaw03_AccrueBetween.f accrue_Back.f
  rw [between_is a l x y hx hy, ref_between_is a l x y ha hx hy, awake_is, Option.bind_some, Option.bind_some, Option.bind_some]
  by_cases c : runErr a l x y = 0
  · obtain ⟨h, g, h1, h2⟩ := runErr_zero c
    unfold goodSpan at g
    have pb := prod_S h ⟨h1, h2⟩ x (n := (y - x).toNat) (by omega)
    have in1 : inI64 (a * S l x (y - x).toNat / 360000000) := by unfold inI64; omega
    have in2 : inI64 (a + a * S l x (y - x).toNat / 360000000) := by unfold inI64; omega
    simp only [if_pos c]
    rw [plus_is _ _ ha in1, sumOf_pos in2, i64_id _ in2.1 in2.2]
    simp
  · simp [c]

end Go.Proofs.Ytipgpnagfmlahaa

