/- The plain statement of AccrueSimple: the program's interest and the document's are the same. -/
import Derived.Test.YtipgpnagfmlahaaPuAcc
namespace Go.Proofs.Ytipgpnagfmlahaa
open Go Go.Pm

theorem Pure.AccrueSimple : ∀ (x0 : Int) (x1 : Int) (x2 : Int), (inK .i64 x0) → (inK .i64 x1) → (inK .i64 x2) → lombardlaw03_AccrueSimple.f x0 x1 x2 = some true := by
  intro x0 x1 x2 h0 h1 h2
  unfold lombardlaw03_AccrueSimple.f
  rw [simple_is, Option.bind_some, ref_simple_is, Option.bind_some, awake_is]
  simp

end Go.Proofs.Ytipgpnagfmlahaa

