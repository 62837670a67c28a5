/- The plain statement of AccrueRates: the program's check and rate and the document's are the same. -/
import Derived.Test.YtipgpnagfmlahaaPuRun
namespace Go.Proofs.Ytipgpnagfmlahaa
open Go Go.Pm

theorem Pure.AccrueRates : ∀ (x0 : List api_Reset) (x1 : Int), (x0.length * 16 ≤ reach ∧ ∀ y ∈ x0, api_Reset.bd y) → (inK .i64 x1) → lombardlaw03_AccrueRates.f x0 x1 = some true := by
  intro l d _ _
  obtain ⟨c1, c2⟩ := check_is l
  unfold lombardlaw03_AccrueRates.f
  rw [c1, c2, awake_is, Option.bind_some, Option.bind_some, Option.bind_some, if_neg (by simp)]
  by_cases z : checkOf l = 0
  · obtain ⟨c, hc, e⟩ := rate_is l d (fine_of z)
    rw [if_neg (by simp [z]), e, ref_rate_is l d (fine_of z) c hc]
    simp
  · rw [if_pos (by simpa using z)]; rfl

end Go.Proofs.Ytipgpnagfmlahaa

