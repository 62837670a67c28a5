/- The plain statement of HaircutCovers: what a lot covers, the least and the greatest lot, the program's and the document's, are the same. -/
import Derived.Test.YtdcpdnfalnelkaaPuCut
namespace Go.Proofs.Ytdcpdnfalnelkaa
open Go Go.Pm

theorem Pure.HaircutCovers : ∀ (x0 : Int) (x1 : Int) (x2 : Int) (x3 : Int), (inK .i64 x0) → (inK .i64 x1) → (inK .i64 x2) → (inK .i64 x3) → lombardlaw15_HaircutCovers.f x0 x1 x2 x3 = some true := by
  intro q p c n _ _ _ hn
  have hn := in64 hn
  unfold lombardlaw15_HaircutCovers.f
  rw [(cover_is q p c).1, (cover_is q p c).2, least_is, ref_least_is n p c hn.2, most_is, ref_most_is n p c q hn.2, awake_is]
  simp

end Go.Proofs.Ytdcpdnfalnelkaa

