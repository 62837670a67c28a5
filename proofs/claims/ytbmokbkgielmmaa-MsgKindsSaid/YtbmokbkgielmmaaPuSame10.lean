/- Shows that lots, baskets and messages are the same as themselves. -/
import Derived.Test.YtbmokbkgielmmaaPuCur
import Derived.Test.YtbmokbkgielmmaaGx3
namespace Go.Proofs.Ytbmokbkgielmmaa
open Go Go.Pm Go.Pm.Arith
set_option linter.unusedVariables false
set_option linter.unusedSimpArgs false

theorem lots_self_loop (l : List api_Lot) (hl : l.length < 100000000) : ∀ (j i : Nat), l.length = i + j → loop (lombardref10_Lots.r0 l l) (i : Int) = some (.inr ())
  | 0, i, h => loop_end (by unfold lombardref10_Lots.r0 lombardref10_Lots.b0; rw [if_neg (by simp; omega)])
  | j + 1, i, h => by
    have g : (0 : Int) ≤ (i : Int) ∧ (i : Int) < (l.length : Int) := by omega
    have s1 : lombardref10_Lots.r0 l l (i : Int) = some (.inl ((i + 1 : Nat) : Int)) := by
      unfold lombardref10_Lots.r0 lombardref10_Lots.b0
      rw [if_pos (decide_eq_true g.2), if_pos g, if_pos g, if_neg (by simp), i64_nx i (by omega)]
    rw [loop_next s1, lots_self_loop l hl j (i + 1) (by omega)]

theorem lots_self (l : List api_Lot) (hl : l.length < 100000000) : lombardref10_Lots.f l l = some true := by
  unfold lombardref10_Lots.f
  have h : loop (lombardref10_Lots.r0 l l) 0 = _ := lots_self_loop l hl l.length 0 (by omega)
  rw [if_neg (by simp), h]; rfl

end Go.Proofs.Ytbmokbkgielmmaa

