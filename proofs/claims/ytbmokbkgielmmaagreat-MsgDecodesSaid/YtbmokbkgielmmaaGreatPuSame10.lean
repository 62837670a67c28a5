/- Shows that lots, baskets and messages are the same as themselves. -/
import Derived.Test.YtbmokbkgielmmaaGreatPuCur
import Derived.Test.YtbmokbkgielmmaaGreatGx3
namespace Go.Proofs.YtbmokbkgielmmaaGreat
open Go Go.Pm Go.Pm.Arith
set_option linter.unusedVariables false
set_option linter.unusedSimpArgs false
theorem ints_self_loop (l : List Int) (hl : l.length < 100000000) : ∀ (j i : Nat), l.length = i + j → loop (lombardref09_Same.r0 l l) (i : Int) = some (.inr ())
 | 0, i, h => loop_end (by unfold lombardref09_Same.r0 lombardref09_Same.b0; rw [if_neg (by simp; omega)])
 | j + 1, i, h => by
  have g : (0 : Int) ≤ (i : Int) ∧ (i : Int) < (l.length : Int) := by omega
  have s1 : lombardref09_Same.r0 l l (i : Int) = some (.inl ((i + 1 : Nat) : Int)) := by
   unfold lombardref09_Same.r0 lombardref09_Same.b0
   rw [if_pos (decide_eq_true g.2), if_pos g, if_pos g, if_neg (by simp), i64_nx i (by omega)]
  rw [loop_next s1, ints_self_loop l hl j (i + 1) (by omega)]
theorem ints_self (l : List Int) (hl : l.length < 100000000) : lombardref09_Same.f l l = some true := by
 unfold lombardref09_Same.f
 have h : loop (lombardref09_Same.r0 l l) 0 = _ := ints_self_loop l hl l.length 0 (by omega)
 rw [if_neg (by simp), h]; rfl
theorem lots_self_loop (l : List api_Lot) (hl : l.length < 100000000) : ∀ (j i : Nat), l.length = i + j → loop (lombardref10_Lots.r0 l l) (i : Int) = some (.inr ())
 | 0, i, h => loop_end (by unfold lombardref10_Lots.r0 lombardref10_Lots.b0; rw [if_neg (by simp; omega)])
 | j + 1, i, h => by
  have g : (0 : Int) ≤ (i : Int) ∧ (i : Int) < (l.length : Int) := by omega
  have s1 : lombardref10_Lots.r0 l l (i : Int) = some (.inl ((i + 1 : Nat) : Int)) := by
   unfold lombardref10_Lots.r0 lombardref10_Lots.b0
   rw [if_pos (decide_eq_true g.2), if_pos g, if_pos g, if_neg (by simp), i64_nx i (by omega)]
  rw [loop_next s1, lots_self_loop l hl j (i + 1) (by omega)]
theorem lots_self (l : List api_Lot) (hl : l.length < 100000000) : lombardref10_Lots.f l l = some true := by
 unfold lombardref10_Lots.f
 have h : loop (lombardref10_Lots.r0 l l) 0 = _ := lots_self_loop l hl l.length 0 (by omega)
 rw [if_neg (by simp), h]; rfl
theorem cuts_self_loop (x : api_Basket) (hl : x.Cuts.length < 100000000) : ∀ (j i : Nat), x.Cuts.length = i + j → loop (lombardref10_Baskets.r0 x x) (i : Int) = some (.inr ())
 | 0, i, h => loop_end (by unfold lombardref10_Baskets.r0 lombardref10_Baskets.b0; rw [if_neg (by simp; omega)])
 | j + 1, i, h => by
  have g : (0 : Int) ≤ (i : Int) ∧ (i : Int) < (x.Cuts.length : Int) := by omega
  have s1 : lombardref10_Baskets.r0 x x (i : Int) = some (.inl ((i + 1 : Nat) : Int)) := by
   unfold lombardref10_Baskets.r0 lombardref10_Baskets.b0
   rw [if_pos (decide_eq_true g.2), if_pos g, if_pos g, if_neg (by simp), i64_nx i (by omega)]
  rw [loop_next s1, cuts_self_loop x hl j (i + 1) (by omega)]
theorem basket_self (x : api_Basket) (h1 : x.Cuts.length < 100000000) (h2 : x.Barred.length < 100000000) : lombardref10_Baskets.f x x = some true := by
 unfold lombardref10_Baskets.f
 have h : loop (lombardref10_Baskets.r0 x x) 0 = _ := cuts_self_loop x h1 x.Cuts.length 0 (by omega)
 rw [ints_self x.Barred h2, h]
 simp
theorem prices_self_loop (x : lombardref10_Msg) (hl : x.Prices.length < 100000000) : ∀ (j i : Nat), x.Prices.length = i + j → loop (lombardref10_Same.r0 x x) (i : Int) = some (.inr ())
 | 0, i, h => loop_end (by unfold lombardref10_Same.r0 lombardref10_Same.b0; rw [if_neg (by simp; omega)])
 | j + 1, i, h => by
  have g : (0 : Int) ≤ (i : Int) ∧ (i : Int) < (x.Prices.length : Int) := by omega
  have s1 : lombardref10_Same.r0 x x (i : Int) = some (.inl ((i + 1 : Nat) : Int)) := by
   unfold lombardref10_Same.r0 lombardref10_Same.b0
   rw [if_pos (decide_eq_true g.2), if_pos g, if_pos g, if_neg (by simp), i64_nx i (by omega)]
  rw [loop_next s1, prices_self_loop x hl j (i + 1) (by omega)]
theorem msg_self (x : lombardref10_Msg) (h1 : x.Prices.length < 100000000) (h2 : x.In.length < 100000000) (h3 : x.Basket.Cuts.length < 100000000) (h4 : x.Basket.Barred.length < 100000000) : lombardref10_Same.f x x = some true := by
 unfold lombardref10_Same.f
 have h : loop (lombardref10_Same.r0 x x) 0 = _ := prices_self_loop x h1 x.Prices.length 0 (by omega)
 rw [basket_self x.Basket h3 h4, lots_self x.In h2, h]
 simp
end Go.Proofs.YtbmokbkgielmmaaGreat
