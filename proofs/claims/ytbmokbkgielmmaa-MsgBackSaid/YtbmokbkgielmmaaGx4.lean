/- Shows what functions of the program come to, each as a plain function: written by a program of the author's for this claim. -/
import Derived.Test.YtbmokbkgielmmaaGx3
namespace Go.Proofs.Ytbmokbkgielmmaa
open Go Go.Pm
set_option linter.unusedVariables false
set_option linter.unusedSimpArgs false
noncomputable def lombardref05_Currency.b0 (x0 : Bs) (v4 : Int) : Option (Int ⊕ (Bool ⊕ Unit)) :=
  if (decide (v4 < 32)) = true then
    if (0 : Int) ≤ v4 ∧ v4 ≤ (IntKind.wrap .i64 (v4 + 3)) ∧ (IntKind.wrap .i64 (v4 + 3)) ≤ (List.length [69, 85, 82, 32, 85, 83, 68, 32, 71, 66, 80, 32, 67, 72, 70, 32, 74, 80, 89, 32, 83, 69, 75, 32, 78, 79, 75, 32, 68, 75, 75, 32] : Int) then
    if ((List.take (Int.toNat (IntKind.wrap .i64 (v4 + 3)) - Int.toNat v4) (List.drop (Int.toNat v4) [69, 85, 82, 32, 85, 83, 68, 32, 71, 66, 80, 32, 67, 72, 70, 32, 74, 80, 89, 32, 83, 69, 75, 32, 78, 79, 75, 32, 68, 75, 75, 32])) == x0) = true then
      some (.inr (.inl true))
    else
      some (.inl (IntKind.wrap .i64 (v4 + 4)))
    else none
  else
    some (.inr (.inr ()))
noncomputable def lombardref05_Currency.r0 (x0 : Bs) (s : Int) : Option (Int ⊕ (Bool ⊕ Unit)) := lombardref05_Currency.b0 x0 s
noncomputable def lombardref05_Currency.f (x0 : Bs) : Option (Bool) :=
  (loop (lombardref05_Currency.r0 x0) 0).bind fun o12 =>
  match o12 with
  | .inl r18 => some r18
  | .inr w11 =>
    some false

noncomputable def lombardref10_Basket.b0 (x0 : api_Basket) (v40 : Int) : Option (Int ⊕ (Int ⊕ Unit)) :=
  if (decide (v40 < (List.length x0.Cuts : Int))) = true then
    if (0 : Int) ≤ v40 ∧ v40 < (List.length x0.Cuts : Int) then
    (lombardref10_in.f ((nth x0.Cuts v40).Days) 0 200000).bind fun t73 =>
    if ((!t73) = false → (0 : Int) ≤ v40 ∧ v40 < (List.length x0.Cuts : Int)) then
    (if (!t73) = false then lombardref10_in.f ((nth x0.Cuts v40).Rating) 0 20 else some default).bind fun t76 =>
    if (((!t73) || (!t76)) = false → (0 : Int) ≤ v40 ∧ v40 < (List.length x0.Cuts : Int)) then
    (if ((!t73) || (!t76)) = false then lombardref10_in.f ((nth x0.Cuts v40).Cut) 0 999999 else some default).bind fun t79 =>
    if (((!t73) || (!t76)) || (!t79)) = true then
      some (.inr (.inl 1))
    else
      some (.inl (IntKind.wrap .i64 (v40 + 1)))
    else none
    else none
    else none
  else
    some (.inr (.inr ()))
noncomputable def lombardref10_Basket.r0 (x0 : api_Basket) (s : Int) : Option (Int ⊕ (Int ⊕ Unit)) := lombardref10_Basket.b0 x0 s
noncomputable def lombardref10_Basket.b1 (x0 : api_Basket) (v94 : Int) : Option (Int ⊕ (Int ⊕ Unit)) :=
  if (decide (v94 < (List.length x0.Barred : Int))) = true then
    if (0 : Int) ≤ v94 ∧ v94 < (List.length x0.Barred : Int) then
    (lombardref10_in.f (nth x0.Barred v94) 0 9999).bind fun t119 =>
    if ((!t119) = false ∧ (decide (v94 > 0)) = true → (0 : Int) ≤ v94 ∧ v94 < (List.length x0.Barred : Int)) then
    if ((!t119) = false ∧ (decide (v94 > 0)) = true → (0 : Int) ≤ (IntKind.wrap .i64 (v94 - 1)) ∧ (IntKind.wrap .i64 (v94 - 1)) < (List.length x0.Barred : Int)) then
    if ((!t119) || ((decide (v94 > 0)) && (decide ((nth x0.Barred v94) ≤ (nth x0.Barred (IntKind.wrap .i64 (v94 - 1))))))) = true then
      some (.inr (.inl 1))
    else
      some (.inl (IntKind.wrap .i64 (v94 + 1)))
    else none
    else none
    else none
  else
    some (.inr (.inr ()))
noncomputable def lombardref10_Basket.r1 (x0 : api_Basket) (s : Int) : Option (Int ⊕ (Int ⊕ Unit)) := lombardref10_Basket.b1 x0 s
noncomputable def lombardref10_Basket.f (x0 : api_Basket) : Option (Int) :=
  (lombardref10_in.f x0.ID 1 64).bind fun t1 =>
  (if (!t1) = false then lombardref10_Amount.f x0.Version else some default).bind fun t3 =>
  (if ((!t1) || (!t3)) = false then lombardref10_in.f x0.Rating 0 20 else some default).bind fun t5 =>
  (if (((!t1) || (!t3)) || (!t5)) = false then lombardref10_in.f x0.Issuer 0 1000000 else some default).bind fun t7 =>
  (if ((((!t1) || (!t3)) || (!t5)) || (!t7)) = false then lombardref10_in.f x0.Asset 0 1000000 else some default).bind fun t9 =>
  (if (((((!t1) || (!t3)) || (!t5)) || (!t7)) || (!t9)) = false then lombardref10_in.f (List.length x0.Cuts : Int) 1 64 else some default).bind fun t11 =>
  if (((((((!t1) || (!t3)) || (!t5)) || (!t7)) || (!t9)) || (!t11)) || (decide ((List.length x0.Barred : Int) > 64))) = true then
    some 1
  else
    (if (decide (x0.Least < 0)) = false then lombardref10_in.f x0.Most x0.Least 200000 else some default).bind fun t20 =>
    if ((decide (x0.Least < 0)) || (!t20)) = true then
      some 10
    else
      (lombardref05_Currency.f x0.Currency).bind fun t24 =>
      if (!t24) = true then
        some 11
      else
        (loop (lombardref10_Basket.r0 x0) 0).bind fun o68 =>
        match o68 with
        | .inl r84 => some r84
        | .inr w67 =>
          (loop (lombardref10_Basket.r1 x0) 0).bind fun o114 =>
          match o114 with
          | .inl r126 => some r126
          | .inr w113 =>
            some 0
end Go.Proofs.Ytbmokbkgielmmaa
