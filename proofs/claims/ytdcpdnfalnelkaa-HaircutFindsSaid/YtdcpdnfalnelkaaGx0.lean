/- Shows what functions of the program come to, each as a plain function: written by a program of the author's for this claim. -/
import Derived.Test.YtdcpdnfalnelkaaTy
namespace Go.Proofs.Ytdcpdnfalnelkaa
open Go Go.Pm
set_option linter.unusedVariables false
set_option linter.unusedSimpArgs false
noncomputable def lombardref10_in.f (x0 : Int) (x1 : Int) (x2 : Int) : Option (Bool) :=
  some ((decide (x0 ≥ x1)) && (decide (x0 ≤ x2)))
set_option maxRecDepth 100000 in
set_option maxHeartbeats 4000000 in
theorem lombardref10_in.ok {x0 : Int} {x1 : Int} {x2 : Int} {r : Bool} (h : lombardref10_in.f x0 x1 x2 = some r) : Pm.Spec prog 39 [.imm (.val (.int .i64 x0)), .imm (.val (.int .i64 x1)), .imm (.val (.int .i64 x2))] (.imm (.val (.bool r))) [none, none, none] := by
 unfold lombardref10_in.f at h
 refine Pm.Spec.of_body Try.func39 rfl (by kernel_rfl) (Nat.le_of_ble_eq_true rfl) (Nat.le_of_ble_eq_true rfl) ?_
 refine W.ghost (σ' := (mkSt [(0, some (.i x0)), (1, some (.i x1)), (2, some (.i x2))] [] 1000)) (Gives.entry (.c rfl (.c rfl (.c rfl .n))) .n) ?_
 refine W.seq ?_
 refine W.pk ?_
 refine .a rfl rfl rfl rfl ?_
 refine .nil ?_
 refine W.seq ?_
 refine W.fork (mkSt [(6, some (.b ((decide (x0 ≥ x1)) && (decide (x0 ≤ x2)))))] [] 1000) ?_ ?_
 ·refine W.ret ?_
  cases h
  exact leaves (.inr rfl) rfl (.imm _) (cN (cN (cN .nil))) rfl rfl
 ·clear h
  rcases tf (decide (x0 ≥ x1)) with g1 | g1
  ·refine W.pk ?_
   refine .m rfl rfl rfl rfl ?_
   refine .m rfl rfl rfl rfl ?_
   refine .v rfl rfl (OpL.binI rfl rfl rfl rfl) ?_
   refine .m rfl rfl rfl rfl ?_
   refine .m rfl (met rfl rfl rfl g1) rfl rfl ?_
   refine .m rfl (met rfl rfl rfl g1) rfl rfl ?_
   refine .v rfl (met rfl rfl rfl g1) (OpL.binI rfl rfl rfl rfl) ?_
   refine .v rfl rfl (O.pickT g1 rfl rfl rfl) ?_
   refine .a rfl rfl rfl rfl ?_
   refine .nil ?_
   exact toN (Gives.mkR [] (.c rfl (sbb (by simp only [g1, Bool.true_or, Bool.or_true, Bool.false_or, Bool.or_false, Bool.true_and, Bool.and_true, Bool.false_and, Bool.and_false, Bool.not_true, Bool.not_false, cond_true, cond_false])) rfl .n) .n rfl rfl rfl)
  ·refine W.pk ?_
   refine .m rfl rfl rfl rfl ?_
   refine .m rfl rfl rfl rfl ?_
   refine .v rfl rfl (OpL.binI rfl rfl rfl rfl) ?_
   refine .m rfl rfl rfl rfl ?_
   refine .x rfl (unmet rfl rfl rfl g1) ?_
   refine .x rfl (unmet rfl rfl rfl g1) ?_
   refine .x rfl (unmet rfl rfl rfl g1) ?_
   refine .v rfl rfl (O.pickF g1 rfl rfl rfl) ?_
   refine .a rfl rfl rfl rfl ?_
   refine .nil ?_
   exact toN (Gives.mkR [] (.c rfl (sbb (by simp only [g1, Bool.true_or, Bool.or_true, Bool.false_or, Bool.or_false, Bool.true_and, Bool.and_true, Bool.false_and, Bool.and_false, Bool.not_true, Bool.not_false, cond_true, cond_false])) rfl .n) .n rfl rfl rfl)

noncomputable def lombardref10_Amount.f (x0 : Int) : Option (Bool) :=
  some ((decide (x0 ≥ 1)) && (decide (x0 ≤ 1125899906842624)))
set_option maxRecDepth 100000 in
set_option maxHeartbeats 4000000 in
theorem lombardref10_Amount.ok {x0 : Int} {r : Bool} (h : lombardref10_Amount.f x0 = some r) : Pm.Spec prog 40 [.imm (.val (.int .i64 x0))] (.imm (.val (.bool r))) [none] := by
 unfold lombardref10_Amount.f at h
 refine Pm.Spec.of_body Try.func40 rfl (by kernel_rfl) (Nat.le_of_ble_eq_true rfl) (Nat.le_of_ble_eq_true rfl) ?_
 refine W.ghost (σ' := (mkSt [(0, some (.i x0))] [] 1000)) (Gives.entry (.c rfl .n) .n) ?_
 refine W.seq ?_
 refine W.pk ?_
 refine .a rfl rfl rfl rfl ?_
 refine .nil ?_
 refine W.seq ?_
 refine W.fork (mkSt [(2, some (.b ((decide (x0 ≥ 1)) && (decide (x0 ≤ 1125899906842624)))))] [] 1000) ?_ ?_
 ·refine W.ret ?_
  cases h
  exact leaves (.inr rfl) rfl (.imm _) (cN .nil) rfl rfl
 ·clear h
  rcases tf (decide (x0 ≥ 1)) with g1 | g1
  ·refine W.pk ?_
   refine .m rfl rfl rfl rfl ?_
   refine .v rfl rfl (OpL.binI rfl rfl rfl rfl) ?_
   refine .m rfl rfl rfl rfl ?_
   refine .m rfl (met rfl rfl rfl g1) rfl rfl ?_
   refine .v rfl (met rfl rfl rfl g1) (OpL.binI rfl rfl rfl rfl) ?_
   refine .v rfl rfl (O.pickT g1 rfl rfl rfl) ?_
   refine .a rfl rfl rfl rfl ?_
   refine .nil ?_
   exact toN (Gives.mkR [] (.c rfl (sbb (by simp only [g1, Bool.true_or, Bool.or_true, Bool.false_or, Bool.or_false, Bool.true_and, Bool.and_true, Bool.false_and, Bool.and_false, Bool.not_true, Bool.not_false, cond_true, cond_false])) rfl .n) .n rfl rfl rfl)
  ·refine W.pk ?_
   refine .m rfl rfl rfl rfl ?_
   refine .v rfl rfl (OpL.binI rfl rfl rfl rfl) ?_
   refine .m rfl rfl rfl rfl ?_
   refine .x rfl (unmet rfl rfl rfl g1) ?_
   refine .x rfl (unmet rfl rfl rfl g1) ?_
   refine .v rfl rfl (O.pickF g1 rfl rfl rfl) ?_
   refine .a rfl rfl rfl rfl ?_
   refine .nil ?_
   exact toN (Gives.mkR [] (.c rfl (sbb (by simp only [g1, Bool.true_or, Bool.or_true, Bool.false_or, Bool.or_false, Bool.true_and, Bool.and_true, Bool.false_and, Bool.and_false, Bool.not_true, Bool.not_false, cond_true, cond_false])) rfl .n) .n rfl rfl rfl)

noncomputable def lombardref05_Currency.b0 (x0 : Bs) (v4 : Int) : Option (Int ⊕ (Bool ⊕ Unit)) :=
  if (decide (v4 < 32)) = true then
    if (0 : Int) ≤ v4 ∧ v4 ≤ (IntKind.wrap .i64 (v4 + 3)) ∧ (IntKind.wrap .i64 (v4 + 3)) ≤ (List.length [69, 85, 82, 32, 85, 83, 68, 32, 71, 66, 80, 32, 67, 72, 70, 32, 74, 80, 89, 32, 83, 69, 75, 32, 78, 79, 75, 32, 68, 75, 75, 32] : Int) then
    if ((List.take (Int.toNat (IntKind.wrap .i64 (v4 + 3)) - Int.toNat v4) (List.drop (Int.toNat v4) [69, 85, 82, 32, 85, 83, 68, 32, 71, 66, 80, 32, 67, 72, 70, 32, 74, 80, 89, 32, 83, 69, 75, 32, 78, 79, 75, 32, 68, 75, 75, 32])) == x0) = true then
      some (.inr (.inl true))
    else
      some (.inl (IntKind.wrap .i64 (v4 + 4)))
    else none
  else
    some (.inr (.inr ()))
noncomputable def lombardref05_Currency.r0 (x0 : Bs) (s : Int) : Option (Int ⊕ (Bool ⊕ Unit)) := lombardref05_Currency.b0 x0 s
noncomputable def lombardref05_Currency.f (x0 : Bs) : Option (Bool) :=
  (loop (lombardref05_Currency.r0 x0) 0).bind fun o12 =>
  match o12 with
  | .inl r18 => some r18
  | .inr w11 =>
    some false
set_option maxRecDepth 100000 in
set_option maxHeartbeats 4000000 in
theorem lombardref05_Currency.ok {x0 : Bs} {r : Bool} (h : lombardref05_Currency.f x0 = some r) : Pm.Spec prog 41 [.imm (.val (.string (tx x0)))] (.imm (.val (.bool r))) [none] := by
 unfold lombardref05_Currency.f at h
 refine Pm.Spec.of_body Try.func41 rfl (by kernel_rfl) (Nat.le_of_ble_eq_true rfl) (Nat.le_of_ble_eq_true rfl) ?_
 refine W.ghost (σ' := (mkSt [(0, some (.s x0))] [] 1000)) (Gives.entry (.c rfl .n) .n) ?_
 refine W.seq ?_
 refine W.pk ?_
 refine .a rfl rfl rfl rfl ?_
 refine .nil ?_
 refine W.seq ?_
 refine W.seq ?_
 refine W.pk ?_
 refine .a rfl rfl rfl rfl ?_
 refine .nil ?_
 obtain ⟨o12, b13, z14⟩ := bnd1 h
 refine W.fork2 (out := o12) (fun (w11 : Unit) => mkSt [] [] 1000) ?_ ?_
 ·clear h
  refine W.block ?_
  refine W.loopF (fun (s_ : Int) => mkSt [(0, some (.s x0)), (3, some (.i s_))] [] 1000) b13 (Gives.mkR [] (.r rfl rfl (.r rfl rfl .n)) .n rfl rfl rfl) ?_
  rintro v4 s_ hr
  have h : lombardref05_Currency.b0 x0 v4 = some s_ := hr
  unfold lombardref05_Currency.b0 at h
  refine W.seq ?_
  refine W.seq ?_
  refine W.pk ?_
  refine .m rfl rfl rfl rfl ?_
  refine .v rfl rfl (OpL.binI rfl rfl rfl rfl) ?_
  refine .nil ?_
  refine W.cond rfl (fun q15 => ?_) (fun q15 => ?_)
  ·have h := ifT q15 h
   refine W.skip ?_
   refine W.seq ?_
   refine W.block ?_
   refine W.seq ?_
   obtain ⟨c16, h⟩ := chk h
   refine W.pk ?_
   refine .m rfl rfl rfl rfl ?_
   refine .m rfl rfl rfl rfl ?_
   refine .v rfl rfl (OpL.binI rfl rfl rfl rfl) ?_
   refine .v rfl rfl (O.partS u9 c16 rfl rfl rfl rfl) ?_
   refine .m rfl rfl rfl rfl ?_
   refine .v rfl rfl (O.cmpS rfl rfl rfl rfl) ?_
   refine .nil ?_
   refine W.cond rfl (fun q17 => ?_) (fun q17 => ?_)
   ·have h := ifT q17 h
    refine W.seq ?_
    refine W.pk ?_
    refine .a rfl rfl rfl rfl ?_
    refine .nil ?_
    refine W.ret ?_
    cases h
    refine rdR fun e_ => ?_
    subst e_
    have h := z14
    dsimp only at h
    refine fkR ?_
    cases h
    exact leaves (.inr rfl) rfl (.imm _) (cN .nil) rfl rfl
   ·have h := ifF q17 h
    refine W.skip ?_
    refine W.pk ?_
    refine .m rfl rfl rfl rfl ?_
    refine .v rfl rfl (OpL.binI rfl rfl rfl rfl) ?_
    refine .a rfl rfl rfl rfl ?_
    refine .nil ?_
    cases h
    exact rdN (Gives.mkR [] (.r rfl rfl (.r rfl rfl .n)) .n rfl rfl rfl)
  ·have h := ifF q15 h
   refine W.exit ?_
   cases h
   refine rdX fun e_ => ?_
   subst e_
   repeat with_reducible refine thru ?_
   refine hit ?_
   exact fkN (Gives.mkR [] .n .n rfl rfl rfl)
 ·intro w11 e_
  subst e_
  clear h
  have h := z14
  dsimp only at h
  refine W.seq ?_
  refine W.pk ?_
  refine .a rfl rfl rfl rfl ?_
  refine .nil ?_
  refine W.ret ?_
  cases h
  exact leaves (.inr rfl) rfl (.imm _) (cN .nil) rfl rfl
end Go.Proofs.Ytdcpdnfalnelkaa
