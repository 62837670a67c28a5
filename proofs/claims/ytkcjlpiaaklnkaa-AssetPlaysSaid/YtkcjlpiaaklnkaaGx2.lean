/- Shows what functions of the program come to, each as a plain function: written by a program of the author's for this claim. -/
import Derived.Test.YtkcjlpiaaklnkaaGx1
namespace Go.Proofs.Ytkcjlpiaaklnkaa
open Go Go.Pm
set_option linter.unusedVariables false
set_option linter.unusedSimpArgs false
noncomputable def lombardref05_right.b0 (t1 : (List Int) × Bool) (v10 : Int) (v11 : Int) : Option ((Int × Int) ⊕ Int) :=
  if (decide (v11 < (List.length t1.1 : Int))) = true then
    if (0 : Int) ≤ (IntKind.wrap .i64 ((IntKind.wrap .i64 ((List.length t1.1 : Int) - 1)) - v11)) ∧ (IntKind.wrap .i64 ((IntKind.wrap .i64 ((List.length t1.1 : Int) - 1)) - v11)) < (List.length t1.1 : Int) then
    ((
      if ((Int.tmod v11 2) == 1) = true then
        some (IntKind.wrap .i64 (2 * (nth t1.1 (IntKind.wrap .i64 ((IntKind.wrap .i64 ((List.length t1.1 : Int) - 1)) - v11)))))
      else
        some (nth t1.1 (IntKind.wrap .i64 ((IntKind.wrap .i64 ((List.length t1.1 : Int) - 1)) - v11))) : Option (Int))).bind fun o34 =>
    some (.inl ((IntKind.wrap .i64 ((IntKind.wrap .i64 (v10 + (IntKind.wrap .i64 (Int.tdiv o34 10)))) + (Int.tmod o34 10))), (IntKind.wrap .i64 (v11 + 1))))
    else none
  else
    some (.inr v10)
noncomputable def lombardref05_right.r0 (t1 : (List Int) × Bool) (s : Int × Int) : Option ((Int × Int) ⊕ Int) := lombardref05_right.b0 t1 s.1 s.2
noncomputable def lombardref05_right.f (x0 : Bs) : Option (Bool) :=
  (lombardref05_digits.f x0).bind fun t1 =>
  (loop (lombardref05_right.r0 t1) (0, 0)).bind fun o27 =>
  some (t1.2 && ((Int.tmod o27 10) == 0))
set_option maxRecDepth 100000 in
set_option maxHeartbeats 4000000 in
theorem lombardref05_right.ok {x0 : Bs} {r : Bool} (h : lombardref05_right.f x0 = some r) : Pm.Spec prog 77 [.imm (.val (.string (tx x0)))] (.imm (.val (.bool r))) [none] := by
 unfold lombardref05_right.f at h
 refine Pm.Spec.of_body Try.func77 rfl (by kernel_rfl) (Nat.le_of_ble_eq_true rfl) (Nat.le_of_ble_eq_true rfl) ?_
 refine W.ghost (σ' := (mkSt [(0, some (.s x0))] [] 1000)) (Gives.entry (.c rfl .n) .n) ?_
 refine W.seq ?_
 refine W.pk ?_
 refine .a rfl rfl rfl rfl ?_
 refine .nil ?_
 refine W.seq ?_
 obtain ⟨t1, b2, h⟩ := bnd1 h
 refine W.pk ?_
 refine .m rfl rfl rfl rfl ?_
 refine .call (.tup [.own 1000, .b t1.2]) [(1000, some (.rows 3 1 (List.map (encI .i64) t1.1) false))] 1 (lombardref05_digits.ok b2) rfl rfl rfl ca82 rfl rfl (cC (.imm _) .nil) rfl rfl rfl rfl rfl ?_
 refine .m rfl rfl rfl rfl ?_
 refine .v rfl rfl (OpL.extract rfl rfl rfl) ?_
 refine .v rfl rfl (OpL.extract rfl rfl rfl) ?_
 refine .a rfl rfl rfl rfl ?_
 refine .a rfl rfl rfl rfl ?_
 refine .nil ?_
 refine W.seq ?_
 refine W.pk ?_
 refine .a rfl rfl rfl rfl ?_
 refine .nil ?_
 refine W.seq ?_
 refine W.seq ?_
 refine W.pk ?_
 refine .a rfl rfl rfl rfl ?_
 refine .nil ?_
 obtain ⟨o27, b28, h⟩ := bnd1 h
 refine W.fork (mkSt [(4, some (.b t1.2)), (5, some (.i o27))] [] 1001) ?_ ?_
 ·refine W.seq ?_
  refine W.fork (mkSt [(2, some (.b (t1.2 && ((Int.tmod o27 10) == 0))))] [] 1001) ?_ ?_
  ·refine W.ret ?_
   cases h
   exact leaves (.inr rfl) rfl (.imm _) (cN .nil) rfl rfl
  ·clear h
   rcases tf t1.2 with g37 | g37
   ·refine W.pk ?_
    refine .m rfl rfl rfl rfl ?_
    refine .m rfl rfl rfl rfl ?_
    refine .m rfl (met rfl rfl rfl g37) rfl rfl ?_
    refine .v rfl (met rfl rfl rfl g37) (O.rem rfl rfl rfl (by decide)) ?_
    refine .v rfl (met rfl rfl rfl g37) (OpL.binI rfl rfl rfl rfl) ?_
    refine .v rfl rfl (O.pickT g37 rfl rfl rfl) ?_
    refine .a rfl rfl rfl rfl ?_
    refine .nil ?_
    exact toN (Gives.mkR [] (.c rfl (sbb (by simp only [g37, Bool.true_or, Bool.or_true, Bool.false_or, Bool.or_false, Bool.true_and, Bool.and_true, Bool.false_and, Bool.and_false, Bool.not_true, Bool.not_false, cond_true, cond_false])) rfl .n) .n rfl rfl rfl)
   ·refine W.pk ?_
    refine .m rfl rfl rfl rfl ?_
    refine .m rfl rfl rfl rfl ?_
    refine .x rfl (unmet rfl rfl rfl g37) ?_
    refine .x rfl (unmet rfl rfl rfl g37) ?_
    refine .x rfl (unmet rfl rfl rfl g37) ?_
    refine .v rfl rfl (O.pickF g37 rfl rfl rfl) ?_
    refine .a rfl rfl rfl rfl ?_
    refine .nil ?_
    exact toN (Gives.mkR [] (.c rfl (sbb (by simp only [g37, Bool.true_or, Bool.or_true, Bool.false_or, Bool.or_false, Bool.true_and, Bool.and_true, Bool.false_and, Bool.and_false, Bool.not_true, Bool.not_false, cond_true, cond_false])) rfl .n) .n rfl rfl rfl)
 ·clear h
  refine W.block ?_
  refine W.loopF (fun (s_ : Int × Int) => mkSt [(3, some (.own 1000)), (4, some (.b t1.2)), (5, some (.i s_.1)), (6, some (.i s_.2))] [(1000, some (.rows 3 1 (List.map (encI .i64) t1.1) false))] 1001) b28 (Gives.mkR [] (.r rfl rfl (.r rfl rfl (.r rfl rfl (.r rfl rfl .n)))) (.r rfl rfl rfl .n) rfl rfl rfl) ?_
  rintro ⟨v10, v11⟩ s_ hr
  have h : lombardref05_right.b0 t1 v10 v11 = some s_ := hr
  unfold lombardref05_right.b0 at h
  refine W.seq ?_
  refine W.seq ?_
  refine W.pk ?_
  refine .m rfl rfl rfl rfl ?_
  refine .m rfl rfl rfl rfl ?_
  refine .v rfl rfl (O.lenO sl69 rfl rfl rfl) ?_
  refine .v rfl rfl (OpL.binI rfl rfl rfl rfl) ?_
  refine .nil ?_
  refine W.cond rfl (fun q30 => ?_) (fun q30 => ?_)
  ·have h := ifT q30 h
   refine W.skip ?_
   refine W.seq ?_
   refine W.block ?_
   refine W.seq ?_
   obtain ⟨c31, h⟩ := chk h
   refine W.pk ?_
   refine .m rfl rfl rfl rfl ?_
   refine .m rfl rfl rfl rfl ?_
   refine .v rfl rfl (O.lenO sl69 rfl rfl rfl) ?_
   refine .v rfl rfl (OpL.binI rfl rfl rfl rfl) ?_
   refine .m rfl rfl rfl rfl ?_
   refine .v rfl rfl (OpL.binI rfl rfl rfl rfl) ?_
   refine .v rfl rfl (O.idxO sl69 c31 rfl rfl rfl rfl) ?_
   refine .v rfl rfl (O.ldE (c := (.val (.int .i64 (nth t1.1 (IntKind.wrap .i64 ((IntKind.wrap .i64 ((List.length t1.1 : Int) - 1)) - v11)))))) ty3 c31 rfl rfl rfl rfl rfl) ?_
   refine .a rfl rfl rfl rfl ?_
   refine .nil ?_
   refine W.seq ?_
   refine W.seq ?_
   refine W.pk ?_
   refine .m rfl rfl rfl rfl ?_
   refine .v rfl rfl (O.rem rfl rfl rfl (by decide)) ?_
   refine .v rfl rfl (OpL.binI rfl rfl rfl rfl) ?_
   refine .nil ?_
   obtain ⟨o34, b35, h⟩ := bnd1 h
   refine W.fork (mkSt [(3, some (.own 1000)), (4, some (.b t1.2)), (5, some (.i v10)), (6, some (.i v11)), (7, some (.i o34))] [(1000, some (.rows 3 1 (List.map (encI .i64) t1.1) false))] 1001) ?_ ?_
   ·refine W.pk ?_
    refine .m rfl rfl rfl rfl ?_
    refine .m rfl rfl rfl rfl ?_
    refine .v rfl rfl (O.quo rfl rfl rfl (by decide)) ?_
    refine .v rfl rfl (OpL.binI rfl rfl rfl rfl) ?_
    refine .m rfl rfl rfl rfl ?_
    refine .v rfl rfl (O.rem rfl rfl rfl (by decide)) ?_
    refine .v rfl rfl (OpL.binI rfl rfl rfl rfl) ?_
    refine .a rfl rfl rfl rfl ?_
    refine .nil ?_
    refine W.pk ?_
    refine .m rfl rfl rfl rfl ?_
    refine .v rfl rfl (OpL.binI rfl rfl rfl rfl) ?_
    refine .a rfl rfl rfl rfl ?_
    refine .nil ?_
    cases h
    exact rdN (Gives.mkR [] (.r rfl rfl (.r rfl rfl (.r rfl rfl (.r rfl rfl .n)))) (.r rfl rfl rfl .n) rfl rfl rfl)
   ·clear h
    have h := b35
    refine W.cond rfl (fun q36 => ?_) (fun q36 => ?_)
    ·have h := ifT q36 h
     refine W.pk ?_
     refine .m rfl rfl rfl rfl ?_
     refine .v rfl rfl (OpL.binI rfl rfl rfl rfl) ?_
     refine .a rfl rfl rfl rfl ?_
     refine .nil ?_
     cases h
     exact toN (Gives.mkR [] (.r rfl rfl (.r rfl rfl (.r rfl rfl (.r rfl rfl (.r rfl rfl .n))))) (.r rfl rfl rfl .n) rfl rfl rfl)
    ·have h := ifF q36 h
     refine W.skip ?_
     cases h
     exact toN (Gives.mkR [] (.r rfl rfl (.r rfl rfl (.r rfl rfl (.r rfl rfl (.r rfl rfl .n))))) (.r rfl rfl rfl .n) rfl rfl rfl)
  ·have h := ifF q30 h
   refine W.exit ?_
   cases h
   refine rdX fun e_ => ?_
   subst e_
   repeat with_reducible refine thru ?_
   refine hit ?_
   exact toN (Gives.mkR [] (.r rfl rfl (.r rfl rfl .n)) .n rfl rfl rfl)

noncomputable def lombardref05_Check.f (x0 : Bs) : Option (Int) :=
  if (((List.length x0 : Int) != 12) = false → (0 : Int) ≤ 11 ∧ 11 < (List.length x0 : Int)) then
  if ((((List.length x0 : Int) != 12) || (decide ((byte x0 11) < 48))) = false → (0 : Int) ≤ 11 ∧ 11 < (List.length x0 : Int)) then
  if (((((List.length x0 : Int) != 12) || (decide ((byte x0 11) < 48))) || (decide ((byte x0 11) > 57))) = false → (0 : Int) ≤ 0 ∧ (0 : Int) ≤ 11 ∧ 11 ≤ (List.length x0 : Int)) then
  (if ((((List.length x0 : Int) != 12) || (decide ((byte x0 11) < 48))) || (decide ((byte x0 11) > 57))) = false then lombardref05_shaped.f (List.take (Int.toNat 11 - Int.toNat 0) (List.drop (Int.toNat 0) x0)) else some default).bind fun t4 =>
  if (((((List.length x0 : Int) != 12) || (decide ((byte x0 11) < 48))) || (decide ((byte x0 11) > 57))) || (!t4)) = true then
    some 11
  else
    (lombardref05_right.f x0).bind fun t10 =>
    if (!t10) = true then
      some 12
    else
      some 0
  else none
  else none
  else none
set_option maxRecDepth 100000 in
set_option maxHeartbeats 4000000 in
theorem lombardref05_Check.ok {x0 : Bs} {r : Int} (h : lombardref05_Check.f x0 = some r) : Pm.Spec prog 68 [.imm (.val (.string (tx x0)))] (.imm (.val (.int .i64 r))) [none] := by
 unfold lombardref05_Check.f at h
 refine Pm.Spec.of_body Try.func68 rfl (by kernel_rfl) (Nat.le_of_ble_eq_true rfl) (Nat.le_of_ble_eq_true rfl) ?_
 refine W.ghost (σ' := (mkSt [(0, some (.s x0))] [] 1000)) (Gives.entry (.c rfl .n) .n) ?_
 refine W.seq ?_
 refine W.pk ?_
 refine .a rfl rfl rfl rfl ?_
 refine .nil ?_
 refine W.seq ?_
 refine W.seq ?_
 obtain ⟨c1, h⟩ := chk h
 obtain ⟨c2, h⟩ := chk h
 obtain ⟨c3, h⟩ := chk h
 obtain ⟨t4, b5, h⟩ := bnd1 h
 refine W.fork (mkSt [(0, some (.s x0)), (21, some (.b (((((List.length x0 : Int) != 12) || (decide ((byte x0 11) < 48))) || (decide ((byte x0 11) > 57))) || (!t4))))] [] 1000) ?_ ?_
 ·refine W.cond rfl (fun q9 => ?_) (fun q9 => ?_)
  ·have h := ifT q9 h
   refine W.seq ?_
   refine W.pk ?_
   refine .a rfl rfl rfl rfl ?_
   refine .nil ?_
   refine W.ret ?_
   cases h
   exact leaves (.inr rfl) rfl (.imm _) (cN .nil) rfl rfl
  ·have h := ifF q9 h
   refine W.skip ?_
   refine W.seq ?_
   refine W.seq ?_
   obtain ⟨t10, b11, h⟩ := bnd1 h
   refine W.pk ?_
   refine .m rfl rfl rfl rfl ?_
   refine .call (.b t10) [] 0 (lombardref05_right.ok b11) rfl rfl rfl ca77 rfl rfl (cC (.imm _) .nil) rfl rfl rfl rfl rfl ?_
   refine .v rfl rfl (OpL.unV rfl rfl rfl) ?_
   refine .nil ?_
   refine W.cond rfl (fun q12 => ?_) (fun q12 => ?_)
   ·have h := ifT q12 h
    refine W.seq ?_
    refine W.pk ?_
    refine .a rfl rfl rfl rfl ?_
    refine .nil ?_
    refine W.ret ?_
    cases h
    exact leaves (.inr rfl) rfl (.imm _) (cN .nil) rfl rfl
   ·have h := ifF q12 h
    refine W.skip ?_
    refine W.seq ?_
    refine W.pk ?_
    refine .a rfl rfl rfl rfl ?_
    refine .nil ?_
    refine W.ret ?_
    cases h
    exact leaves (.inr rfl) rfl (.imm _) (cN .nil) rfl rfl
 ·clear h
  rcases tf ((List.length x0 : Int) != 12) with g6 | g6
  ·refine W.pk ?_
   refine .m rfl rfl rfl rfl ?_
   refine .v rfl rfl (O.lenS u9 rfl rfl) ?_
   refine .v rfl rfl (OpL.binI rfl rfl rfl rfl) ?_
   refine .m rfl rfl rfl rfl ?_
   refine .x rfl (unmet rfl rfl rfl g6) ?_
   refine .x rfl (unmet rfl rfl rfl g6) ?_
   refine .x rfl (unmet rfl rfl rfl g6) ?_
   refine .v rfl rfl (O.pickT g6 rfl rfl rfl) ?_
   refine .m rfl rfl rfl rfl ?_
   refine .x rfl (unmet rfl rfl rfl rfl) ?_
   refine .x rfl (unmet rfl rfl rfl rfl) ?_
   refine .x rfl (unmet rfl rfl rfl rfl) ?_
   refine .v rfl rfl (O.pickT rfl rfl rfl rfl) ?_
   refine .m rfl rfl rfl rfl ?_
   refine .x rfl (unmet rfl rfl rfl rfl) ?_
   refine .x rfl (unmet rfl rfl rfl rfl) ?_
   refine .x rfl (unmet rfl rfl rfl rfl) ?_
   refine .x rfl (unmet rfl rfl rfl rfl) ?_
   refine .v rfl rfl (O.pickT rfl rfl rfl rfl) ?_
   refine .nil ?_
   exact toN (Gives.mkR [] (.r rfl rfl (.c rfl (sbb (by simp only [g6, Bool.true_or, Bool.or_true, Bool.false_or, Bool.or_false, Bool.true_and, Bool.and_true, Bool.false_and, Bool.and_false, Bool.not_true, Bool.not_false, cond_true, cond_false])) rfl .n)) .n rfl rfl rfl)
  ·rcases tf (decide ((byte x0 11) < 48)) with g7 | g7
   ·refine W.pk ?_
    refine .m rfl rfl rfl rfl ?_
    refine .v rfl rfl (O.lenS u9 rfl rfl) ?_
    refine .v rfl rfl (OpL.binI rfl rfl rfl rfl) ?_
    refine .m rfl rfl rfl rfl ?_
    refine .m rfl (met rfl rfl rfl g6) rfl rfl ?_
    refine .v rfl (met rfl rfl rfl g6) (O.idxS u9 (c1 (by first | (simp only [g6, g7, Bool.true_or, Bool.or_true, Bool.false_or, Bool.or_false, Bool.true_and, Bool.and_true, Bool.false_and, Bool.and_false, Bool.not_true, Bool.not_false, cond_true, cond_false]; done) | (repeat (first | rw [g6] | rw [g7])) <;> simp only [Bool.true_or, Bool.or_true, Bool.false_or, Bool.or_false, Bool.true_and, Bool.and_true, Bool.false_and, Bool.and_false, Bool.not_true, Bool.not_false, cond_true, cond_false])) rfl rfl rfl) ?_
    refine .v rfl (met rfl rfl rfl g6) (OpL.binI rfl rfl rfl rfl) ?_
    refine .v rfl rfl (O.pickF g6 rfl rfl rfl) ?_
    refine .m rfl rfl rfl rfl ?_
    refine .x rfl (unmet rfl rfl rfl g7) ?_
    refine .x rfl (unmet rfl rfl rfl g7) ?_
    refine .x rfl (unmet rfl rfl rfl g7) ?_
    refine .v rfl rfl (O.pickT g7 rfl rfl rfl) ?_
    refine .m rfl rfl rfl rfl ?_
    refine .x rfl (unmet rfl rfl rfl rfl) ?_
    refine .x rfl (unmet rfl rfl rfl rfl) ?_
    refine .x rfl (unmet rfl rfl rfl rfl) ?_
    refine .x rfl (unmet rfl rfl rfl rfl) ?_
    refine .v rfl rfl (O.pickT rfl rfl rfl rfl) ?_
    refine .nil ?_
    exact toN (Gives.mkR [] (.r rfl rfl (.c rfl (sbb (by first | (simp only [g6, g7, Bool.true_or, Bool.or_true, Bool.false_or, Bool.or_false, Bool.true_and, Bool.and_true, Bool.false_and, Bool.and_false, Bool.not_true, Bool.not_false, cond_true, cond_false]; done) | (repeat (first | rw [g6] | rw [g7])) <;> simp only [Bool.true_or, Bool.or_true, Bool.false_or, Bool.or_false, Bool.true_and, Bool.and_true, Bool.false_and, Bool.and_false, Bool.not_true, Bool.not_false, cond_true, cond_false])) rfl .n)) .n rfl rfl rfl)
   ·rcases tf (decide ((byte x0 11) > 57)) with g8 | g8
    ·refine W.pk ?_
     refine .m rfl rfl rfl rfl ?_
     refine .v rfl rfl (O.lenS u9 rfl rfl) ?_
     refine .v rfl rfl (OpL.binI rfl rfl rfl rfl) ?_
     refine .m rfl rfl rfl rfl ?_
     refine .m rfl (met rfl rfl rfl g6) rfl rfl ?_
     refine .v rfl (met rfl rfl rfl g6) (O.idxS u9 (c1 (by first | (simp only [g6, g7, g8, Bool.true_or, Bool.or_true, Bool.false_or, Bool.or_false, Bool.true_and, Bool.and_true, Bool.false_and, Bool.and_false, Bool.not_true, Bool.not_false, cond_true, cond_false]; done) | (repeat (first | rw [g6] | rw [g7] | rw [g8])) <;> simp only [Bool.true_or, Bool.or_true, Bool.false_or, Bool.or_false, Bool.true_and, Bool.and_true, Bool.false_and, Bool.and_false, Bool.not_true, Bool.not_false, cond_true, cond_false])) rfl rfl rfl) ?_
     refine .v rfl (met rfl rfl rfl g6) (OpL.binI rfl rfl rfl rfl) ?_
     refine .v rfl rfl (O.pickF g6 rfl rfl rfl) ?_
     refine .m rfl rfl rfl rfl ?_
     refine .m rfl (met rfl rfl rfl g7) rfl rfl ?_
     refine .v rfl (met rfl rfl rfl g7) (O.idxS u9 (c2 (by first | (simp only [g6, g7, g8, Bool.true_or, Bool.or_true, Bool.false_or, Bool.or_false, Bool.true_and, Bool.and_true, Bool.false_and, Bool.and_false, Bool.not_true, Bool.not_false, cond_true, cond_false]; done) | (repeat (first | rw [g6] | rw [g7] | rw [g8])) <;> simp only [Bool.true_or, Bool.or_true, Bool.false_or, Bool.or_false, Bool.true_and, Bool.and_true, Bool.false_and, Bool.and_false, Bool.not_true, Bool.not_false, cond_true, cond_false])) rfl rfl rfl) ?_
     refine .v rfl (met rfl rfl rfl g7) (OpL.binI rfl rfl rfl rfl) ?_
     refine .v rfl rfl (O.pickF g7 rfl rfl rfl) ?_
     refine .m rfl rfl rfl rfl ?_
     refine .x rfl (unmet rfl rfl rfl g8) ?_
     refine .x rfl (unmet rfl rfl rfl g8) ?_
     refine .x rfl (unmet rfl rfl rfl g8) ?_
     refine .x rfl (unmet rfl rfl rfl g8) ?_
     refine .v rfl rfl (O.pickT g8 rfl rfl rfl) ?_
     refine .nil ?_
     exact toN (Gives.mkR [] (.r rfl rfl (.c rfl (sbb (by first | (simp only [g6, g7, g8, Bool.true_or, Bool.or_true, Bool.false_or, Bool.or_false, Bool.true_and, Bool.and_true, Bool.false_and, Bool.and_false, Bool.not_true, Bool.not_false, cond_true, cond_false]; done) | (repeat (first | rw [g6] | rw [g7] | rw [g8])) <;> simp only [Bool.true_or, Bool.or_true, Bool.false_or, Bool.or_false, Bool.true_and, Bool.and_true, Bool.false_and, Bool.and_false, Bool.not_true, Bool.not_false, cond_true, cond_false])) rfl .n)) .n rfl rfl rfl)
    ·refine W.pk ?_
     refine .m rfl rfl rfl rfl ?_
     refine .v rfl rfl (O.lenS u9 rfl rfl) ?_
     refine .v rfl rfl (OpL.binI rfl rfl rfl rfl) ?_
     refine .m rfl rfl rfl rfl ?_
     refine .m rfl (met rfl rfl rfl g6) rfl rfl ?_
     refine .v rfl (met rfl rfl rfl g6) (O.idxS u9 (c1 (by first | (simp only [g6, g7, g8, Bool.true_or, Bool.or_true, Bool.false_or, Bool.or_false, Bool.true_and, Bool.and_true, Bool.false_and, Bool.and_false, Bool.not_true, Bool.not_false, cond_true, cond_false]; done) | (repeat (first | rw [g6] | rw [g7] | rw [g8])) <;> simp only [Bool.true_or, Bool.or_true, Bool.false_or, Bool.or_false, Bool.true_and, Bool.and_true, Bool.false_and, Bool.and_false, Bool.not_true, Bool.not_false, cond_true, cond_false])) rfl rfl rfl) ?_
     refine .v rfl (met rfl rfl rfl g6) (OpL.binI rfl rfl rfl rfl) ?_
     refine .v rfl rfl (O.pickF g6 rfl rfl rfl) ?_
     refine .m rfl rfl rfl rfl ?_
     refine .m rfl (met rfl rfl rfl g7) rfl rfl ?_
     refine .v rfl (met rfl rfl rfl g7) (O.idxS u9 (c2 (by first | (simp only [g6, g7, g8, Bool.true_or, Bool.or_true, Bool.false_or, Bool.or_false, Bool.true_and, Bool.and_true, Bool.false_and, Bool.and_false, Bool.not_true, Bool.not_false, cond_true, cond_false]; done) | (repeat (first | rw [g6] | rw [g7] | rw [g8])) <;> simp only [Bool.true_or, Bool.or_true, Bool.false_or, Bool.or_false, Bool.true_and, Bool.and_true, Bool.false_and, Bool.and_false, Bool.not_true, Bool.not_false, cond_true, cond_false])) rfl rfl rfl) ?_
     refine .v rfl (met rfl rfl rfl g7) (OpL.binI rfl rfl rfl rfl) ?_
     refine .v rfl rfl (O.pickF g7 rfl rfl rfl) ?_
     refine .m rfl rfl rfl rfl ?_
     refine .m rfl (met rfl rfl rfl g8) rfl rfl ?_
     refine .v rfl (met rfl rfl rfl g8) (O.partS u9 (c3 (by first | (simp only [g6, g7, g8, Bool.true_or, Bool.or_true, Bool.false_or, Bool.or_false, Bool.true_and, Bool.and_true, Bool.false_and, Bool.and_false, Bool.not_true, Bool.not_false, cond_true, cond_false]; done) | (repeat (first | rw [g6] | rw [g7] | rw [g8])) <;> simp only [Bool.true_or, Bool.or_true, Bool.false_or, Bool.or_false, Bool.true_and, Bool.and_true, Bool.false_and, Bool.and_false, Bool.not_true, Bool.not_false, cond_true, cond_false])) rfl rfl rfl rfl) ?_
     refine .call (.b t4) [] 0 (lombardref05_shaped.ok ((if_pos (by first | (simp only [g6, g7, g8, Bool.true_or, Bool.or_true, Bool.false_or, Bool.or_false, Bool.true_and, Bool.and_true, Bool.false_and, Bool.and_false, Bool.not_true, Bool.not_false, cond_true, cond_false]; done) | (repeat (first | rw [g6] | rw [g7] | rw [g8])) <;> simp only [Bool.true_or, Bool.or_true, Bool.false_or, Bool.or_false, Bool.true_and, Bool.and_true, Bool.false_and, Bool.and_false, Bool.not_true, Bool.not_false, cond_true, cond_false])).symm.trans b5)) rfl (met rfl rfl rfl g8) rfl ca76 rfl rfl (cC (.imm _) .nil) rfl rfl rfl rfl rfl ?_
     refine .v rfl (met rfl rfl rfl g8) (OpL.unV rfl rfl rfl) ?_
     refine .v rfl rfl (O.pickF g8 rfl rfl rfl) ?_
     refine .nil ?_
     exact toN (Gives.mkR [] (.r rfl rfl (.c rfl (sbb (by first | (simp only [g6, g7, g8, Bool.true_or, Bool.or_true, Bool.false_or, Bool.or_false, Bool.true_and, Bool.and_true, Bool.false_and, Bool.and_false, Bool.not_true, Bool.not_false, cond_true, cond_false]; done) | (repeat (first | rw [g6] | rw [g7] | rw [g8])) <;> simp only [Bool.true_or, Bool.or_true, Bool.false_or, Bool.or_false, Bool.true_and, Bool.and_true, Bool.false_and, Bool.and_false, Bool.not_true, Bool.not_false, cond_true, cond_false])) rfl .n)) .n rfl rfl rfl)

noncomputable def lombardref05_Currency.b0 (x0 : Bs) (v4 : Int) : Option (Int ⊕ (Bool ⊕ Unit)) :=
  if (decide (v4 < 32)) = true then
    if (0 : Int) ≤ v4 ∧ v4 ≤ (IntKind.wrap .i64 (v4 + 3)) ∧ (IntKind.wrap .i64 (v4 + 3)) ≤ (List.length [69, 85, 82, 32, 85, 83, 68, 32, 71, 66, 80, 32, 67, 72, 70, 32, 74, 80, 89, 32, 83, 69, 75, 32, 78, 79, 75, 32, 68, 75, 75, 32] : Int) then
    if ((List.take (Int.toNat (IntKind.wrap .i64 (v4 + 3)) - Int.toNat v4) (List.drop (Int.toNat v4) [69, 85, 82, 32, 85, 83, 68, 32, 71, 66, 80, 32, 67, 72, 70, 32, 74, 80, 89, 32, 83, 69, 75, 32, 78, 79, 75, 32, 68, 75, 75, 32])) == x0) = true then
      some (.inr (.inl true))
    else
      some (.inl (IntKind.wrap .i64 (v4 + 4)))
    else none
  else
    some (.inr (.inr ()))
noncomputable def lombardref05_Currency.r0 (x0 : Bs) (s : Int) : Option (Int ⊕ (Bool ⊕ Unit)) := lombardref05_Currency.b0 x0 s
noncomputable def lombardref05_Currency.f (x0 : Bs) : Option (Bool) :=
  (loop (lombardref05_Currency.r0 x0) 0).bind fun o12 =>
  match o12 with
  | .inl r18 => some r18
  | .inr w11 =>
    some false
set_option maxRecDepth 100000 in
set_option maxHeartbeats 4000000 in
theorem lombardref05_Currency.ok {x0 : Bs} {r : Bool} (h : lombardref05_Currency.f x0 = some r) : Pm.Spec prog 69 [.imm (.val (.string (tx x0)))] (.imm (.val (.bool r))) [none] := by
 unfold lombardref05_Currency.f at h
 refine Pm.Spec.of_body Try.func69 rfl (by kernel_rfl) (Nat.le_of_ble_eq_true rfl) (Nat.le_of_ble_eq_true rfl) ?_
 refine W.ghost (σ' := (mkSt [(0, some (.s x0))] [] 1000)) (Gives.entry (.c rfl .n) .n) ?_
 refine W.seq ?_
 refine W.pk ?_
 refine .a rfl rfl rfl rfl ?_
 refine .nil ?_
 refine W.seq ?_
 refine W.seq ?_
 refine W.pk ?_
 refine .a rfl rfl rfl rfl ?_
 refine .nil ?_
 obtain ⟨o12, b13, z14⟩ := bnd1 h
 refine W.fork2 (out := o12) (fun (w11 : Unit) => mkSt [] [] 1000) ?_ ?_
 ·clear h
  refine W.block ?_
  refine W.loopF (fun (s_ : Int) => mkSt [(0, some (.s x0)), (3, some (.i s_))] [] 1000) b13 (Gives.mkR [] (.r rfl rfl (.r rfl rfl .n)) .n rfl rfl rfl) ?_
  rintro v4 s_ hr
  have h : lombardref05_Currency.b0 x0 v4 = some s_ := hr
  unfold lombardref05_Currency.b0 at h
  refine W.seq ?_
  refine W.seq ?_
  refine W.pk ?_
  refine .m rfl rfl rfl rfl ?_
  refine .v rfl rfl (OpL.binI rfl rfl rfl rfl) ?_
  refine .nil ?_
  refine W.cond rfl (fun q15 => ?_) (fun q15 => ?_)
  ·have h := ifT q15 h
   refine W.skip ?_
   refine W.seq ?_
   refine W.block ?_
   refine W.seq ?_
   obtain ⟨c16, h⟩ := chk h
   refine W.pk ?_
   refine .m rfl rfl rfl rfl ?_
   refine .m rfl rfl rfl rfl ?_
   refine .v rfl rfl (OpL.binI rfl rfl rfl rfl) ?_
   refine .v rfl rfl (O.partS u9 c16 rfl rfl rfl rfl) ?_
   refine .m rfl rfl rfl rfl ?_
   refine .v rfl rfl (O.cmpS rfl rfl rfl rfl) ?_
   refine .nil ?_
   refine W.cond rfl (fun q17 => ?_) (fun q17 => ?_)
   ·have h := ifT q17 h
    refine W.seq ?_
    refine W.pk ?_
    refine .a rfl rfl rfl rfl ?_
    refine .nil ?_
    refine W.ret ?_
    cases h
    refine rdR fun e_ => ?_
    subst e_
    have h := z14
    dsimp only at h
    refine fkR ?_
    cases h
    exact leaves (.inr rfl) rfl (.imm _) (cN .nil) rfl rfl
   ·have h := ifF q17 h
    refine W.skip ?_
    refine W.pk ?_
    refine .m rfl rfl rfl rfl ?_
    refine .v rfl rfl (OpL.binI rfl rfl rfl rfl) ?_
    refine .a rfl rfl rfl rfl ?_
    refine .nil ?_
    cases h
    exact rdN (Gives.mkR [] (.r rfl rfl (.r rfl rfl .n)) .n rfl rfl rfl)
  ·have h := ifF q15 h
   refine W.exit ?_
   cases h
   refine rdX fun e_ => ?_
   subst e_
   repeat with_reducible refine thru ?_
   refine hit ?_
   exact fkN (Gives.mkR [] .n .n rfl rfl rfl)
 ·intro w11 e_
  subst e_
  clear h
  have h := z14
  dsimp only at h
  refine W.seq ?_
  refine W.pk ?_
  refine .a rfl rfl rfl rfl ?_
  refine .nil ?_
  refine W.ret ?_
  cases h
  exact leaves (.inr rfl) rfl (.imm _) (cN .nil) rfl rfl

noncomputable def lombardref05_Asset.f (x0 : api_Asset) : Option (Int) :=
  (lombardref05_Check.f x0.ISIN).bind fun t1 =>
  if (t1 != 0) = true then
    (lombardref05_Check.f x0.ISIN).bind fun t4 =>
    some t4
  else
    (lombardref05_Currency.f x0.Currency).bind fun t6 =>
    if (!t6) = true then
      some 11
    else
      if ((((decide (x0.Issuer < 0)) || (decide (x0.Issuer > 9999))) || (decide (x0.Rating < 0))) || (decide (x0.Rating > 20))) = true then
        some 1
      else
        if ((decide (x0.Maturity < 0)) || (decide (x0.Maturity > 200000))) = true then
          some 10
        else
          some 0
set_option maxRecDepth 100000 in
set_option maxHeartbeats 4000000 in
theorem lombardref05_Asset.ok {x0 : api_Asset} {r : Int} (h : lombardref05_Asset.f x0 = some r) : Pm.Spec prog 53 [.agg [.imm (.val (.string (tx x0.ISIN))), .imm (.val (.int .i64 x0.Issuer)), .imm (.val (.int .i64 x0.Rating)), .imm (.val (.int .i64 x0.Maturity)), .imm (.val (.string (tx x0.Currency)))]] (.imm (.val (.int .i64 r))) [none] := by
 unfold lombardref05_Asset.f at h
 refine Pm.Spec.of_body Try.func53 rfl (by kernel_rfl) (Nat.le_of_ble_eq_true rfl) (Nat.le_of_ble_eq_true rfl) ?_
 refine W.ghost (σ' := (mkSt [(0, some (.agg (api_Asset.av x0)))] [] 1000)) (Gives.entry (.c rfl .n) .n) ?_
 refine W.seq ?_
 refine W.pk ?_
 refine .t rfl rfl (O.box rfl rfl rfl rfl rfl) ?_
 refine .a rfl rfl rfl rfl ?_
 refine .nil ?_
 refine W.seq ?_
 refine W.seq ?_
 obtain ⟨t1, b2, h⟩ := bnd1 h
 refine W.pk ?_
 refine .v rfl rfl (O.fld fld29_0 rfl rfl rfl) ?_
 refine .v rfl rfl (O.ld (y := .s x0.ISIN) ty9 rfl rfl rfl) ?_
 refine .call (.i t1) [] 0 (lombardref05_Check.ok b2) rfl rfl rfl ca68 rfl rfl (cC (.imm _) .nil) rfl rfl rfl rfl rfl ?_
 refine .v rfl rfl (OpL.binI rfl rfl rfl rfl) ?_
 refine .nil ?_
 refine W.cond rfl (fun q3 => ?_) (fun q3 => ?_)
 ·have h := ifT q3 h
  refine W.seq ?_
  obtain ⟨t4, b5, h⟩ := bnd1 h
  refine W.pk ?_
  refine .v rfl rfl (O.fld fld29_0 rfl rfl rfl) ?_
  refine .v rfl rfl (O.ld (y := .s x0.ISIN) ty9 rfl rfl rfl) ?_
  refine .call (.i t4) [] 0 (lombardref05_Check.ok b5) rfl rfl rfl ca68 rfl rfl (cC (.imm _) .nil) rfl rfl rfl rfl rfl ?_
  refine .a rfl rfl rfl rfl ?_
  refine .nil ?_
  refine W.ret ?_
  cases h
  exact leaves (.inr rfl) rfl (.imm _) (cN .nil) rfl rfl
 ·have h := ifF q3 h
  refine W.skip ?_
  refine W.seq ?_
  refine W.seq ?_
  obtain ⟨t6, b7, h⟩ := bnd1 h
  refine W.pk ?_
  refine .v rfl rfl (O.fld fld29_4 rfl rfl rfl) ?_
  refine .v rfl rfl (O.ld (y := .s x0.Currency) ty9 rfl rfl rfl) ?_
  refine .call (.b t6) [] 0 (lombardref05_Currency.ok b7) rfl rfl rfl ca69 rfl rfl (cC (.imm _) .nil) rfl rfl rfl rfl rfl ?_
  refine .v rfl rfl (OpL.unV rfl rfl rfl) ?_
  refine .nil ?_
  refine W.cond rfl (fun q8 => ?_) (fun q8 => ?_)
  ·have h := ifT q8 h
   refine W.seq ?_
   refine W.pk ?_
   refine .a rfl rfl rfl rfl ?_
   refine .nil ?_
   refine W.ret ?_
   cases h
   exact leaves (.inr rfl) rfl (.imm _) (cN .nil) rfl rfl
  ·have h := ifF q8 h
   refine W.skip ?_
   refine W.seq ?_
   refine W.seq ?_
   refine W.fork (mkSt [(1, some (.ptr 1000 0)), (31, some (.b ((((decide (x0.Issuer < 0)) || (decide (x0.Issuer > 9999))) || (decide (x0.Rating < 0))) || (decide (x0.Rating > 20)))))] [(1000, some (.box [.s x0.ISIN, .i x0.Issuer, .i x0.Rating, .i x0.Maturity, .s x0.Currency]))] 1001) ?_ ?_
   ·refine W.cond rfl (fun q12 => ?_) (fun q12 => ?_)
    ·have h := ifT q12 h
     refine W.seq ?_
     refine W.pk ?_
     refine .a rfl rfl rfl rfl ?_
     refine .nil ?_
     refine W.ret ?_
     cases h
     exact leaves (.inr rfl) rfl (.imm _) (cN .nil) rfl rfl
    ·have h := ifF q12 h
     refine W.skip ?_
     refine W.seq ?_
     refine W.seq ?_
     refine W.fork (mkSt [(39, some (.b ((decide (x0.Maturity < 0)) || (decide (x0.Maturity > 200000)))))] [] 1001) ?_ ?_
     ·refine W.cond rfl (fun q14 => ?_) (fun q14 => ?_)
      ·have h := ifT q14 h
       refine W.seq ?_
       refine W.pk ?_
       refine .a rfl rfl rfl rfl ?_
       refine .nil ?_
       refine W.ret ?_
       cases h
       exact leaves (.inr rfl) rfl (.imm _) (cN .nil) rfl rfl
      ·have h := ifF q14 h
       refine W.skip ?_
       refine W.seq ?_
       refine W.pk ?_
       refine .a rfl rfl rfl rfl ?_
       refine .nil ?_
       refine W.ret ?_
       cases h
       exact leaves (.inr rfl) rfl (.imm _) (cN .nil) rfl rfl
     ·clear h
      rcases tf (decide (x0.Maturity < 0)) with g13 | g13
      ·refine W.pk ?_
       refine .v rfl rfl (O.fld fld29_3 rfl rfl rfl) ?_
       refine .v rfl rfl (O.ld (y := .i x0.Maturity) ty3 rfl rfl rfl) ?_
       refine .v rfl rfl (OpL.binI rfl rfl rfl rfl) ?_
       refine .m rfl rfl rfl rfl ?_
       refine .x rfl (unmet rfl rfl rfl g13) ?_
       refine .x rfl (unmet rfl rfl rfl g13) ?_
       refine .x rfl (unmet rfl rfl rfl g13) ?_
       refine .v rfl rfl (O.pickT g13 rfl rfl rfl) ?_
       refine .nil ?_
       exact toN (Gives.mkR [] (.c rfl (sbb (by simp only [g13, Bool.true_or, Bool.or_true, Bool.false_or, Bool.or_false, Bool.true_and, Bool.and_true, Bool.false_and, Bool.and_false, Bool.not_true, Bool.not_false, cond_true, cond_false])) rfl .n) .n rfl rfl rfl)
      ·refine W.pk ?_
       refine .v rfl rfl (O.fld fld29_3 rfl rfl rfl) ?_
       refine .v rfl rfl (O.ld (y := .i x0.Maturity) ty3 rfl rfl rfl) ?_
       refine .v rfl rfl (OpL.binI rfl rfl rfl rfl) ?_
       refine .m rfl rfl rfl rfl ?_
       refine .v rfl (met rfl rfl rfl g13) (O.fld fld29_3 rfl rfl rfl) ?_
       refine .v rfl (met rfl rfl rfl g13) (O.ld (y := .i x0.Maturity) ty3 rfl rfl rfl) ?_
       refine .v rfl (met rfl rfl rfl g13) (OpL.binI rfl rfl rfl rfl) ?_
       refine .v rfl rfl (O.pickF g13 rfl rfl rfl) ?_
       refine .nil ?_
       exact toN (Gives.mkR [] (.c rfl (sbb (by simp only [g13, Bool.true_or, Bool.or_true, Bool.false_or, Bool.or_false, Bool.true_and, Bool.and_true, Bool.false_and, Bool.and_false, Bool.not_true, Bool.not_false, cond_true, cond_false])) rfl .n) .n rfl rfl rfl)
   ·clear h
    rcases tf (decide (x0.Issuer < 0)) with g9 | g9
    ·refine W.pk ?_
     refine .v rfl rfl (O.fld fld29_1 rfl rfl rfl) ?_
     refine .v rfl rfl (O.ld (y := .i x0.Issuer) ty3 rfl rfl rfl) ?_
     refine .v rfl rfl (OpL.binI rfl rfl rfl rfl) ?_
     refine .m rfl rfl rfl rfl ?_
     refine .x rfl (unmet rfl rfl rfl g9) ?_
     refine .x rfl (unmet rfl rfl rfl g9) ?_
     refine .x rfl (unmet rfl rfl rfl g9) ?_
     refine .v rfl rfl (O.pickT g9 rfl rfl rfl) ?_
     refine .m rfl rfl rfl rfl ?_
     refine .x rfl (unmet rfl rfl rfl rfl) ?_
     refine .x rfl (unmet rfl rfl rfl rfl) ?_
     refine .x rfl (unmet rfl rfl rfl rfl) ?_
     refine .v rfl rfl (O.pickT rfl rfl rfl rfl) ?_
     refine .m rfl rfl rfl rfl ?_
     refine .x rfl (unmet rfl rfl rfl rfl) ?_
     refine .x rfl (unmet rfl rfl rfl rfl) ?_
     refine .x rfl (unmet rfl rfl rfl rfl) ?_
     refine .v rfl rfl (O.pickT rfl rfl rfl rfl) ?_
     refine .nil ?_
     exact toN (Gives.mkR [] (.r rfl rfl (.c rfl (sbb (by simp only [g9, Bool.true_or, Bool.or_true, Bool.false_or, Bool.or_false, Bool.true_and, Bool.and_true, Bool.false_and, Bool.and_false, Bool.not_true, Bool.not_false, cond_true, cond_false])) rfl .n)) (.r rfl rfl rfl .n) rfl rfl rfl)
    ·rcases tf (decide (x0.Issuer > 9999)) with g10 | g10
     ·refine W.pk ?_
      refine .v rfl rfl (O.fld fld29_1 rfl rfl rfl) ?_
      refine .v rfl rfl (O.ld (y := .i x0.Issuer) ty3 rfl rfl rfl) ?_
      refine .v rfl rfl (OpL.binI rfl rfl rfl rfl) ?_
      refine .m rfl rfl rfl rfl ?_
      refine .v rfl (met rfl rfl rfl g9) (O.fld fld29_1 rfl rfl rfl) ?_
      refine .v rfl (met rfl rfl rfl g9) (O.ld (y := .i x0.Issuer) ty3 rfl rfl rfl) ?_
      refine .v rfl (met rfl rfl rfl g9) (OpL.binI rfl rfl rfl rfl) ?_
      refine .v rfl rfl (O.pickF g9 rfl rfl rfl) ?_
      refine .m rfl rfl rfl rfl ?_
      refine .x rfl (unmet rfl rfl rfl g10) ?_
      refine .x rfl (unmet rfl rfl rfl g10) ?_
      refine .x rfl (unmet rfl rfl rfl g10) ?_
      refine .v rfl rfl (O.pickT g10 rfl rfl rfl) ?_
      refine .m rfl rfl rfl rfl ?_
      refine .x rfl (unmet rfl rfl rfl rfl) ?_
      refine .x rfl (unmet rfl rfl rfl rfl) ?_
      refine .x rfl (unmet rfl rfl rfl rfl) ?_
      refine .v rfl rfl (O.pickT rfl rfl rfl rfl) ?_
      refine .nil ?_
      exact toN (Gives.mkR [] (.r rfl rfl (.c rfl (sbb (by first | (simp only [g9, g10, Bool.true_or, Bool.or_true, Bool.false_or, Bool.or_false, Bool.true_and, Bool.and_true, Bool.false_and, Bool.and_false, Bool.not_true, Bool.not_false, cond_true, cond_false]; done) | (repeat (first | rw [g9] | rw [g10])) <;> simp only [Bool.true_or, Bool.or_true, Bool.false_or, Bool.or_false, Bool.true_and, Bool.and_true, Bool.false_and, Bool.and_false, Bool.not_true, Bool.not_false, cond_true, cond_false])) rfl .n)) (.r rfl rfl rfl .n) rfl rfl rfl)
     ·rcases tf (decide (x0.Rating < 0)) with g11 | g11
      ·refine W.pk ?_
       refine .v rfl rfl (O.fld fld29_1 rfl rfl rfl) ?_
       refine .v rfl rfl (O.ld (y := .i x0.Issuer) ty3 rfl rfl rfl) ?_
       refine .v rfl rfl (OpL.binI rfl rfl rfl rfl) ?_
       refine .m rfl rfl rfl rfl ?_
       refine .v rfl (met rfl rfl rfl g9) (O.fld fld29_1 rfl rfl rfl) ?_
       refine .v rfl (met rfl rfl rfl g9) (O.ld (y := .i x0.Issuer) ty3 rfl rfl rfl) ?_
       refine .v rfl (met rfl rfl rfl g9) (OpL.binI rfl rfl rfl rfl) ?_
       refine .v rfl rfl (O.pickF g9 rfl rfl rfl) ?_
       refine .m rfl rfl rfl rfl ?_
       refine .v rfl (met rfl rfl rfl g10) (O.fld fld29_2 rfl rfl rfl) ?_
       refine .v rfl (met rfl rfl rfl g10) (O.ld (y := .i x0.Rating) ty3 rfl rfl rfl) ?_
       refine .v rfl (met rfl rfl rfl g10) (OpL.binI rfl rfl rfl rfl) ?_
       refine .v rfl rfl (O.pickF g10 rfl rfl rfl) ?_
       refine .m rfl rfl rfl rfl ?_
       refine .x rfl (unmet rfl rfl rfl g11) ?_
       refine .x rfl (unmet rfl rfl rfl g11) ?_
       refine .x rfl (unmet rfl rfl rfl g11) ?_
       refine .v rfl rfl (O.pickT g11 rfl rfl rfl) ?_
       refine .nil ?_
       exact toN (Gives.mkR [] (.r rfl rfl (.c rfl (sbb (by first | (simp only [g9, g10, g11, Bool.true_or, Bool.or_true, Bool.false_or, Bool.or_false, Bool.true_and, Bool.and_true, Bool.false_and, Bool.and_false, Bool.not_true, Bool.not_false, cond_true, cond_false]; done) | (repeat (first | rw [g9] | rw [g10] | rw [g11])) <;> simp only [Bool.true_or, Bool.or_true, Bool.false_or, Bool.or_false, Bool.true_and, Bool.and_true, Bool.false_and, Bool.and_false, Bool.not_true, Bool.not_false, cond_true, cond_false])) rfl .n)) (.r rfl rfl rfl .n) rfl rfl rfl)
      ·refine W.pk ?_
       refine .v rfl rfl (O.fld fld29_1 rfl rfl rfl) ?_
       refine .v rfl rfl (O.ld (y := .i x0.Issuer) ty3 rfl rfl rfl) ?_
       refine .v rfl rfl (OpL.binI rfl rfl rfl rfl) ?_
       refine .m rfl rfl rfl rfl ?_
       refine .v rfl (met rfl rfl rfl g9) (O.fld fld29_1 rfl rfl rfl) ?_
       refine .v rfl (met rfl rfl rfl g9) (O.ld (y := .i x0.Issuer) ty3 rfl rfl rfl) ?_
       refine .v rfl (met rfl rfl rfl g9) (OpL.binI rfl rfl rfl rfl) ?_
       refine .v rfl rfl (O.pickF g9 rfl rfl rfl) ?_
       refine .m rfl rfl rfl rfl ?_
       refine .v rfl (met rfl rfl rfl g10) (O.fld fld29_2 rfl rfl rfl) ?_
       refine .v rfl (met rfl rfl rfl g10) (O.ld (y := .i x0.Rating) ty3 rfl rfl rfl) ?_
       refine .v rfl (met rfl rfl rfl g10) (OpL.binI rfl rfl rfl rfl) ?_
       refine .v rfl rfl (O.pickF g10 rfl rfl rfl) ?_
       refine .m rfl rfl rfl rfl ?_
       refine .v rfl (met rfl rfl rfl g11) (O.fld fld29_2 rfl rfl rfl) ?_
       refine .v rfl (met rfl rfl rfl g11) (O.ld (y := .i x0.Rating) ty3 rfl rfl rfl) ?_
       refine .v rfl (met rfl rfl rfl g11) (OpL.binI rfl rfl rfl rfl) ?_
       refine .v rfl rfl (O.pickF g11 rfl rfl rfl) ?_
       refine .nil ?_
       exact toN (Gives.mkR [] (.r rfl rfl (.c rfl (sbb (by first | (simp only [g9, g10, g11, Bool.true_or, Bool.or_true, Bool.false_or, Bool.or_false, Bool.true_and, Bool.and_true, Bool.false_and, Bool.and_false, Bool.not_true, Bool.not_false, cond_true, cond_false]; done) | (repeat (first | rw [g9] | rw [g10] | rw [g11])) <;> simp only [Bool.true_or, Bool.or_true, Bool.false_or, Bool.or_false, Bool.true_and, Bool.and_true, Bool.false_and, Bool.and_false, Bool.not_true, Bool.not_false, cond_true, cond_false])) rfl .n)) (.r rfl rfl rfl .n) rfl rfl rfl)

noncomputable def lombardref13_Find.b0 (x0 : List lombardref13_Known) (x1 : Bs) (v4 : Int) : Option (Int ⊕ (Int ⊕ Unit)) :=
  if (decide (v4 < (List.length x0 : Int))) = true then
    if (0 : Int) ≤ v4 ∧ v4 < (List.length x0 : Int) then
    if ((((nth x0 v4).A).ISIN) == x1) = true then
      some (.inr (.inl v4))
    else
      some (.inl (IntKind.wrap .i64 (v4 + 1)))
    else none
  else
    some (.inr (.inr ()))
noncomputable def lombardref13_Find.r0 (x0 : List lombardref13_Known) (x1 : Bs) (s : Int) : Option (Int ⊕ (Int ⊕ Unit)) := lombardref13_Find.b0 x0 x1 s
noncomputable def lombardref13_Find.f (x0 : List lombardref13_Known) (x1 : Bs) : Option (Int) :=
  (loop (lombardref13_Find.r0 x0 x1) 0).bind fun o12 =>
  match o12 with
  | .inl r18 => some r18
  | .inr w11 =>
    some (-1)
set_option maxRecDepth 100000 in
set_option maxHeartbeats 4000000 in
theorem lombardref13_Find.ok {x0 : List lombardref13_Known} {x1 : Bs} {r : Int} (h : lombardref13_Find.f x0 x1 = some r) : Pm.Spec prog 17 [.xown 46 6 (List.map lombardref13_Known.enc x0), .imm (.val (.string (tx x1)))] (.imm (.val (.int .i64 r))) [some (.xown 46 6 (List.map lombardref13_Known.enc x0)), none] := by
 unfold lombardref13_Find.f at h
 refine Pm.Spec.of_body Try.func17 rfl (by kernel_rfl) (Nat.le_of_ble_eq_true rfl) (Nat.le_of_ble_eq_true rfl) ?_
 refine W.ghost (σ' := (mkSt [(0, some (.own 0)), (1, some (.s x1))] [(0, some (.rows 46 6 (List.map lombardref13_Known.enc x0) false))] 1000)) (Gives.entry (.c rfl (.c rfl .n)) (.c rfl .n)) ?_
 refine W.seq ?_
 refine W.pk ?_
 refine .a rfl rfl rfl rfl ?_
 refine .nil ?_
 refine W.seq ?_
 refine W.seq ?_
 refine W.pk ?_
 refine .a rfl rfl rfl rfl ?_
 refine .nil ?_
 obtain ⟨o12, b13, z14⟩ := bnd1 h
 refine W.fork2 (out := o12) (fun (w11 : Unit) => mkSt [] [(0, some (.rows 46 6 (List.map lombardref13_Known.enc x0) false))] 1000) ?_ ?_
 ·clear h
  refine W.block ?_
  refine W.loopF (fun (s_ : Int) => mkSt [(0, some (.own 0)), (1, some (.s x1)), (5, some (.i s_))] [(0, some (.rows 46 6 (List.map lombardref13_Known.enc x0) false))] 1000) b13 (Gives.mkR [] (.r rfl rfl (.r rfl rfl (.r rfl rfl .n))) (.r rfl rfl rfl .n) rfl rfl rfl) ?_
  rintro v4 s_ hr
  have h : lombardref13_Find.b0 x0 x1 v4 = some s_ := hr
  unfold lombardref13_Find.b0 at h
  refine W.seq ?_
  refine W.seq ?_
  refine W.pk ?_
  refine .m rfl rfl rfl rfl ?_
  refine .m rfl rfl rfl rfl ?_
  refine .v rfl rfl (O.lenO sl31 rfl rfl rfl) ?_
  refine .v rfl rfl (OpL.binI rfl rfl rfl rfl) ?_
  refine .nil ?_
  refine W.cond rfl (fun q15 => ?_) (fun q15 => ?_)
  ·have h := ifT q15 h
   refine W.skip ?_
   refine W.seq ?_
   refine W.block ?_
   refine W.seq ?_
   obtain ⟨c16, h⟩ := chk h
   refine W.pk ?_
   refine .m rfl rfl rfl rfl ?_
   refine .m rfl rfl rfl rfl ?_
   refine .v rfl rfl (O.idxO sl31 c16 rfl rfl rfl rfl) ?_
   refine .v rfl rfl (O.fld fld46_0 rfl rfl rfl) ?_
   refine .v rfl rfl (O.fld fld29_0 rfl rfl rfl) ?_
   refine .v rfl rfl (O.ldE (c := (.val (.string (tx (((nth x0 v4).A).ISIN))))) ty9 c16 rfl rfl rfl rfl rfl) ?_
   refine .m rfl rfl rfl rfl ?_
   refine .v rfl rfl (O.cmpS rfl rfl rfl rfl) ?_
   refine .nil ?_
   refine W.cond rfl (fun q17 => ?_) (fun q17 => ?_)
   ·have h := ifT q17 h
    refine W.seq ?_
    refine W.pk ?_
    refine .m rfl rfl rfl rfl ?_
    refine .a rfl rfl rfl rfl ?_
    refine .nil ?_
    refine W.ret ?_
    cases h
    refine rdR fun e_ => ?_
    subst e_
    have h := z14
    dsimp only at h
    refine fkR ?_
    cases h
    exact leaves (.inr rfl) rfl (.imm _) (cS (.own _ _ _ _ rfl) (cN .nil)) rfl rfl
   ·have h := ifF q17 h
    refine W.skip ?_
    refine W.pk ?_
    refine .m rfl rfl rfl rfl ?_
    refine .v rfl rfl (OpL.binI rfl rfl rfl rfl) ?_
    refine .a rfl rfl rfl rfl ?_
    refine .nil ?_
    cases h
    exact rdN (Gives.mkR [] (.r rfl rfl (.r rfl rfl (.r rfl rfl .n))) (.r rfl rfl rfl .n) rfl rfl rfl)
  ·have h := ifF q15 h
   refine W.exit ?_
   cases h
   refine rdX fun e_ => ?_
   subst e_
   repeat with_reducible refine thru ?_
   refine hit ?_
   exact fkN (Gives.mkR [] .n (.r rfl rfl rfl .n) rfl rfl rfl)
 ·intro w11 e_
  subst e_
  clear h
  have h := z14
  dsimp only at h
  refine W.seq ?_
  refine W.pk ?_
  refine .a rfl rfl rfl rfl ?_
  refine .nil ?_
  refine W.ret ?_
  cases h
  exact leaves (.inr rfl) rfl (.imm _) (cS (.own _ _ _ _ rfl) (cN .nil)) rfl rfl

noncomputable def lombardref13_Add.b0 (x0 : List lombardref13_Known) (x1 : api_Asset) (v37 : Bool) (v38 : Int) (v39 : List lombardref13_Known) : Option ((Bool × Int × (List lombardref13_Known)) ⊕ (Bool × (List lombardref13_Known))) :=
  if (decide (v38 < (List.length x0 : Int))) = true then
    if ((!v37) = true → (0 : Int) ≤ v38 ∧ v38 < (List.length x0 : Int)) then
    ((
      if ((!v37) && (!(Go.Op.bytesLess (((nth x0 v38).A).ISIN) x1.ISIN || (((nth x0 v38).A).ISIN) == x1.ISIN))) = true then
        if (List.length v39 + List.length [(⟨x1, 0⟩ : lombardref13_Known)]) * 64 ≤ 140737488355328 then
        some (true, (v39 ++ [(⟨x1, 0⟩ : lombardref13_Known)]))
        else none
      else
        some (v37, v39) : Option (Bool × (List lombardref13_Known)))).bind fun o77 =>
    if (0 : Int) ≤ v38 ∧ v38 < (List.length x0 : Int) then
    if (List.length o77.2 + List.length [(⟨((nth x0 v38).A), (nth x0 v38).Price⟩ : lombardref13_Known)]) * 64 ≤ 140737488355328 then
    some (.inl (o77.1, (IntKind.wrap .i64 (v38 + 1)), (o77.2 ++ [(⟨((nth x0 v38).A), (nth x0 v38).Price⟩ : lombardref13_Known)])))
    else none
    else none
    else none
  else
    some (.inr (v37, v39))
noncomputable def lombardref13_Add.r0 (x0 : List lombardref13_Known) (x1 : api_Asset) (s : Bool × Int × (List lombardref13_Known)) : Option ((Bool × Int × (List lombardref13_Known)) ⊕ (Bool × (List lombardref13_Known))) := lombardref13_Add.b0 x0 x1 s.1 s.2.1 s.2.2
noncomputable def lombardref13_Add.f (x0 : List lombardref13_Known) (x1 : api_Asset) : Option ((List lombardref13_Known) × Int) :=
  (lombardref05_Asset.f x1).bind fun t1 =>
  if (t1 != 0) = true then
    (lombardref05_Asset.f x1).bind fun t4 =>
    some (x0, t4)
  else
    (lombardref13_Find.f x0 x1.ISIN).bind fun t6 =>
    if (decide (t6 ≥ 0)) = true then
      some (x0, 7)
    else
      if (decide ((List.length x0 : Int) ≥ 64)) = true then
        some (x0, 18)
      else
        (loop (lombardref13_Add.r0 x0 x1) (false, 0, [])).bind fun o67 =>
        if (!o67.1) = true then
          if (List.length o67.2 + List.length [(⟨x1, 0⟩ : lombardref13_Known)]) * 64 ≤ 140737488355328 then
          some ((o67.2 ++ [(⟨x1, 0⟩ : lombardref13_Known)]), 0)
          else none
        else
          some (o67.2, 0)
set_option maxRecDepth 100000 in
set_option maxHeartbeats 4000000 in
theorem lombardref13_Add.ok {x0 : List lombardref13_Known} {x1 : api_Asset} {r : (List lombardref13_Known) × Int} (h : lombardref13_Add.f x0 x1 = some r) : Pm.Spec prog 35 [.xown 46 6 (List.map lombardref13_Known.enc x0), .agg [.imm (.val (.string (tx x1.ISIN))), .imm (.val (.int .i64 x1.Issuer)), .imm (.val (.int .i64 x1.Rating)), .imm (.val (.int .i64 x1.Maturity)), .imm (.val (.string (tx x1.Currency)))]] (.tup [.xown 46 6 (List.map lombardref13_Known.enc r.1), .imm (.val (.int .i64 r.2))]) [none, none] := by
 unfold lombardref13_Add.f at h
 refine Pm.Spec.of_body Try.func35 rfl (by kernel_rfl) (Nat.le_of_ble_eq_true rfl) (Nat.le_of_ble_eq_true rfl) ?_
 refine W.ghost (σ' := (mkSt [(0, some (.own 0)), (1, some (.agg (api_Asset.av x1)))] [(0, some (.rows 46 6 (List.map lombardref13_Known.enc x0) false))] 1000)) (Gives.entry (.c rfl (.c rfl .n)) (.c rfl .n)) ?_
 refine W.seq ?_
 refine W.pk ?_
 refine .t rfl rfl (O.box rfl rfl rfl rfl rfl) ?_
 refine .a rfl rfl rfl rfl ?_
 refine .a rfl rfl rfl rfl ?_
 refine .nil ?_
 refine W.seq ?_
 refine W.seq ?_
 obtain ⟨t1, b2, h⟩ := bnd1 h
 refine W.pk ?_
 refine .v rfl rfl (O.ldN ty29 rfl rfl rfl) ?_
 refine .call (.i t1) [] 0 (lombardref05_Asset.ok b2) rfl rfl rfl ca53 rfl rfl (cC (.agg _ _ _ _ (cC (.imm _) (cC (.imm _) (cC (.imm _) (cC (.imm _) (cC (.imm _) .nil)))))) .nil) rfl rfl rfl rfl rfl ?_
 refine .v rfl rfl (OpL.binI rfl rfl rfl rfl) ?_
 refine .nil ?_
 refine W.cond rfl (fun q3 => ?_) (fun q3 => ?_)
 ·have h := ifT q3 h
  refine W.seq ?_
  obtain ⟨t4, b5, h⟩ := bnd1 h
  refine W.pk ?_
  refine .m rfl rfl rfl rfl ?_
  refine .v rfl rfl (O.ldN ty29 rfl rfl rfl) ?_
  refine .call (.i t4) [] 0 (lombardref05_Asset.ok b5) rfl rfl rfl ca53 rfl rfl (cC (.agg _ _ _ _ (cC (.imm _) (cC (.imm _) (cC (.imm _) (cC (.imm _) (cC (.imm _) .nil)))))) .nil) rfl rfl rfl rfl rfl ?_
  refine .a rfl rfl rfl rfl ?_
  refine .a rfl rfl rfl rfl ?_
  refine .nil ?_
  refine W.ret ?_
  cases h
  exact leaves (.inr rfl) rfl (.tup _ _ _ _ (cC (.own _ _ _ _ rfl) (cC (.imm _) .nil))) (cN (cN .nil)) rfl rfl
 ·have h := ifF q3 h
  refine W.skip ?_
  refine W.seq ?_
  refine W.seq ?_
  obtain ⟨t6, b7, h⟩ := bnd1 h
  refine W.pk ?_
  refine .m rfl rfl rfl rfl ?_
  refine .v rfl rfl (O.fld fld29_0 rfl rfl rfl) ?_
  refine .v rfl rfl (O.ld (y := .s x1.ISIN) ty9 rfl rfl rfl) ?_
  refine .call (.i t6) [(0, some (.rows 46 6 (List.map lombardref13_Known.enc x0) false)), (0, none)] 0 (lombardref13_Find.ok b7) rfl rfl rfl ca17 rfl rfl (cC (.own _ _ _ _ rfl) (cC (.imm _) .nil)) rfl rfl rfl rfl rfl ?_
  refine .v rfl rfl (OpL.binI rfl rfl rfl rfl) ?_
  refine .nil ?_
  refine W.cond rfl (fun q8 => ?_) (fun q8 => ?_)
  ·have h := ifT q8 h
   refine W.seq ?_
   refine W.pk ?_
   refine .m rfl rfl rfl rfl ?_
   refine .a rfl rfl rfl rfl ?_
   refine .a rfl rfl rfl rfl ?_
   refine .nil ?_
   refine W.ret ?_
   cases h
   exact leaves (.inr rfl) rfl (.tup _ _ _ _ (cC (.own _ _ _ _ rfl) (cC (.imm _) .nil))) (cN (cN .nil)) rfl rfl
  ·have h := ifF q8 h
   refine W.skip ?_
   refine W.seq ?_
   refine W.seq ?_
   refine W.pk ?_
   refine .m rfl rfl rfl rfl ?_
   refine .v rfl rfl (O.lenO sl31 rfl rfl rfl) ?_
   refine .v rfl rfl (OpL.binI rfl rfl rfl rfl) ?_
   refine .nil ?_
   refine W.cond rfl (fun q9 => ?_) (fun q9 => ?_)
   ·have h := ifT q9 h
    refine W.seq ?_
    refine W.pk ?_
    refine .m rfl rfl rfl rfl ?_
    refine .a rfl rfl rfl rfl ?_
    refine .a rfl rfl rfl rfl ?_
    refine .nil ?_
    refine W.ret ?_
    cases h
    exact leaves (.inr rfl) rfl (.tup _ _ _ _ (cC (.own _ _ _ _ rfl) (cC (.imm _) .nil))) (cN (cN .nil)) rfl rfl
   ·have h := ifF q9 h
    refine W.skip ?_
    refine W.seq ?_
    refine W.pk ?_
    refine .a rfl rfl rfl rfl ?_
    refine .nil ?_
    refine W.seq ?_
    refine W.pk ?_
    refine .a rfl rfl rfl rfl ?_
    refine .nil ?_
    refine W.seq ?_
    refine W.seq ?_
    refine W.pk ?_
    refine .a rfl rfl rfl rfl ?_
    refine .nil ?_
    refine W.ghost (Gives.mintS 6 46 6 rfl) ?_
    obtain ⟨o67, b68, h⟩ := bnd1 h
    refine W.fork (mkSt [(3, some (.ptr 1000 0)), (6, some (.own 1001)), (7, some (.b o67.1))] [(0, some (.rows 46 6 (List.map lombardref13_Known.enc x0) false)), (1000, some (.box [.s x1.ISIN, .i x1.Issuer, .i x1.Rating, .i x1.Maturity, .s x1.Currency])), (1001, some (.rows 46 6 (List.map lombardref13_Known.enc o67.2) false))] 1002) ?_ ?_
    ·refine W.seq ?_
     refine W.seq ?_
     refine W.pk ?_
     refine .m rfl rfl rfl rfl ?_
     refine .v rfl rfl (OpL.unV rfl rfl rfl) ?_
     refine .nil ?_
     refine W.cond rfl (fun q83 => ?_) (fun q83 => ?_)
     ·have h := ifT q83 h
      obtain ⟨c84, h⟩ := chk h
      refine W.pk ?_
      refine .m rfl rfl rfl rfl ?_
      refine .v rfl rfl (O.ldN ty29 rfl rfl rfl) ?_
      refine .v rfl rfl (O.build (out := [.s x1.ISIN, .i x1.Issuer, .i x1.Rating, .i x1.Maturity, .s x1.Currency, .i 0]) bl46 rfl rfl rfl rfl (by kernel_rfl)) ?_
      refine .t rfl rfl (O.lit (enc := lombardref13_Known.enc) (l := [(⟨x1, 0⟩ : lombardref13_Known)]) sl31 rfl rfl rfl rfl rfl rfl rfl rfl rfl) ?_
      refine .t rfl rfl (O.appO sl31 lombardref13_Known.ok c84 rfl rfl rfl rfl rfl) ?_
      refine .a rfl rfl rfl rfl ?_
      refine .nil ?_
      refine W.seq ?_
      refine W.pk ?_
      refine .m rfl rfl rfl rfl ?_
      refine .a rfl rfl rfl rfl ?_
      refine .a rfl rfl rfl rfl ?_
      refine .nil ?_
      refine W.ret ?_
      cases h
      exact leaves (.inr rfl) rfl (.tup _ _ _ _ (cC (.own _ _ _ _ rfl) (cC (.imm _) .nil))) (cN (cN .nil)) rfl rfl
     ·have h := ifF q83 h
      refine W.skip ?_
      refine W.seq ?_
      refine W.pk ?_
      refine .m rfl rfl rfl rfl ?_
      refine .a rfl rfl rfl rfl ?_
      refine .a rfl rfl rfl rfl ?_
      refine .nil ?_
      refine W.ret ?_
      cases h
      exact leaves (.inr rfl) rfl (.tup _ _ _ _ (cC (.own _ _ _ _ rfl) (cC (.imm _) .nil))) (cN (cN .nil)) rfl rfl
    ·clear h
     refine W.block ?_
     refine W.loopF (fun (s_ : Bool × Int × (List lombardref13_Known)) => mkSt [(0, some (.own 0)), (3, some (.ptr 1000 0)), (6, some (.own 1001)), (7, some (.b s_.1)), (8, some (.i s_.2.1))] [(0, some (.rows 46 6 (List.map lombardref13_Known.enc x0) false)), (1000, some (.box [.s x1.ISIN, .i x1.Issuer, .i x1.Rating, .i x1.Maturity, .s x1.Currency])), (1001, some (.rows 46 6 (List.map lombardref13_Known.enc s_.2.2) false))] 1002) b68 (Gives.mkR [] (.r rfl rfl (.r rfl rfl (.r rfl rfl (.r rfl rfl (.r rfl rfl .n))))) (.r rfl rfl rfl (.r rfl rfl rfl (.r rfl rfl rfl .n))) rfl rfl rfl) ?_
     rintro ⟨v37, v38, v39⟩ s_ hr
     have h : lombardref13_Add.b0 x0 x1 v37 v38 v39 = some s_ := hr
     unfold lombardref13_Add.b0 at h
     refine W.seq ?_
     refine W.seq ?_
     refine W.pk ?_
     refine .m rfl rfl rfl rfl ?_
     refine .m rfl rfl rfl rfl ?_
     refine .v rfl rfl (O.lenO sl31 rfl rfl rfl) ?_
     refine .v rfl rfl (OpL.binI rfl rfl rfl rfl) ?_
     refine .nil ?_
     refine W.cond rfl (fun q70 => ?_) (fun q70 => ?_)
     ·have h := ifT q70 h
      refine W.skip ?_
      refine W.seq ?_
      refine W.block ?_
      refine W.seq ?_
      refine W.seq ?_
      obtain ⟨c71, h⟩ := chk h
      refine W.fork (mkSt [(0, some (.own 0)), (3, some (.ptr 1000 0)), (6, some (.own 1001)), (7, some (.b v37)), (8, some (.i v38)), (43, some (.b ((!v37) && (!(Go.Op.bytesLess (((nth x0 v38).A).ISIN) x1.ISIN || (((nth x0 v38).A).ISIN) == x1.ISIN)))))] [(0, some (.rows 46 6 (List.map lombardref13_Known.enc x0) false)), (1000, some (.box [.s x1.ISIN, .i x1.Issuer, .i x1.Rating, .i x1.Maturity, .s x1.Currency])), (1001, some (.rows 46 6 (List.map lombardref13_Known.enc v39) false))] 1002) ?_ ?_
      ·obtain ⟨o77, b78, h⟩ := bnd1 h
       refine W.fork (mkSt [(0, some (.own 0)), (3, some (.ptr 1000 0)), (6, some (.own 1004)), (7, some (.b o77.1)), (8, some (.i v38))] [(0, some (.rows 46 6 (List.map lombardref13_Known.enc x0) false)), (1000, some (.box [.s x1.ISIN, .i x1.Issuer, .i x1.Rating, .i x1.Maturity, .s x1.Currency])), (1004, some (.rows 46 6 (List.map lombardref13_Known.enc o77.2) false))] 1005) ?_ ?_
       ·obtain ⟨c81, h⟩ := chk h
        obtain ⟨c82, h⟩ := chk h
        refine W.pk ?_
        refine .m rfl rfl rfl rfl ?_
        refine .m rfl rfl rfl rfl ?_
        refine .m rfl rfl rfl rfl ?_
        refine .v rfl rfl (O.idxO sl31 c81 rfl rfl rfl rfl) ?_
        refine .v rfl rfl (O.ldEN ty46 c81 rfl rfl rfl rfl rfl) ?_
        refine .t rfl rfl (O.lit (enc := lombardref13_Known.enc) (l := [(⟨((nth x0 v38).A), (nth x0 v38).Price⟩ : lombardref13_Known)]) sl31 rfl rfl rfl rfl rfl rfl rfl rfl rfl) ?_
        refine .t rfl rfl (O.appO sl31 lombardref13_Known.ok c82 rfl rfl rfl rfl rfl) ?_
        refine .a rfl rfl rfl rfl ?_
        refine .nil ?_
        refine W.pk ?_
        refine .m rfl rfl rfl rfl ?_
        refine .v rfl rfl (OpL.binI rfl rfl rfl rfl) ?_
        refine .a rfl rfl rfl rfl ?_
        refine .nil ?_
        cases h
        exact rdN (Gives.mkR [(1001, 1006)] (.r rfl rfl (.r rfl rfl (.r rfl rfl (.r rfl rfl (.r rfl rfl .n))))) (.r rfl rfl rfl (.r rfl rfl rfl (.r rfl rfl rfl .n))) rfl rfl rfl)
       ·clear h
        have h := b78
        refine W.cond rfl (fun q79 => ?_) (fun q79 => ?_)
        ·have h := ifT q79 h
         refine W.seq ?_
         obtain ⟨c80, h⟩ := chk h
         refine W.pk ?_
         refine .m rfl rfl rfl rfl ?_
         refine .v rfl rfl (O.ldN ty29 rfl rfl rfl) ?_
         refine .v rfl rfl (O.build (out := [.s x1.ISIN, .i x1.Issuer, .i x1.Rating, .i x1.Maturity, .s x1.Currency, .i 0]) bl46 rfl rfl rfl rfl (by kernel_rfl)) ?_
         refine .t rfl rfl (O.lit (enc := lombardref13_Known.enc) (l := [(⟨x1, 0⟩ : lombardref13_Known)]) sl31 rfl rfl rfl rfl rfl rfl rfl rfl rfl) ?_
         refine .t rfl rfl (O.appO sl31 lombardref13_Known.ok c80 rfl rfl rfl rfl rfl) ?_
         refine .a rfl rfl rfl rfl ?_
         refine .nil ?_
         refine W.pk ?_
         refine .a rfl rfl rfl rfl ?_
         refine .nil ?_
         cases h
         exact toN (Gives.mkR [(1004, 1003)] (.r rfl rfl (.r rfl rfl (.r rfl rfl (.r rfl rfl (.r rfl rfl .n))))) (.r rfl rfl rfl (.r rfl rfl rfl (.r rfl rfl rfl .n))) rfl rfl rfl)
        ·have h := ifF q79 h
         refine W.skip ?_
         cases h
         exact toN (Gives.mkR [(1004, 1001)] (.r rfl rfl (.r rfl rfl (.r rfl rfl (.r rfl rfl (.r rfl rfl .n))))) (.r rfl rfl rfl (.r rfl rfl rfl (.r rfl rfl rfl .n))) rfl rfl rfl)
      ·clear h
       rcases tf v37 with g72 | g72
       ·refine W.dk (unm 13 [0, 1, 3, 7, 7, 31, 63, 127, 255, 7, 519, 2047, 4095]) rfl (by kernel_rfl) ?_
        refine .m rfl rfl rfl rfl ?_
        refine .v rfl rfl (OpL.unV rfl rfl rfl) ?_
        refine .m rfl rfl rfl rfl ?_
        refine .x rfl (unmet rfl rfl rfl (notT g72)) ?_
        refine .x rfl (unmet rfl rfl rfl (notT g72)) ?_
        refine .x rfl (unmet rfl rfl rfl (notT g72)) ?_
        refine .x rfl (unmet rfl rfl rfl (notT g72)) ?_
        refine .x rfl (unmet rfl rfl rfl (notT g72)) ?_
        refine .x rfl (unmet rfl rfl rfl (notT g72)) ?_
        refine .x rfl (unmet rfl rfl rfl (notT g72)) ?_
        refine .x rfl (unmet rfl rfl rfl (notT g72)) ?_
        refine .x rfl (unmet rfl rfl rfl (notT g72)) ?_
        refine .v rfl rfl (O.pickF (notT g72) rfl rfl rfl) ?_
        refine .nil ?_
        refine ⟨by kernel_rfl, by kernel_rfl, ?_⟩
        exact toN (Gives.mkR [] (.r rfl rfl (.r rfl rfl (.r rfl rfl (.r rfl rfl (.r rfl rfl (.c rfl (sbb (by simp only [g72, Bool.true_or, Bool.or_true, Bool.false_or, Bool.or_false, Bool.true_and, Bool.and_true, Bool.false_and, Bool.and_false, Bool.not_true, Bool.not_false, cond_true, cond_false])) rfl .n)))))) (.r rfl rfl rfl (.r rfl rfl rfl (.r rfl rfl rfl .n))) rfl rfl rfl)
       ·refine W.dk (unm 13 [0, 1, 3, 7, 7, 31, 63, 127, 255, 7, 519, 2047, 4095]) rfl (by kernel_rfl) ?_
        refine .m rfl rfl rfl rfl ?_
        refine .v rfl rfl (OpL.unV rfl rfl rfl) ?_
        refine .m rfl rfl rfl rfl ?_
        refine .m rfl (met rfl rfl rfl (notF g72)) rfl rfl ?_
        refine .m rfl (met rfl rfl rfl (notF g72)) rfl rfl ?_
        refine .v rfl (met rfl rfl rfl (notF g72)) (O.idxO sl31 (c71 (by simp only [g72, Bool.true_or, Bool.or_true, Bool.false_or, Bool.or_false, Bool.true_and, Bool.and_true, Bool.false_and, Bool.and_false, Bool.not_true, Bool.not_false, cond_true, cond_false])) rfl rfl rfl rfl) ?_
        refine .v rfl (met rfl rfl rfl (notF g72)) (O.fld fld46_0 rfl rfl rfl) ?_
        refine .v rfl (met rfl rfl rfl (notF g72)) (O.fld fld29_0 rfl rfl rfl) ?_
        refine .v rfl (met rfl rfl rfl (notF g72)) (O.ldE (c := (.val (.string (tx (((nth x0 v38).A).ISIN))))) ty9 (c71 (by simp only [g72, Bool.true_or, Bool.or_true, Bool.false_or, Bool.or_false, Bool.true_and, Bool.and_true, Bool.false_and, Bool.and_false, Bool.not_true, Bool.not_false, cond_true, cond_false])) rfl rfl rfl rfl rfl) ?_
        refine .v rfl (met rfl rfl rfl (notF g72)) (O.fld fld29_0 rfl rfl rfl) ?_
        refine .v rfl (met rfl rfl rfl (notF g72)) (O.ld (y := .s x1.ISIN) ty9 rfl rfl rfl) ?_
        refine .v rfl (met rfl rfl rfl (notF g72)) (O.cmpS rfl rfl rfl rfl) ?_
        refine .v rfl rfl (O.pickT (notF g72) rfl rfl rfl) ?_
        refine .nil ?_
        refine ⟨by kernel_rfl, by kernel_rfl, ?_⟩
        exact toN (Gives.mkR [] (.r rfl rfl (.r rfl rfl (.r rfl rfl (.r rfl rfl (.r rfl rfl (.c rfl (sbb (by simp only [g72, Bool.true_or, Bool.or_true, Bool.false_or, Bool.or_false, Bool.true_and, Bool.and_true, Bool.false_and, Bool.and_false, Bool.not_true, Bool.not_false, cond_true, cond_false])) rfl .n)))))) (.r rfl rfl rfl (.r rfl rfl rfl (.r rfl rfl rfl .n))) rfl rfl rfl)
     ·have h := ifF q70 h
      refine W.exit ?_
      cases h
      refine rdX fun e_ => ?_
      subst e_
      repeat with_reducible refine thru ?_
      refine hit ?_
      exact toN (Gives.mkR [] (.r rfl rfl (.r rfl rfl (.r rfl rfl .n))) (.r rfl rfl rfl (.r rfl rfl rfl (.r rfl rfl rfl .n))) rfl rfl rfl)

noncomputable def isin_digit.f (x0 : Int) : Option (Bool) :=
  some ((decide (x0 ≥ 48)) && (decide (x0 ≤ 57)))
set_option maxRecDepth 100000 in
set_option maxHeartbeats 4000000 in
theorem isin_digit.ok {x0 : Int} {r : Bool} (h : isin_digit.f x0 = some r) : Pm.Spec prog 72 [.imm (.val (.int .u8 x0))] (.imm (.val (.bool r))) [none] := by
 unfold isin_digit.f at h
 refine Pm.Spec.of_body Try.func72 rfl (by kernel_rfl) (Nat.le_of_ble_eq_true rfl) (Nat.le_of_ble_eq_true rfl) ?_
 refine W.ghost (σ' := (mkSt [(0, some (.imm (.val (.int .u8 x0))))] [] 1000)) (Gives.entry (.c rfl .n) .n) ?_
 refine W.seq ?_
 refine W.pk ?_
 refine .a rfl rfl rfl rfl ?_
 refine .nil ?_
 refine W.seq ?_
 refine W.fork (mkSt [(2, some (.b ((decide (x0 ≥ 48)) && (decide (x0 ≤ 57)))))] [] 1000) ?_ ?_
 ·refine W.ret ?_
  cases h
  exact leaves (.inr rfl) rfl (.imm _) (cN .nil) rfl rfl
 ·clear h
  rcases tf (decide (x0 ≥ 48)) with g1 | g1
  ·refine W.pk ?_
   refine .m rfl rfl rfl rfl ?_
   refine .v rfl rfl (OpL.binI rfl rfl rfl rfl) ?_
   refine .m rfl rfl rfl rfl ?_
   refine .m rfl (met rfl rfl rfl g1) rfl rfl ?_
   refine .v rfl (met rfl rfl rfl g1) (OpL.binI rfl rfl rfl rfl) ?_
   refine .v rfl rfl (O.pickT g1 rfl rfl rfl) ?_
   refine .a rfl rfl rfl rfl ?_
   refine .nil ?_
   exact toN (Gives.mkR [] (.c rfl (sbb (by simp only [g1, Bool.true_or, Bool.or_true, Bool.false_or, Bool.or_false, Bool.true_and, Bool.and_true, Bool.false_and, Bool.and_false, Bool.not_true, Bool.not_false, cond_true, cond_false])) rfl .n) .n rfl rfl rfl)
  ·refine W.pk ?_
   refine .m rfl rfl rfl rfl ?_
   refine .v rfl rfl (OpL.binI rfl rfl rfl rfl) ?_
   refine .m rfl rfl rfl rfl ?_
   refine .x rfl (unmet rfl rfl rfl g1) ?_
   refine .x rfl (unmet rfl rfl rfl g1) ?_
   refine .v rfl rfl (O.pickF g1 rfl rfl rfl) ?_
   refine .a rfl rfl rfl rfl ?_
   refine .nil ?_
   exact toN (Gives.mkR [] (.c rfl (sbb (by simp only [g1, Bool.true_or, Bool.or_true, Bool.false_or, Bool.or_false, Bool.true_and, Bool.and_true, Bool.false_and, Bool.and_false, Bool.not_true, Bool.not_false, cond_true, cond_false])) rfl .n) .n rfl rfl rfl)
end Go.Proofs.Ytkcjlpiaaklnkaa
