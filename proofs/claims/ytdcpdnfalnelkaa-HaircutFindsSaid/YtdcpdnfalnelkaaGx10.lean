/- Shows what functions of the program come to, each as a plain function: written by a program of the author's for this claim. -/
import Derived.Test.YtdcpdnfalnelkaaGx9
namespace Go.Proofs.Ytdcpdnfalnelkaa
open Go Go.Pm
set_option linter.unusedVariables false
set_option linter.unusedSimpArgs false
noncomputable def haircut_Most.b0 (x0 : Int) (x1 : Int) (x2 : Int) (v11 : Int) (v12 : Int) : Option ((Int × Int) ⊕ Int) :=
  if (decide (v11 < v12)) = true then
    (haircut_Cover.f (IntKind.wrap .i64 (Int.tdiv (IntKind.wrap .i64 ((IntKind.wrap .i64 (v11 + v12)) + 1)) 2)) x1 x2).bind fun t26 =>
    if (decide (t26.1 ≤ x0)) = true then
      some (.inl ((IntKind.wrap .i64 (Int.tdiv (IntKind.wrap .i64 ((IntKind.wrap .i64 (v11 + v12)) + 1)) 2)), v12))
    else
      some (.inl (v11, (IntKind.wrap .i64 ((IntKind.wrap .i64 (Int.tdiv (IntKind.wrap .i64 ((IntKind.wrap .i64 (v11 + v12)) + 1)) 2)) - 1))))
  else
    some (.inr v11)
noncomputable def haircut_Most.r0 (x0 : Int) (x1 : Int) (x2 : Int) (s : Int × Int) : Option ((Int × Int) ⊕ Int) := haircut_Most.b0 x0 x1 x2 s.1 s.2
noncomputable def haircut_Most.f (x0 : Int) (x1 : Int) (x2 : Int) (x3 : Int) : Option (Int) :=
  (haircut_good.f x1 x2).bind fun t1 =>
  if ((((!t1) || (decide (x0 < 0))) || (decide (x3 < 0))) || (decide (x3 > 1125899906842624))) = true then
    some (-1)
  else
    (loop (haircut_Most.r0 x0 x1 x2) (0, x3)).bind fun o22 =>
    some o22
set_option maxRecDepth 100000 in
set_option maxHeartbeats 4000000 in
theorem haircut_Most.ok {x0 : Int} {x1 : Int} {x2 : Int} {x3 : Int} {r : Int} (h : haircut_Most.f x0 x1 x2 x3 = some r) : Pm.Spec prog 14 [.imm (.val (.int .i64 x0)), .imm (.val (.int .i64 x1)), .imm (.val (.int .i64 x2)), .imm (.val (.int .i64 x3))] (.imm (.val (.int .i64 r))) [none, none, none, none] := by
 unfold haircut_Most.f at h
 refine Pm.Spec.of_body Try.func14 rfl (by kernel_rfl) (Nat.le_of_ble_eq_true rfl) (Nat.le_of_ble_eq_true rfl) ?_
 refine W.ghost (σ' := (mkSt [(0, some (.i x0)), (1, some (.i x1)), (2, some (.i x2)), (3, some (.i x3))] [] 1000)) (Gives.entry (.c rfl (.c rfl (.c rfl (.c rfl .n)))) .n) ?_
 refine W.seq ?_
 refine W.pk ?_
 refine .a rfl rfl rfl rfl ?_
 refine .nil ?_
 refine W.seq ?_
 refine W.seq ?_
 obtain ⟨t1, b2, h⟩ := bnd1 h
 refine W.fork (mkSt [(0, some (.i x0)), (1, some (.i x1)), (2, some (.i x2)), (3, some (.i x3)), (29, some (.b ((((!t1) || (decide (x0 < 0))) || (decide (x3 < 0))) || (decide (x3 > 1125899906842624)))))] [] 1000) ?_ ?_
 ·refine W.cond rfl (fun q6 => ?_) (fun q6 => ?_)
  ·have h := ifT q6 h
   refine W.seq ?_
   refine W.pk ?_
   refine .a rfl rfl rfl rfl ?_
   refine .nil ?_
   refine W.ret ?_
   cases h
   exact leaves (.inr rfl) rfl (.imm _) (cN (cN (cN (cN .nil)))) rfl rfl
  ·have h := ifF q6 h
   refine W.skip ?_
   refine W.seq ?_
   refine W.pk ?_
   refine .m rfl rfl rfl rfl ?_
   refine .a rfl rfl rfl rfl ?_
   refine .a rfl rfl rfl rfl ?_
   refine .nil ?_
   refine W.seq ?_
   obtain ⟨o22, b23, h⟩ := bnd1 h
   refine W.fork (mkSt [(9, some (.i o22))] [] 1000) ?_ ?_
   ·refine W.seq ?_
    refine W.pk ?_
    refine .m rfl rfl rfl rfl ?_
    refine .a rfl rfl rfl rfl ?_
    refine .nil ?_
    refine W.ret ?_
    cases h
    exact leaves (.inr rfl) rfl (.imm _) (cN (cN (cN (cN .nil)))) rfl rfl
   ·clear h
    refine W.block ?_
    refine W.loopF (fun (s_ : Int × Int) => mkSt [(0, some (.i x0)), (1, some (.i x1)), (2, some (.i x2)), (9, some (.i s_.1)), (10, some (.i s_.2))] [] 1000) b23 (Gives.mkR [] (.r rfl rfl (.r rfl rfl (.r rfl rfl (.r rfl rfl (.r rfl rfl .n))))) .n rfl rfl rfl) ?_
    rintro ⟨v11, v12⟩ s_ hr
    have h : haircut_Most.b0 x0 x1 x2 v11 v12 = some s_ := hr
    unfold haircut_Most.b0 at h
    refine W.seq ?_
    refine W.seq ?_
    refine W.pk ?_
    refine .m rfl rfl rfl rfl ?_
    refine .m rfl rfl rfl rfl ?_
    refine .v rfl rfl (OpL.binI rfl rfl rfl rfl) ?_
    refine .nil ?_
    refine W.cond rfl (fun q25 => ?_) (fun q25 => ?_)
    ·have h := ifT q25 h
     refine W.skip ?_
     refine W.block ?_
     refine W.seq ?_
     refine W.pk ?_
     refine .m rfl rfl rfl rfl ?_
     refine .m rfl rfl rfl rfl ?_
     refine .v rfl rfl (OpL.binI rfl rfl rfl rfl) ?_
     refine .v rfl rfl (OpL.binI rfl rfl rfl rfl) ?_
     refine .v rfl rfl (O.quo rfl rfl rfl (by decide)) ?_
     refine .a rfl rfl rfl rfl ?_
     refine .nil ?_
     refine W.seq ?_
     obtain ⟨t26, b27, h⟩ := bnd1 h
     refine W.pk ?_
     refine .m rfl rfl rfl rfl ?_
     refine .m rfl rfl rfl rfl ?_
     refine .m rfl rfl rfl rfl ?_
     refine .call (.tup [.i t26.1, .i t26.2]) [] 0 (haircut_Cover.ok b27) rfl rfl rfl ca10 rfl rfl (cC (.imm _) (cC (.imm _) (cC (.imm _) .nil))) rfl rfl rfl rfl rfl ?_
     refine .m rfl rfl rfl rfl ?_
     refine .v rfl rfl (OpL.extract rfl rfl rfl) ?_
     refine .v rfl rfl (OpL.extract rfl rfl rfl) ?_
     refine .a rfl rfl rfl rfl ?_
     refine .a rfl rfl rfl rfl ?_
     refine .nil ?_
     refine W.seq ?_
     refine W.pk ?_
     refine .m rfl rfl rfl rfl ?_
     refine .m rfl rfl rfl rfl ?_
     refine .v rfl rfl (OpL.binI rfl rfl rfl rfl) ?_
     refine .nil ?_
     refine W.cond rfl (fun q28 => ?_) (fun q28 => ?_)
     ·have h := ifT q28 h
      refine W.pk ?_
      refine .m rfl rfl rfl rfl ?_
      refine .a rfl rfl rfl rfl ?_
      refine .nil ?_
      cases h
      exact rdN (Gives.mkR [] (.r rfl rfl (.r rfl rfl (.r rfl rfl (.r rfl rfl (.r rfl rfl .n))))) .n rfl rfl rfl)
     ·have h := ifF q28 h
      refine W.pk ?_
      refine .m rfl rfl rfl rfl ?_
      refine .v rfl rfl (OpL.binI rfl rfl rfl rfl) ?_
      refine .a rfl rfl rfl rfl ?_
      refine .nil ?_
      cases h
      exact rdN (Gives.mkR [] (.r rfl rfl (.r rfl rfl (.r rfl rfl (.r rfl rfl (.r rfl rfl .n))))) .n rfl rfl rfl)
    ·have h := ifF q25 h
     refine W.exit ?_
     cases h
     refine rdX fun e_ => ?_
     subst e_
     repeat with_reducible refine thru ?_
     refine hit ?_
     exact toN (Gives.mkR [] (.r rfl rfl .n) .n rfl rfl rfl)
 ·clear h
  rcases tf t1 with g3 | g3
  ·rcases tf (decide (x0 < 0)) with g4 | g4
   ·refine W.pk ?_
    refine .m rfl rfl rfl rfl ?_
    refine .m rfl rfl rfl rfl ?_
    refine .call (.b t1) [] 0 (haircut_good.ok b2) rfl rfl rfl ca33 rfl rfl (cC (.imm _) (cC (.imm _) .nil)) rfl rfl rfl rfl rfl ?_
    refine .v rfl rfl (OpL.unV rfl rfl rfl) ?_
    refine .m rfl rfl rfl rfl ?_
    refine .m rfl (met rfl rfl rfl (notT g3)) rfl rfl ?_
    refine .v rfl (met rfl rfl rfl (notT g3)) (OpL.binI rfl rfl rfl rfl) ?_
    refine .v rfl rfl (O.pickF (notT g3) rfl rfl rfl) ?_
    refine .m rfl rfl rfl rfl ?_
    refine .x rfl (unmet rfl rfl rfl g4) ?_
    refine .x rfl (unmet rfl rfl rfl g4) ?_
    refine .v rfl rfl (O.pickT g4 rfl rfl rfl) ?_
    refine .m rfl rfl rfl rfl ?_
    refine .x rfl (unmet rfl rfl rfl rfl) ?_
    refine .x rfl (unmet rfl rfl rfl rfl) ?_
    refine .v rfl rfl (O.pickT rfl rfl rfl rfl) ?_
    refine .nil ?_
    exact toN (Gives.mkR [] (.r rfl rfl (.r rfl rfl (.r rfl rfl (.r rfl rfl (.c rfl (sbb (by first | (simp only [g3, g4, Bool.true_or, Bool.or_true, Bool.false_or, Bool.or_false, Bool.true_and, Bool.and_true, Bool.false_and, Bool.and_false, Bool.not_true, Bool.not_false, cond_true, cond_false]; done) | (repeat (first | rw [g3] | rw [g4])) <;> simp only [Bool.true_or, Bool.or_true, Bool.false_or, Bool.or_false, Bool.true_and, Bool.and_true, Bool.false_and, Bool.and_false, Bool.not_true, Bool.not_false, cond_true, cond_false])) rfl .n))))) .n rfl rfl rfl)
   ·rcases tf (decide (x3 < 0)) with g5 | g5
    ·refine W.pk ?_
     refine .m rfl rfl rfl rfl ?_
     refine .m rfl rfl rfl rfl ?_
     refine .call (.b t1) [] 0 (haircut_good.ok b2) rfl rfl rfl ca33 rfl rfl (cC (.imm _) (cC (.imm _) .nil)) rfl rfl rfl rfl rfl ?_
     refine .v rfl rfl (OpL.unV rfl rfl rfl) ?_
     refine .m rfl rfl rfl rfl ?_
     refine .m rfl (met rfl rfl rfl (notT g3)) rfl rfl ?_
     refine .v rfl (met rfl rfl rfl (notT g3)) (OpL.binI rfl rfl rfl rfl) ?_
     refine .v rfl rfl (O.pickF (notT g3) rfl rfl rfl) ?_
     refine .m rfl rfl rfl rfl ?_
     refine .m rfl (met rfl rfl rfl g4) rfl rfl ?_
     refine .v rfl (met rfl rfl rfl g4) (OpL.binI rfl rfl rfl rfl) ?_
     refine .v rfl rfl (O.pickF g4 rfl rfl rfl) ?_
     refine .m rfl rfl rfl rfl ?_
     refine .x rfl (unmet rfl rfl rfl g5) ?_
     refine .x rfl (unmet rfl rfl rfl g5) ?_
     refine .v rfl rfl (O.pickT g5 rfl rfl rfl) ?_
     refine .nil ?_
     exact toN (Gives.mkR [] (.r rfl rfl (.r rfl rfl (.r rfl rfl (.r rfl rfl (.c rfl (sbb (by first | (simp only [g3, g4, g5, Bool.true_or, Bool.or_true, Bool.false_or, Bool.or_false, Bool.true_and, Bool.and_true, Bool.false_and, Bool.and_false, Bool.not_true, Bool.not_false, cond_true, cond_false]; done) | (repeat (first | rw [g3] | rw [g4] | rw [g5])) <;> simp only [Bool.true_or, Bool.or_true, Bool.false_or, Bool.or_false, Bool.true_and, Bool.and_true, Bool.false_and, Bool.and_false, Bool.not_true, Bool.not_false, cond_true, cond_false])) rfl .n))))) .n rfl rfl rfl)
    ·refine W.pk ?_
     refine .m rfl rfl rfl rfl ?_
     refine .m rfl rfl rfl rfl ?_
     refine .call (.b t1) [] 0 (haircut_good.ok b2) rfl rfl rfl ca33 rfl rfl (cC (.imm _) (cC (.imm _) .nil)) rfl rfl rfl rfl rfl ?_
     refine .v rfl rfl (OpL.unV rfl rfl rfl) ?_
     refine .m rfl rfl rfl rfl ?_
     refine .m rfl (met rfl rfl rfl (notT g3)) rfl rfl ?_
     refine .v rfl (met rfl rfl rfl (notT g3)) (OpL.binI rfl rfl rfl rfl) ?_
     refine .v rfl rfl (O.pickF (notT g3) rfl rfl rfl) ?_
     refine .m rfl rfl rfl rfl ?_
     refine .m rfl (met rfl rfl rfl g4) rfl rfl ?_
     refine .v rfl (met rfl rfl rfl g4) (OpL.binI rfl rfl rfl rfl) ?_
     refine .v rfl rfl (O.pickF g4 rfl rfl rfl) ?_
     refine .m rfl rfl rfl rfl ?_
     refine .m rfl (met rfl rfl rfl g5) rfl rfl ?_
     refine .v rfl (met rfl rfl rfl g5) (OpL.binI rfl rfl rfl rfl) ?_
     refine .v rfl rfl (O.pickF g5 rfl rfl rfl) ?_
     refine .nil ?_
     exact toN (Gives.mkR [] (.r rfl rfl (.r rfl rfl (.r rfl rfl (.r rfl rfl (.c rfl (sbb (by first | (simp only [g3, g4, g5, Bool.true_or, Bool.or_true, Bool.false_or, Bool.or_false, Bool.true_and, Bool.and_true, Bool.false_and, Bool.and_false, Bool.not_true, Bool.not_false, cond_true, cond_false]; done) | (repeat (first | rw [g3] | rw [g4] | rw [g5])) <;> simp only [Bool.true_or, Bool.or_true, Bool.false_or, Bool.or_false, Bool.true_and, Bool.and_true, Bool.false_and, Bool.and_false, Bool.not_true, Bool.not_false, cond_true, cond_false])) rfl .n))))) .n rfl rfl rfl)
  ·refine W.pk ?_
   refine .m rfl rfl rfl rfl ?_
   refine .m rfl rfl rfl rfl ?_
   refine .call (.b t1) [] 0 (haircut_good.ok b2) rfl rfl rfl ca33 rfl rfl (cC (.imm _) (cC (.imm _) .nil)) rfl rfl rfl rfl rfl ?_
   refine .v rfl rfl (OpL.unV rfl rfl rfl) ?_
   refine .m rfl rfl rfl rfl ?_
   refine .x rfl (unmet rfl rfl rfl (notF g3)) ?_
   refine .x rfl (unmet rfl rfl rfl (notF g3)) ?_
   refine .v rfl rfl (O.pickT (notF g3) rfl rfl rfl) ?_
   refine .m rfl rfl rfl rfl ?_
   refine .x rfl (unmet rfl rfl rfl rfl) ?_
   refine .x rfl (unmet rfl rfl rfl rfl) ?_
   refine .v rfl rfl (O.pickT rfl rfl rfl rfl) ?_
   refine .m rfl rfl rfl rfl ?_
   refine .x rfl (unmet rfl rfl rfl rfl) ?_
   refine .x rfl (unmet rfl rfl rfl rfl) ?_
   refine .v rfl rfl (O.pickT rfl rfl rfl rfl) ?_
   refine .nil ?_
   exact toN (Gives.mkR [] (.r rfl rfl (.r rfl rfl (.r rfl rfl (.r rfl rfl (.c rfl (sbb (by simp only [g3, Bool.true_or, Bool.or_true, Bool.false_or, Bool.or_false, Bool.true_and, Bool.and_true, Bool.false_and, Bool.and_false, Bool.not_true, Bool.not_false, cond_true, cond_false])) rfl .n))))) .n rfl rfl rfl)

noncomputable def lombardref15_good.f (x0 : Int) (x1 : Int) : Option (Bool) :=
  some ((((decide (x0 ≥ 1)) && (decide (x0 ≤ 4294967296))) && (decide (x1 ≥ 0))) && (decide (x1 < 1000000)))
set_option maxRecDepth 100000 in
set_option maxHeartbeats 4000000 in
theorem lombardref15_good.ok {x0 : Int} {x1 : Int} {r : Bool} (h : lombardref15_good.f x0 x1 = some r) : Pm.Spec prog 36 [.imm (.val (.int .i64 x0)), .imm (.val (.int .i64 x1))] (.imm (.val (.bool r))) [none, none] := by
 unfold lombardref15_good.f at h
 refine Pm.Spec.of_body Try.func36 rfl (by kernel_rfl) (Nat.le_of_ble_eq_true rfl) (Nat.le_of_ble_eq_true rfl) ?_
 refine W.ghost (σ' := (mkSt [(0, some (.i x0)), (1, some (.i x1))] [] 1000)) (Gives.entry (.c rfl (.c rfl .n)) .n) ?_
 refine W.seq ?_
 refine W.pk ?_
 refine .a rfl rfl rfl rfl ?_
 refine .nil ?_
 refine W.seq ?_
 refine W.fork (mkSt [(4, some (.b ((((decide (x0 ≥ 1)) && (decide (x0 ≤ 4294967296))) && (decide (x1 ≥ 0))) && (decide (x1 < 1000000)))))] [] 1000) ?_ ?_
 ·refine W.ret ?_
  cases h
  exact leaves (.inr rfl) rfl (.imm _) (cN (cN .nil)) rfl rfl
 ·clear h
  rcases tf (decide (x0 ≥ 1)) with g1 | g1
  ·rcases tf (decide (x0 ≤ 4294967296)) with g2 | g2
   ·rcases tf (decide (x1 ≥ 0)) with g3 | g3
    ·refine W.pk ?_
     refine .m rfl rfl rfl rfl ?_
     refine .v rfl rfl (OpL.binI rfl rfl rfl rfl) ?_
     refine .m rfl rfl rfl rfl ?_
     refine .m rfl (met rfl rfl rfl g1) rfl rfl ?_
     refine .v rfl (met rfl rfl rfl g1) (OpL.binI rfl rfl rfl rfl) ?_
     refine .v rfl rfl (O.pickT g1 rfl rfl rfl) ?_
     refine .m rfl rfl rfl rfl ?_
     refine .m rfl (met rfl rfl rfl g2) rfl rfl ?_
     refine .v rfl (met rfl rfl rfl g2) (OpL.binI rfl rfl rfl rfl) ?_
     refine .v rfl rfl (O.pickT g2 rfl rfl rfl) ?_
     refine .m rfl rfl rfl rfl ?_
     refine .m rfl (met rfl rfl rfl g3) rfl rfl ?_
     refine .v rfl (met rfl rfl rfl g3) (OpL.binI rfl rfl rfl rfl) ?_
     refine .v rfl rfl (O.pickT g3 rfl rfl rfl) ?_
     refine .a rfl rfl rfl rfl ?_
     refine .nil ?_
     exact toN (Gives.mkR [] (.c rfl (sbb (by first | (simp only [g1, g2, g3, Bool.true_or, Bool.or_true, Bool.false_or, Bool.or_false, Bool.true_and, Bool.and_true, Bool.false_and, Bool.and_false, Bool.not_true, Bool.not_false, cond_true, cond_false]; done) | (repeat (first | rw [g1] | rw [g2] | rw [g3])) <;> simp only [Bool.true_or, Bool.or_true, Bool.false_or, Bool.or_false, Bool.true_and, Bool.and_true, Bool.false_and, Bool.and_false, Bool.not_true, Bool.not_false, cond_true, cond_false])) rfl .n) .n rfl rfl rfl)
    ·refine W.pk ?_
     refine .m rfl rfl rfl rfl ?_
     refine .v rfl rfl (OpL.binI rfl rfl rfl rfl) ?_
     refine .m rfl rfl rfl rfl ?_
     refine .m rfl (met rfl rfl rfl g1) rfl rfl ?_
     refine .v rfl (met rfl rfl rfl g1) (OpL.binI rfl rfl rfl rfl) ?_
     refine .v rfl rfl (O.pickT g1 rfl rfl rfl) ?_
     refine .m rfl rfl rfl rfl ?_
     refine .m rfl (met rfl rfl rfl g2) rfl rfl ?_
     refine .v rfl (met rfl rfl rfl g2) (OpL.binI rfl rfl rfl rfl) ?_
     refine .v rfl rfl (O.pickT g2 rfl rfl rfl) ?_
     refine .m rfl rfl rfl rfl ?_
     refine .x rfl (unmet rfl rfl rfl g3) ?_
     refine .x rfl (unmet rfl rfl rfl g3) ?_
     refine .v rfl rfl (O.pickF g3 rfl rfl rfl) ?_
     refine .a rfl rfl rfl rfl ?_
     refine .nil ?_
     exact toN (Gives.mkR [] (.c rfl (sbb (by first | (simp only [g1, g2, g3, Bool.true_or, Bool.or_true, Bool.false_or, Bool.or_false, Bool.true_and, Bool.and_true, Bool.false_and, Bool.and_false, Bool.not_true, Bool.not_false, cond_true, cond_false]; done) | (repeat (first | rw [g1] | rw [g2] | rw [g3])) <;> simp only [Bool.true_or, Bool.or_true, Bool.false_or, Bool.or_false, Bool.true_and, Bool.and_true, Bool.false_and, Bool.and_false, Bool.not_true, Bool.not_false, cond_true, cond_false])) rfl .n) .n rfl rfl rfl)
   ·refine W.pk ?_
    refine .m rfl rfl rfl rfl ?_
    refine .v rfl rfl (OpL.binI rfl rfl rfl rfl) ?_
    refine .m rfl rfl rfl rfl ?_
    refine .m rfl (met rfl rfl rfl g1) rfl rfl ?_
    refine .v rfl (met rfl rfl rfl g1) (OpL.binI rfl rfl rfl rfl) ?_
    refine .v rfl rfl (O.pickT g1 rfl rfl rfl) ?_
    refine .m rfl rfl rfl rfl ?_
    refine .x rfl (unmet rfl rfl rfl g2) ?_
    refine .x rfl (unmet rfl rfl rfl g2) ?_
    refine .v rfl rfl (O.pickF g2 rfl rfl rfl) ?_
    refine .m rfl rfl rfl rfl ?_
    refine .x rfl (unmet rfl rfl rfl rfl) ?_
    refine .x rfl (unmet rfl rfl rfl rfl) ?_
    refine .v rfl rfl (O.pickF rfl rfl rfl rfl) ?_
    refine .a rfl rfl rfl rfl ?_
    refine .nil ?_
    exact toN (Gives.mkR [] (.c rfl (sbb (by first | (simp only [g1, g2, Bool.true_or, Bool.or_true, Bool.false_or, Bool.or_false, Bool.true_and, Bool.and_true, Bool.false_and, Bool.and_false, Bool.not_true, Bool.not_false, cond_true, cond_false]; done) | (repeat (first | rw [g1] | rw [g2])) <;> simp only [Bool.true_or, Bool.or_true, Bool.false_or, Bool.or_false, Bool.true_and, Bool.and_true, Bool.false_and, Bool.and_false, Bool.not_true, Bool.not_false, cond_true, cond_false])) rfl .n) .n rfl rfl rfl)
  ·refine W.pk ?_
   refine .m rfl rfl rfl rfl ?_
   refine .v rfl rfl (OpL.binI rfl rfl rfl rfl) ?_
   refine .m rfl rfl rfl rfl ?_
   refine .x rfl (unmet rfl rfl rfl g1) ?_
   refine .x rfl (unmet rfl rfl rfl g1) ?_
   refine .v rfl rfl (O.pickF g1 rfl rfl rfl) ?_
   refine .m rfl rfl rfl rfl ?_
   refine .x rfl (unmet rfl rfl rfl rfl) ?_
   refine .x rfl (unmet rfl rfl rfl rfl) ?_
   refine .v rfl rfl (O.pickF rfl rfl rfl rfl) ?_
   refine .m rfl rfl rfl rfl ?_
   refine .x rfl (unmet rfl rfl rfl rfl) ?_
   refine .x rfl (unmet rfl rfl rfl rfl) ?_
   refine .v rfl rfl (O.pickF rfl rfl rfl rfl) ?_
   refine .a rfl rfl rfl rfl ?_
   refine .nil ?_
   exact toN (Gives.mkR [] (.c rfl (sbb (by simp only [g1, Bool.true_or, Bool.or_true, Bool.false_or, Bool.or_false, Bool.true_and, Bool.and_true, Bool.false_and, Bool.and_false, Bool.not_true, Bool.not_false, cond_true, cond_false])) rfl .n) .n rfl rfl rfl)

noncomputable def lombardref01_Of.b0  (v6 : Int) (v7 : List Int) : Option ((Int × (List Int)) ⊕ (List Int)) :=
  if (decide (v6 > 0)) = true then
    if (List.length v7 + List.length [(Int.tmod v6 65536)]) * 8 ≤ 140737488355328 then
    some (.inl ((IntKind.wrap .u64 (Int.tdiv v6 65536)), (v7 ++ [(Int.tmod v6 65536)])))
    else none
  else
    some (.inr v7)
noncomputable def lombardref01_Of.r0  (s : Int × (List Int)) : Option ((Int × (List Int)) ⊕ (List Int)) := lombardref01_Of.b0  s.1 s.2
noncomputable def lombardref01_Of.f (x0 : Int) : Option (List Int) :=
  (loop lombardref01_Of.r0 (x0, [])).bind fun o13 =>
  some o13
set_option maxRecDepth 100000 in
set_option maxHeartbeats 4000000 in
theorem lombardref01_Of.ok {x0 : Int} {r : List Int} (h : lombardref01_Of.f x0 = some r) : Pm.Spec prog 65 [.imm (.val (.int .u64 x0))] (.xown 95 1 (List.map (encI .u64) r)) [none] := by
 unfold lombardref01_Of.f at h
 refine Pm.Spec.of_body Try.func65 rfl (by kernel_rfl) (Nat.le_of_ble_eq_true rfl) (Nat.le_of_ble_eq_true rfl) ?_
 refine W.ghost (σ' := (mkSt [(0, some (.imm (.val (.int .u64 x0))))] [] 1000)) (Gives.entry (.c rfl .n) .n) ?_
 refine W.seq ?_
 refine W.pk ?_
 refine .a rfl rfl rfl rfl ?_
 refine .nil ?_
 refine W.seq ?_
 refine W.pk ?_
 refine .a rfl rfl rfl rfl ?_
 refine .nil ?_
 refine W.seq ?_
 refine W.ghost (Gives.mintS 3 95 1 rfl) ?_
 obtain ⟨o13, b14, h⟩ := bnd1 h
 refine W.fork (mkSt [(3, some (.own 1000))] [(1000, some (.rows 95 1 (List.map (encI .u64) o13) false))] 1001) ?_ ?_
 ·refine W.seq ?_
  refine W.pk ?_
  refine .m rfl rfl rfl rfl ?_
  refine .a rfl rfl rfl rfl ?_
  refine .nil ?_
  refine W.ret ?_
  cases h
  exact leaves (.inr rfl) rfl (.own _ _ _ _ rfl) (cN .nil) rfl rfl
 ·clear h
  refine W.block ?_
  refine W.loopF (fun (s_ : Int × (List Int)) => mkSt [(0, some (.imm (.val (.int .u64 s_.1)))), (3, some (.own 1000))] [(1000, some (.rows 95 1 (List.map (encI .u64) s_.2) false))] 1001) b14 (Gives.mkR [] (.r rfl rfl (.r rfl rfl .n)) (.r rfl rfl rfl .n) rfl rfl rfl) ?_
  rintro ⟨v6, v7⟩ s_ hr
  have h : lombardref01_Of.b0  v6 v7 = some s_ := hr
  unfold lombardref01_Of.b0 at h
  refine W.seq ?_
  refine W.seq ?_
  refine W.pk ?_
  refine .m rfl rfl rfl rfl ?_
  refine .v rfl rfl (OpL.binI rfl rfl rfl rfl) ?_
  refine .nil ?_
  refine W.cond rfl (fun q16 => ?_) (fun q16 => ?_)
  ·have h := ifT q16 h
   refine W.skip ?_
   refine W.block ?_
   refine W.seq ?_
   obtain ⟨c17, h⟩ := chk h
   refine W.pk ?_
   refine .m rfl rfl rfl rfl ?_
   refine .m rfl rfl rfl rfl ?_
   refine .v rfl rfl (O.rem rfl rfl rfl (by decide)) ?_
   refine .t rfl rfl (O.lit (enc := (encI .u64)) (l := [(Int.tmod v6 65536)]) sl106 rfl rfl rfl rfl rfl rfl rfl rfl rfl) ?_
   refine .t rfl rfl (O.appO sl106 (EncOk.int .u64) c17 rfl rfl rfl rfl rfl) ?_
   refine .a rfl rfl rfl rfl ?_
   refine .nil ?_
   refine W.pk ?_
   refine .m rfl rfl rfl rfl ?_
   refine .v rfl rfl (O.quo rfl rfl rfl (by decide)) ?_
   refine .a rfl rfl rfl rfl ?_
   refine .nil ?_
   cases h
   exact rdN (Gives.mkR [(1000, 1002)] (.r rfl rfl (.r rfl rfl .n)) (.r rfl rfl rfl .n) rfl rfl rfl)
  ·have h := ifF q16 h
   refine W.exit ?_
   cases h
   refine rdX fun e_ => ?_
   subst e_
   repeat with_reducible refine thru ?_
   refine hit ?_
   exact toN (Gives.mkR [] (.r rfl rfl .n) (.r rfl rfl rfl .n) rfl rfl rfl)

noncomputable def lombardref01_size.f (x0 : Int) : Option (List Int) :=
  if (x0 == (-9223372036854775808)) = true then
    (lombardref01_Of.f 9223372036854775808).bind fun t2 =>
    some t2
  else
    if (decide (x0 < 0)) = true then
      (lombardref01_Of.f (IntKind.wrap .u64 (IntKind.wrap .i64 (0 - x0)))).bind fun t5 =>
      some t5
    else
      (lombardref01_Of.f (IntKind.wrap .u64 x0)).bind fun t7 =>
      some t7
set_option maxRecDepth 100000 in
set_option maxHeartbeats 4000000 in
theorem lombardref01_size.ok {x0 : Int} {r : List Int} (h : lombardref01_size.f x0 = some r) : Pm.Spec prog 62 [.imm (.val (.int .i64 x0))] (.xown 95 1 (List.map (encI .u64) r)) [none] := by
 unfold lombardref01_size.f at h
 refine Pm.Spec.of_body Try.func62 rfl (by kernel_rfl) (Nat.le_of_ble_eq_true rfl) (Nat.le_of_ble_eq_true rfl) ?_
 refine W.ghost (σ' := (mkSt [(0, some (.i x0))] [] 1000)) (Gives.entry (.c rfl .n) .n) ?_
 refine W.seq ?_
 refine W.pk ?_
 refine .a rfl rfl rfl rfl ?_
 refine .nil ?_
 refine W.seq ?_
 refine W.seq ?_
 refine W.pk ?_
 refine .m rfl rfl rfl rfl ?_
 refine .v rfl rfl (OpL.binI rfl rfl rfl rfl) ?_
 refine .nil ?_
 refine W.cond rfl (fun q1 => ?_) (fun q1 => ?_)
 ·have h := ifT q1 h
  refine W.seq ?_
  obtain ⟨t2, b3, h⟩ := bnd1 h
  refine W.pk ?_
  refine .call (.own 1000) [(1000, some (.rows 95 1 (List.map (encI .u64) t2) false))] 1 (lombardref01_Of.ok b3) rfl rfl rfl ca65 rfl rfl (cC (.imm _) .nil) rfl rfl rfl rfl rfl ?_
  refine .a rfl rfl rfl rfl ?_
  refine .nil ?_
  refine W.ret ?_
  cases h
  exact leaves (.inr rfl) rfl (.own _ _ _ _ rfl) (cN .nil) rfl rfl
 ·have h := ifF q1 h
  refine W.skip ?_
  refine W.seq ?_
  refine W.seq ?_
  refine W.pk ?_
  refine .m rfl rfl rfl rfl ?_
  refine .v rfl rfl (OpL.binI rfl rfl rfl rfl) ?_
  refine .nil ?_
  refine W.cond rfl (fun q4 => ?_) (fun q4 => ?_)
  ·have h := ifT q4 h
   refine W.seq ?_
   obtain ⟨t5, b6, h⟩ := bnd1 h
   refine W.pk ?_
   refine .m rfl rfl rfl rfl ?_
   refine .v rfl rfl (OpL.binI rfl rfl rfl rfl) ?_
   refine .v rfl rfl (O.conv h3 u95 rfl rfl) ?_
   refine .call (.own 1000) [(1000, some (.rows 95 1 (List.map (encI .u64) t5) false))] 1 (lombardref01_Of.ok b6) rfl rfl rfl ca65 rfl rfl (cC (.imm _) .nil) rfl rfl rfl rfl rfl ?_
   refine .a rfl rfl rfl rfl ?_
   refine .nil ?_
   refine W.ret ?_
   cases h
   exact leaves (.inr rfl) rfl (.own _ _ _ _ rfl) (cN .nil) rfl rfl
  ·have h := ifF q4 h
   refine W.skip ?_
   refine W.seq ?_
   obtain ⟨t7, b8, h⟩ := bnd1 h
   refine W.pk ?_
   refine .m rfl rfl rfl rfl ?_
   refine .v rfl rfl (O.conv h3 u95 rfl rfl) ?_
   refine .call (.own 1000) [(1000, some (.rows 95 1 (List.map (encI .u64) t7) false))] 1 (lombardref01_Of.ok b8) rfl rfl rfl ca65 rfl rfl (cC (.imm _) .nil) rfl rfl rfl rfl rfl ?_
   refine .a rfl rfl rfl rfl ?_
   refine .nil ?_
   refine W.ret ?_
   cases h
   exact leaves (.inr rfl) rfl (.own _ _ _ _ rfl) (cN .nil) rfl rfl

noncomputable def lombardref01_trim.b0 (x0 : List Int) (v4 : Int) : Option (Int ⊕ Int) :=
  if ((decide (v4 > 0)) = true → (0 : Int) ≤ (IntKind.wrap .i64 (v4 - 1)) ∧ (IntKind.wrap .i64 (v4 - 1)) < (List.length x0 : Int)) then
  if ((decide (v4 > 0)) && ((nth x0 (IntKind.wrap .i64 (v4 - 1))) == 0)) = true then
    some (.inl (IntKind.wrap .i64 (v4 - 1)))
  else
    some (.inr v4)
  else none
noncomputable def lombardref01_trim.r0 (x0 : List Int) (s : Int) : Option (Int ⊕ Int) := lombardref01_trim.b0 x0 s
noncomputable def lombardref01_trim.f (x0 : List Int) : Option (List Int) :=
  (loop (lombardref01_trim.r0 x0) (List.length x0 : Int)).bind fun o12 =>
  if (0 : Int) ≤ 0 ∧ 0 ≤ o12 ∧ o12 ≤ (List.length x0 : Int) then
  some ((x0.drop (Int.toNat 0)).take (Int.toNat o12 - Int.toNat 0))
  else none
set_option maxRecDepth 100000 in
set_option maxHeartbeats 4000000 in
theorem lombardref01_trim.ok {x0 : List Int} {r : List Int} (h : lombardref01_trim.f x0 = some r) : Pm.Spec prog 77 [.xown 95 1 (List.map (encI .u64) x0)] (.imm (.row 1 (List.map (encI .u64) r))) [none] := by
 unfold lombardref01_trim.f at h
 refine Pm.Spec.of_body Try.func77 rfl (by kernel_rfl) (Nat.le_of_ble_eq_true rfl) (Nat.le_of_ble_eq_true rfl) ?_
 refine W.ghost (σ' := (mkSt [(0, some (.own 0))] [(0, some (.rows 95 1 (List.map (encI .u64) x0) false))] 1000)) (Gives.entry (.c rfl .n) (.c rfl .n)) ?_
 refine W.seq ?_
 refine W.pk ?_
 refine .a rfl rfl rfl rfl ?_
 refine .nil ?_
 refine W.seq ?_
 refine W.pk ?_
 refine .m rfl rfl rfl rfl ?_
 refine .v rfl rfl (O.lenO sl106 rfl rfl rfl) ?_
 refine .a rfl rfl rfl rfl ?_
 refine .nil ?_
 refine W.seq ?_
 obtain ⟨o12, b13, h⟩ := bnd1 h
 refine W.fork (mkSt [(0, some (.own 0)), (3, some (.i o12))] [(0, some (.rows 95 1 (List.map (encI .u64) x0) false))] 1000) ?_ ?_
 ·refine W.seq ?_
  obtain ⟨c18, h⟩ := chk h
  refine W.pk ?_
  refine .m rfl rfl rfl rfl ?_
  refine .m rfl rfl rfl rfl ?_
  refine .v rfl rfl (O.partO sl106 c18 rfl rfl rfl rfl rfl) ?_
  refine .a rfl rfl rfl rfl ?_
  refine .nil ?_
  refine W.ret ?_
  cases h
  exact leaves (.inr rfl) rfl (cfView rfl c18) (cN .nil) rfl rfl
 ·clear h
  refine W.block ?_
  refine W.loopF (fun (s_ : Int) => mkSt [(0, some (.own 0)), (3, some (.i s_))] [(0, some (.rows 95 1 (List.map (encI .u64) x0) false))] 1000) b13 (Gives.mkR [] (.r rfl rfl (.r rfl rfl .n)) (.r rfl rfl rfl .n) rfl rfl rfl) ?_
  rintro v4 s_ hr
  have h : lombardref01_trim.b0 x0 v4 = some s_ := hr
  unfold lombardref01_trim.b0 at h
  refine W.seq ?_
  refine W.seq ?_
  obtain ⟨c15, h⟩ := chk h
  refine W.fork (mkSt [(0, some (.own 0)), (3, some (.i v4)), (15, some (.b ((decide (v4 > 0)) && ((nth x0 (IntKind.wrap .i64 (v4 - 1))) == 0))))] [(0, some (.rows 95 1 (List.map (encI .u64) x0) false))] 1000) ?_ ?_
  ·refine W.cond rfl (fun q17 => ?_) (fun q17 => ?_)
   ·have h := ifT q17 h
    refine W.skip ?_
    refine W.block ?_
    refine W.pk ?_
    refine .m rfl rfl rfl rfl ?_
    refine .v rfl rfl (OpL.binI rfl rfl rfl rfl) ?_
    refine .a rfl rfl rfl rfl ?_
    refine .nil ?_
    cases h
    exact rdN (Gives.mkR [] (.r rfl rfl (.r rfl rfl .n)) (.r rfl rfl rfl .n) rfl rfl rfl)
   ·have h := ifF q17 h
    refine W.exit ?_
    cases h
    refine rdX fun e_ => ?_
    subst e_
    repeat with_reducible refine thru ?_
    refine hit ?_
    exact toN (Gives.mkR [] (.r rfl rfl (.r rfl rfl .n)) (.r rfl rfl rfl .n) rfl rfl rfl)
  ·clear h
   rcases tf (decide (v4 > 0)) with g16 | g16
   ·refine W.pk ?_
    refine .m rfl rfl rfl rfl ?_
    refine .v rfl rfl (OpL.binI rfl rfl rfl rfl) ?_
    refine .m rfl rfl rfl rfl ?_
    refine .m rfl (met rfl rfl rfl g16) rfl rfl ?_
    refine .m rfl (met rfl rfl rfl g16) rfl rfl ?_
    refine .v rfl (met rfl rfl rfl g16) (OpL.binI rfl rfl rfl rfl) ?_
    refine .v rfl (met rfl rfl rfl g16) (O.idxO sl106 (c15 (by simp only [g16, Bool.true_or, Bool.or_true, Bool.false_or, Bool.or_false, Bool.true_and, Bool.and_true, Bool.false_and, Bool.and_false, Bool.not_true, Bool.not_false, cond_true, cond_false])) rfl rfl rfl rfl) ?_
    refine .v rfl (met rfl rfl rfl g16) (O.ldE (c := (.val (.int .u64 (nth x0 (IntKind.wrap .i64 (v4 - 1)))))) ty95 (c15 (by simp only [g16, Bool.true_or, Bool.or_true, Bool.false_or, Bool.or_false, Bool.true_and, Bool.and_true, Bool.false_and, Bool.and_false, Bool.not_true, Bool.not_false, cond_true, cond_false])) rfl rfl rfl rfl rfl) ?_
    refine .v rfl (met rfl rfl rfl g16) (OpL.binI rfl rfl rfl rfl) ?_
    refine .v rfl rfl (O.pickT g16 rfl rfl rfl) ?_
    refine .nil ?_
    exact toN (Gives.mkR [] (.r rfl rfl (.r rfl rfl (.c rfl (sbb (by simp only [g16, Bool.true_or, Bool.or_true, Bool.false_or, Bool.or_false, Bool.true_and, Bool.and_true, Bool.false_and, Bool.and_false, Bool.not_true, Bool.not_false, cond_true, cond_false])) rfl .n))) (.r rfl rfl rfl .n) rfl rfl rfl)
   ·refine W.pk ?_
    refine .m rfl rfl rfl rfl ?_
    refine .v rfl rfl (OpL.binI rfl rfl rfl rfl) ?_
    refine .m rfl rfl rfl rfl ?_
    refine .x rfl (unmet rfl rfl rfl g16) ?_
    refine .x rfl (unmet rfl rfl rfl g16) ?_
    refine .x rfl (unmet rfl rfl rfl g16) ?_
    refine .x rfl (unmet rfl rfl rfl g16) ?_
    refine .x rfl (unmet rfl rfl rfl g16) ?_
    refine .x rfl (unmet rfl rfl rfl g16) ?_
    refine .v rfl rfl (O.pickF g16 rfl rfl rfl) ?_
    refine .nil ?_
    exact toN (Gives.mkR [] (.r rfl rfl (.r rfl rfl (.c rfl (sbb (by simp only [g16, Bool.true_or, Bool.or_true, Bool.false_or, Bool.or_false, Bool.true_and, Bool.and_true, Bool.false_and, Bool.and_false, Bool.not_true, Bool.not_false, cond_true, cond_false])) rfl .n))) (.r rfl rfl rfl .n) rfl rfl rfl)

noncomputable def lombardref01_Mul.b1 (x0 : List Int) (x1 : List Int) (v62 : Int) (v202 : Int) (v203 : Int) (v204 : List Int) : Option ((Int × Int × (List Int)) ⊕ (List Int)) :=
  if ((decide (v203 < (List.length x1 : Int))) || (decide (v202 > 0))) = true then
    if (0 : Int) ≤ (IntKind.wrap .i64 (v62 + v203)) ∧ (IntKind.wrap .i64 (v62 + v203)) < (List.length v204 : Int) then
    ((
      if (decide (v203 < (List.length x1 : Int))) = true then
        if (0 : Int) ≤ v62 ∧ v62 < (List.length x0 : Int) then
        if (0 : Int) ≤ v203 ∧ v203 < (List.length x1 : Int) then
        some (IntKind.wrap .u64 ((IntKind.wrap .u64 ((nth v204 (IntKind.wrap .i64 (v62 + v203))) + v202)) + (IntKind.wrap .u64 ((nth x0 v62) * (nth x1 v203)))))
        else none
        else none
      else
        some (IntKind.wrap .u64 ((nth v204 (IntKind.wrap .i64 (v62 + v203))) + v202)) : Option (Int))).bind fun o242 =>
    if (0 : Int) ≤ (IntKind.wrap .i64 (v62 + v203)) ∧ (IntKind.wrap .i64 (v62 + v203)) < (List.length v204 : Int) then
    some (.inl ((IntKind.wrap .u64 (Int.tdiv o242 65536)), (IntKind.wrap .i64 (v203 + 1)), (List.set v204 (Int.toNat (IntKind.wrap .i64 (v62 + v203))) (Int.tmod o242 65536))))
    else none
    else none
  else
    some (.inr v204)
noncomputable def lombardref01_Mul.r1 (x0 : List Int) (x1 : List Int) (v62 : Int) (s : Int × Int × (List Int)) : Option ((Int × Int × (List Int)) ⊕ (List Int)) := lombardref01_Mul.b1 x0 x1 v62 s.1 s.2.1 s.2.2
noncomputable def lombardref01_Mul.b0 (x0 : List Int) (x1 : List Int) (v62 : Int) (v63 : List Int) : Option ((Int × (List Int)) ⊕ (List Int)) :=
  if (decide (v62 < (List.length x0 : Int))) = true then
    (loop (lombardref01_Mul.r1 x0 x1 v62) (0, 0, v63)).bind fun o232 =>
    some (.inl ((IntKind.wrap .i64 (v62 + 1)), o232))
  else
    some (.inr v63)
noncomputable def lombardref01_Mul.r0 (x0 : List Int) (x1 : List Int) (s : Int × (List Int)) : Option ((Int × (List Int)) ⊕ (List Int)) := lombardref01_Mul.b0 x0 x1 s.1 s.2
noncomputable def lombardref01_Mul.f (x0 : List Int) (x1 : List Int) : Option (List Int) :=
  if (0 : Int) ≤ (IntKind.wrap .i64 ((IntKind.wrap .i64 ((List.length x0 : Int) + (List.length x1 : Int))) + 1)) ∧ (IntKind.wrap .i64 ((IntKind.wrap .i64 ((List.length x0 : Int) + (List.length x1 : Int))) + 1)) ≤ (IntKind.wrap .i64 ((IntKind.wrap .i64 ((List.length x0 : Int) + (List.length x1 : Int))) + 1)) ∧ (8 : Int) * (IntKind.wrap .i64 ((IntKind.wrap .i64 ((List.length x0 : Int) + (List.length x1 : Int))) + 1)) ≤ 281474976710656 then
  (loop (lombardref01_Mul.r0 x0 x1) (0, (List.replicate (Int.toNat (IntKind.wrap .i64 ((IntKind.wrap .i64 ((List.length x0 : Int) + (List.length x1 : Int))) + 1))) (0 : Int)))).bind fun o185 =>
  (lombardref01_trim.f o185).bind fun t248 =>
  some t248
  else none
set_option maxRecDepth 100000 in
set_option maxHeartbeats 4000000 in
theorem lombardref01_Mul.ok {x0 : List Int} {x1 : List Int} {r : List Int} (h : lombardref01_Mul.f x0 x1 = some r) : Pm.Spec prog 61 [.xown 95 1 (List.map (encI .u64) x0), .xown 95 1 (List.map (encI .u64) x1)] (.imm (.row 1 (List.map (encI .u64) r))) [some (.xown 95 1 (List.map (encI .u64) x0)), some (.xown 95 1 (List.map (encI .u64) x1))] := by
 unfold lombardref01_Mul.f at h
 refine Pm.Spec.of_body Try.func61 rfl (by kernel_rfl) (Nat.le_of_ble_eq_true rfl) (Nat.le_of_ble_eq_true rfl) ?_
 refine W.ghost (σ' := (mkSt [(0, some (.own 0)), (1, some (.own 1))] [(0, some (.rows 95 1 (List.map (encI .u64) x0) false)), (1, some (.rows 95 1 (List.map (encI .u64) x1) false))] 1000)) (Gives.entry (.c rfl (.c rfl .n)) (.c rfl (.c rfl .n))) ?_
 refine W.seq ?_
 refine W.pk ?_
 refine .a rfl rfl rfl rfl ?_
 refine .nil ?_
 refine W.seq ?_
 obtain ⟨c1, h⟩ := chk h
 refine W.pk ?_
 refine .m rfl rfl rfl rfl ?_
 refine .v rfl rfl (O.lenO sl106 rfl rfl rfl) ?_
 refine .m rfl rfl rfl rfl ?_
 refine .v rfl rfl (O.lenO sl106 rfl rfl rfl) ?_
 refine .v rfl rfl (OpL.binI rfl rfl rfl rfl) ?_
 refine .v rfl rfl (OpL.binI rfl rfl rfl rfl) ?_
 refine .t rfl rfl (O.make (enc := (encI .u64)) (z := (0 : Int)) sl106 c1 rfl rfl rfl rfl rfl) ?_
 refine .a rfl rfl rfl rfl ?_
 refine .nil ?_
 refine W.seq ?_
 refine W.seq ?_
 refine W.pk ?_
 refine .a rfl rfl rfl rfl ?_
 refine .nil ?_
 obtain ⟨o185, b186, h⟩ := bnd1 h
 refine W.fork (mkSt [(5, some (.own 1000))] [(0, some (.rows 95 1 (List.map (encI .u64) x0) false)), (1, some (.rows 95 1 (List.map (encI .u64) x1) false)), (1000, some (.rows 95 1 (List.map (encI .u64) o185) false))] 1001) ?_ ?_
 ·refine W.seq ?_
  obtain ⟨t248, b249, h⟩ := bnd1 h
  refine W.pk ?_
  refine .m rfl rfl rfl rfl ?_
  refine .call (.imm (.row 1 (List.map (encI .u64) t248))) [(1000, none)] 0 (lombardref01_trim.ok b249) rfl rfl rfl ca77 rfl rfl (cC (.own _ _ _ _ rfl) .nil) rfl rfl rfl rfl rfl ?_
  refine .a rfl rfl rfl rfl ?_
  refine .nil ?_
  refine W.ret ?_
  cases h
  exact leaves (.inr rfl) rfl (.imm _) (cS (.own _ _ _ _ rfl) (cS (.own _ _ _ _ rfl) .nil)) rfl rfl
 ·clear h
  refine W.block ?_
  refine W.loopF (fun (s_ : Int × (List Int)) => mkSt [(0, some (.own 0)), (1, some (.own 1)), (5, some (.own 1000)), (6, some (.i s_.1))] [(0, some (.rows 95 1 (List.map (encI .u64) x0) false)), (1, some (.rows 95 1 (List.map (encI .u64) x1) false)), (1000, some (.rows 95 1 (List.map (encI .u64) s_.2) false))] 1001) b186 (Gives.mkR [] (.r rfl rfl (.r rfl rfl (.r rfl rfl (.r rfl rfl .n)))) (.r rfl rfl rfl (.r rfl rfl rfl (.r rfl rfl rfl .n))) rfl rfl rfl) ?_
  rintro ⟨v62, v63⟩ s_ hr
  have h : lombardref01_Mul.b0 x0 x1 v62 v63 = some s_ := hr
  unfold lombardref01_Mul.b0 at h
  refine W.seq ?_
  refine W.seq ?_
  refine W.pk ?_
  refine .m rfl rfl rfl rfl ?_
  refine .m rfl rfl rfl rfl ?_
  refine .v rfl rfl (O.lenO sl106 rfl rfl rfl) ?_
  refine .v rfl rfl (OpL.binI rfl rfl rfl rfl) ?_
  refine .nil ?_
  refine W.cond rfl (fun q188 => ?_) (fun q188 => ?_)
  ·have h := ifT q188 h
   refine W.skip ?_
   refine W.seq ?_
   refine W.block ?_
   refine W.seq ?_
   refine W.pk ?_
   refine .a rfl rfl rfl rfl ?_
   refine .nil ?_
   refine W.seq ?_
   refine W.pk ?_
   refine .a rfl rfl rfl rfl ?_
   refine .nil ?_
   obtain ⟨o232, b233, h⟩ := bnd1 h
   refine W.fork (mkSt [(0, some (.own 0)), (1, some (.own 1)), (5, some (.own 1000)), (6, some (.i v62))] [(0, some (.rows 95 1 (List.map (encI .u64) x0) false)), (1, some (.rows 95 1 (List.map (encI .u64) x1) false)), (1000, some (.rows 95 1 (List.map (encI .u64) o232) false))] 1001) ?_ ?_
   ·refine W.pk ?_
    refine .m rfl rfl rfl rfl ?_
    refine .v rfl rfl (OpL.binI rfl rfl rfl rfl) ?_
    refine .a rfl rfl rfl rfl ?_
    refine .nil ?_
    cases h
    exact rdN (Gives.mkR [] (.r rfl rfl (.r rfl rfl (.r rfl rfl (.r rfl rfl .n)))) (.r rfl rfl rfl (.r rfl rfl rfl (.r rfl rfl rfl .n))) rfl rfl rfl)
   ·clear h
    refine W.block ?_
    refine W.loopF (fun (s_ : Int × Int × (List Int)) => mkSt [(0, some (.own 0)), (1, some (.own 1)), (5, some (.own 1000)), (6, some (.i v62)), (7, some (.imm (.val (.int .u64 s_.1)))), (8, some (.i s_.2.1))] [(0, some (.rows 95 1 (List.map (encI .u64) x0) false)), (1, some (.rows 95 1 (List.map (encI .u64) x1) false)), (1000, some (.rows 95 1 (List.map (encI .u64) s_.2.2) false))] 1001) b233 (Gives.mkR [] (.r rfl rfl (.r rfl rfl (.r rfl rfl (.r rfl rfl (.r rfl rfl (.r rfl rfl .n)))))) (.r rfl rfl rfl (.r rfl rfl rfl (.r rfl rfl rfl .n))) rfl rfl rfl) ?_
    rintro ⟨v202, v203, v204⟩ s_ hr
    have h : lombardref01_Mul.b1 x0 x1 v62 v202 v203 v204 = some s_ := hr
    unfold lombardref01_Mul.b1 at h
    refine W.seq ?_
    refine W.seq ?_
    refine W.fork (mkSt [(0, some (.own 0)), (1, some (.own 1)), (5, some (.own 1000)), (6, some (.i v62)), (7, some (.imm (.val (.int .u64 v202)))), (8, some (.i v203)), (30, some (.b ((decide (v203 < (List.length x1 : Int))) || (decide (v202 > 0)))))] [(0, some (.rows 95 1 (List.map (encI .u64) x0) false)), (1, some (.rows 95 1 (List.map (encI .u64) x1) false)), (1000, some (.rows 95 1 (List.map (encI .u64) v204) false))] 1001) ?_ ?_
    ·refine W.cond rfl (fun q236 => ?_) (fun q236 => ?_)
     ·have h := ifT q236 h
      refine W.skip ?_
      refine W.seq ?_
      refine W.block ?_
      refine W.seq ?_
      obtain ⟨c237, h⟩ := chk h
      refine W.pk ?_
      refine .m rfl rfl rfl rfl ?_
      refine .m rfl rfl rfl rfl ?_
      refine .m rfl rfl rfl rfl ?_
      refine .v rfl rfl (OpL.binI rfl rfl rfl rfl) ?_
      refine .v rfl rfl (O.idxO sl106 c237 rfl rfl rfl rfl) ?_
      refine .v rfl rfl (O.ldE (c := (.val (.int .u64 (nth v204 (IntKind.wrap .i64 (v62 + v203)))))) ty95 c237 rfl rfl rfl rfl rfl) ?_
      refine .m rfl rfl rfl rfl ?_
      refine .v rfl rfl (OpL.binI rfl rfl rfl rfl) ?_
      refine .a rfl rfl rfl rfl ?_
      refine .nil ?_
      refine W.seq ?_
      refine W.seq ?_
      refine W.pk ?_
      refine .m rfl rfl rfl rfl ?_
      refine .m rfl rfl rfl rfl ?_
      refine .v rfl rfl (O.lenO sl106 rfl rfl rfl) ?_
      refine .v rfl rfl (OpL.binI rfl rfl rfl rfl) ?_
      refine .nil ?_
      obtain ⟨o242, b243, h⟩ := bnd1 h
      refine W.fork (mkSt [(0, some (.own 0)), (1, some (.own 1)), (5, some (.own 1000)), (6, some (.i v62)), (8, some (.i v203)), (9, some (.imm (.val (.int .u64 o242))))] [(0, some (.rows 95 1 (List.map (encI .u64) x0) false)), (1, some (.rows 95 1 (List.map (encI .u64) x1) false)), (1000, some (.rows 95 1 (List.map (encI .u64) v204) false))] 1001) ?_ ?_
      ·refine W.seq ?_
       obtain ⟨c247, h⟩ := chk h
       refine W.pk ?_
       refine .m rfl rfl rfl rfl ?_
       refine .m rfl rfl rfl rfl ?_
       refine .m rfl rfl rfl rfl ?_
       refine .v rfl rfl (OpL.binI rfl rfl rfl rfl) ?_
       refine .m rfl rfl rfl rfl ?_
       refine .v rfl rfl (O.rem rfl rfl rfl (by decide)) ?_
       refine .v rfl rfl (O.idxO sl106 c247 rfl rfl rfl rfl) ?_
       refine .s rfl rfl (O.stE (x' := (Int.tmod o242 65536)) ty95 c247 rfl rfl rfl rfl rfl rfl rfl rfl rfl rfl rfl) ?_
       refine .nil ?_
       refine W.pk ?_
       refine .m rfl rfl rfl rfl ?_
       refine .v rfl rfl (O.quo rfl rfl rfl (by decide)) ?_
       refine .a rfl rfl rfl rfl ?_
       refine .nil ?_
       refine W.pk ?_
       refine .m rfl rfl rfl rfl ?_
       refine .v rfl rfl (OpL.binI rfl rfl rfl rfl) ?_
       refine .a rfl rfl rfl rfl ?_
       refine .nil ?_
       cases h
       exact rdN (Gives.mkR [] (.r rfl rfl (.r rfl rfl (.r rfl rfl (.r rfl rfl (.r rfl rfl (.r rfl rfl .n)))))) (.r rfl rfl rfl (.r rfl rfl rfl (.r rfl rfl rfl .n))) rfl rfl rfl)
      ·clear h
       have h := b243
       refine W.cond rfl (fun q244 => ?_) (fun q244 => ?_)
       ·have h := ifT q244 h
        obtain ⟨c245, h⟩ := chk h
        obtain ⟨c246, h⟩ := chk h
        refine W.dk (unm 12 [0, 0, 0, 6, 14, 0, 0, 96, 224, 510, 1023, 2047]) rfl (by kernel_rfl) ?_
        refine .m rfl rfl rfl rfl ?_
        refine .m rfl rfl rfl rfl ?_
        refine .m rfl rfl rfl rfl ?_
        refine .v rfl rfl (O.idxO sl106 c245 rfl rfl rfl rfl) ?_
        refine .v rfl rfl (O.ldE (c := (.val (.int .u64 (nth x0 v62)))) ty95 c245 rfl rfl rfl rfl rfl) ?_
        refine .m rfl rfl rfl rfl ?_
        refine .m rfl rfl rfl rfl ?_
        refine .v rfl rfl (O.idxO sl106 c246 rfl rfl rfl rfl) ?_
        refine .v rfl rfl (O.ldE (c := (.val (.int .u64 (nth x1 v203)))) ty95 c246 rfl rfl rfl rfl rfl) ?_
        refine .v rfl rfl (OpL.binI rfl rfl rfl rfl) ?_
        refine .v rfl rfl (OpL.binI rfl rfl rfl rfl) ?_
        refine .a rfl rfl rfl rfl ?_
        refine .nil ?_
        refine ⟨by kernel_rfl, by kernel_rfl, ?_⟩
        cases h
        exact toN (Gives.mkR [] (.r rfl rfl (.r rfl rfl (.r rfl rfl (.r rfl rfl (.r rfl rfl (.r rfl rfl .n)))))) (.r rfl rfl rfl (.r rfl rfl rfl (.r rfl rfl rfl .n))) rfl rfl rfl)
       ·have h := ifF q244 h
        refine W.skip ?_
        cases h
        exact toN (Gives.mkR [] (.r rfl rfl (.r rfl rfl (.r rfl rfl (.r rfl rfl (.r rfl rfl (.r rfl rfl .n)))))) (.r rfl rfl rfl (.r rfl rfl rfl (.r rfl rfl rfl .n))) rfl rfl rfl)
     ·have h := ifF q236 h
      refine W.exit ?_
      cases h
      refine rdX fun e_ => ?_
      subst e_
      repeat with_reducible refine thru ?_
      refine hit ?_
      exact toN (Gives.mkR [] (.r rfl rfl (.r rfl rfl (.r rfl rfl (.r rfl rfl .n)))) (.r rfl rfl rfl (.r rfl rfl rfl (.r rfl rfl rfl .n))) rfl rfl rfl)
    ·clear h
     rcases tf (decide (v203 < (List.length x1 : Int))) with g235 | g235
     ·refine W.pk ?_
      refine .m rfl rfl rfl rfl ?_
      refine .m rfl rfl rfl rfl ?_
      refine .v rfl rfl (O.lenO sl106 rfl rfl rfl) ?_
      refine .v rfl rfl (OpL.binI rfl rfl rfl rfl) ?_
      refine .m rfl rfl rfl rfl ?_
      refine .x rfl (unmet rfl rfl rfl g235) ?_
      refine .x rfl (unmet rfl rfl rfl g235) ?_
      refine .v rfl rfl (O.pickT g235 rfl rfl rfl) ?_
      refine .nil ?_
      exact toN (Gives.mkR [] (.r rfl rfl (.r rfl rfl (.r rfl rfl (.r rfl rfl (.r rfl rfl (.r rfl rfl (.c rfl (sbb (by simp only [g235, Bool.true_or, Bool.or_true, Bool.false_or, Bool.or_false, Bool.true_and, Bool.and_true, Bool.false_and, Bool.and_false, Bool.not_true, Bool.not_false, cond_true, cond_false])) rfl .n))))))) (.r rfl rfl rfl (.r rfl rfl rfl (.r rfl rfl rfl .n))) rfl rfl rfl)
     ·refine W.pk ?_
      refine .m rfl rfl rfl rfl ?_
      refine .m rfl rfl rfl rfl ?_
      refine .v rfl rfl (O.lenO sl106 rfl rfl rfl) ?_
      refine .v rfl rfl (OpL.binI rfl rfl rfl rfl) ?_
      refine .m rfl rfl rfl rfl ?_
      refine .m rfl (met rfl rfl rfl g235) rfl rfl ?_
      refine .v rfl (met rfl rfl rfl g235) (OpL.binI rfl rfl rfl rfl) ?_
      refine .v rfl rfl (O.pickF g235 rfl rfl rfl) ?_
      refine .nil ?_
      exact toN (Gives.mkR [] (.r rfl rfl (.r rfl rfl (.r rfl rfl (.r rfl rfl (.r rfl rfl (.r rfl rfl (.c rfl (sbb (by simp only [g235, Bool.true_or, Bool.or_true, Bool.false_or, Bool.or_false, Bool.true_and, Bool.and_true, Bool.false_and, Bool.and_false, Bool.not_true, Bool.not_false, cond_true, cond_false])) rfl .n))))))) (.r rfl rfl rfl (.r rfl rfl rfl (.r rfl rfl rfl .n))) rfl rfl rfl)
  ·have h := ifF q188 h
   refine W.exit ?_
   cases h
   refine rdX fun e_ => ?_
   subst e_
   repeat with_reducible refine thru ?_
   refine hit ?_
   exact toN (Gives.mkR [] (.r rfl rfl .n) (.r rfl rfl rfl (.r rfl rfl rfl (.r rfl rfl rfl .n))) rfl rfl rfl)

noncomputable def lombardref01_Compare.b0 (x0 : List Int) (x1 : List Int) (v9 : Int) : Option (Int ⊕ (Int ⊕ Unit)) :=
  if (decide (v9 ≥ 0)) = true then
    if (0 : Int) ≤ v9 ∧ v9 < (List.length x0 : Int) then
    if (0 : Int) ≤ v9 ∧ v9 < (List.length x1 : Int) then
    if (decide ((nth x0 v9) < (nth x1 v9))) = true then
      some (.inr (.inl (-1)))
    else
      if (0 : Int) ≤ v9 ∧ v9 < (List.length x0 : Int) then
      if (0 : Int) ≤ v9 ∧ v9 < (List.length x1 : Int) then
      if (decide ((nth x0 v9) > (nth x1 v9))) = true then
        some (.inr (.inl 1))
      else
        some (.inl (IntKind.wrap .i64 (v9 - 1)))
      else none
      else none
    else none
    else none
  else
    some (.inr (.inr ()))
noncomputable def lombardref01_Compare.r0 (x0 : List Int) (x1 : List Int) (s : Int) : Option (Int ⊕ (Int ⊕ Unit)) := lombardref01_Compare.b0 x0 x1 s
noncomputable def lombardref01_Compare.f (x0 : List Int) (x1 : List Int) : Option (Int) :=
  if ((List.length x0 : Int) != (List.length x1 : Int)) = true then
    some (IntKind.wrap .i64 ((List.length x0 : Int) - (List.length x1 : Int)))
  else
    (loop (lombardref01_Compare.r0 x0 x1) (IntKind.wrap .i64 ((List.length x0 : Int) - 1))).bind fun o25 =>
    match o25 with
    | .inl r35 => some r35
    | .inr w24 =>
      some 0
set_option maxRecDepth 100000 in
set_option maxHeartbeats 4000000 in
theorem lombardref01_Compare.ok {x0 : List Int} {x1 : List Int} {r : Int} (h : lombardref01_Compare.f x0 x1 = some r) : Pm.Spec prog 63 [.imm (.row 1 (List.map (encI .u64) x0)), .imm (.row 1 (List.map (encI .u64) x1))] (.imm (.val (.int .i64 r))) [none, none] := by
 unfold lombardref01_Compare.f at h
 refine Pm.Spec.of_body Try.func63 rfl (by kernel_rfl) (Nat.le_of_ble_eq_true rfl) (Nat.le_of_ble_eq_true rfl) ?_
 refine W.ghost (σ' := (mkSt [(0, some (.imm (.row 1 (List.map (encI .u64) x0)))), (1, some (.imm (.row 1 (List.map (encI .u64) x1))))] [] 1000)) (Gives.entry (.c rfl (.c rfl .n)) .n) ?_
 refine W.seq ?_
 refine W.pk ?_
 refine .a rfl rfl rfl rfl ?_
 refine .nil ?_
 refine W.seq ?_
 refine W.seq ?_
 refine W.pk ?_
 refine .m rfl rfl rfl rfl ?_
 refine .v rfl rfl (O.lenR sl106 rfl rfl) ?_
 refine .m rfl rfl rfl rfl ?_
 refine .v rfl rfl (O.lenR sl106 rfl rfl) ?_
 refine .v rfl rfl (OpL.binI rfl rfl rfl rfl) ?_
 refine .nil ?_
 refine W.cond rfl (fun q1 => ?_) (fun q1 => ?_)
 ·have h := ifT q1 h
  refine W.seq ?_
  refine W.pk ?_
  refine .m rfl rfl rfl rfl ?_
  refine .v rfl rfl (O.lenR sl106 rfl rfl) ?_
  refine .m rfl rfl rfl rfl ?_
  refine .v rfl rfl (O.lenR sl106 rfl rfl) ?_
  refine .v rfl rfl (OpL.binI rfl rfl rfl rfl) ?_
  refine .a rfl rfl rfl rfl ?_
  refine .nil ?_
  refine W.ret ?_
  cases h
  exact leaves (.inr rfl) rfl (.imm _) (cN (cN .nil)) rfl rfl
 ·have h := ifF q1 h
  refine W.skip ?_
  refine W.seq ?_
  refine W.seq ?_
  refine W.pk ?_
  refine .m rfl rfl rfl rfl ?_
  refine .v rfl rfl (O.lenR sl106 rfl rfl) ?_
  refine .v rfl rfl (OpL.binI rfl rfl rfl rfl) ?_
  refine .a rfl rfl rfl rfl ?_
  refine .nil ?_
  obtain ⟨o25, b26, z27⟩ := bnd1 h
  refine W.fork2 (out := o25) (fun (w24 : Unit) => mkSt [] [] 1000) ?_ ?_
  ·clear h
   refine W.block ?_
   refine W.loopF (fun (s_ : Int) => mkSt [(0, some (.imm (.row 1 (List.map (encI .u64) x0)))), (1, some (.imm (.row 1 (List.map (encI .u64) x1)))), (5, some (.i s_))] [] 1000) b26 (Gives.mkR [] (.r rfl rfl (.r rfl rfl (.r rfl rfl .n))) .n rfl rfl rfl) ?_
   rintro v9 s_ hr
   have h : lombardref01_Compare.b0 x0 x1 v9 = some s_ := hr
   unfold lombardref01_Compare.b0 at h
   refine W.seq ?_
   refine W.seq ?_
   refine W.pk ?_
   refine .m rfl rfl rfl rfl ?_
   refine .v rfl rfl (OpL.binI rfl rfl rfl rfl) ?_
   refine .nil ?_
   refine W.cond rfl (fun q28 => ?_) (fun q28 => ?_)
   ·have h := ifT q28 h
    refine W.skip ?_
    refine W.seq ?_
    refine W.block ?_
    refine W.seq ?_
    refine W.seq ?_
    obtain ⟨c29, h⟩ := chk h
    obtain ⟨c30, h⟩ := chk h
    refine W.dk (unm 9 [0, 0, 3, 7, 0, 0, 48, 112, 255]) rfl (by kernel_rfl) ?_
    refine .m rfl rfl rfl rfl ?_
    refine .m rfl rfl rfl rfl ?_
    refine .v rfl rfl (O.idx sl106 c29 rfl rfl rfl) ?_
    refine .v rfl rfl (O.ld (y := .imm (.val (.int .u64 (nth x0 v9)))) ty95 rfl rfl rfl) ?_
    refine .m rfl rfl rfl rfl ?_
    refine .m rfl rfl rfl rfl ?_
    refine .v rfl rfl (O.idx sl106 c30 rfl rfl rfl) ?_
    refine .v rfl rfl (O.ld (y := .imm (.val (.int .u64 (nth x1 v9)))) ty95 rfl rfl rfl) ?_
    refine .v rfl rfl (OpL.binI rfl rfl rfl rfl) ?_
    refine .nil ?_
    refine ⟨by kernel_rfl, by kernel_rfl, ?_⟩
    refine W.cond rfl (fun q31 => ?_) (fun q31 => ?_)
    ·have h := ifT q31 h
     refine W.seq ?_
     refine W.pk ?_
     refine .a rfl rfl rfl rfl ?_
     refine .nil ?_
     refine W.ret ?_
     cases h
     refine rdR fun e_ => ?_
     subst e_
     have h := z27
     dsimp only at h
     refine fkR ?_
     cases h
     exact leaves (.inr rfl) rfl (.imm _) (cN (cN .nil)) rfl rfl
    ·have h := ifF q31 h
     refine W.skip ?_
     refine W.seq ?_
     obtain ⟨c32, h⟩ := chk h
     obtain ⟨c33, h⟩ := chk h
     refine W.dk (unm 9 [0, 0, 3, 7, 0, 0, 48, 112, 255]) rfl (by kernel_rfl) ?_
     refine .m rfl rfl rfl rfl ?_
     refine .m rfl rfl rfl rfl ?_
     refine .v rfl rfl (O.idx sl106 c32 rfl rfl rfl) ?_
     refine .v rfl rfl (O.ld (y := .imm (.val (.int .u64 (nth x0 v9)))) ty95 rfl rfl rfl) ?_
     refine .m rfl rfl rfl rfl ?_
     refine .m rfl rfl rfl rfl ?_
     refine .v rfl rfl (O.idx sl106 c33 rfl rfl rfl) ?_
     refine .v rfl rfl (O.ld (y := .imm (.val (.int .u64 (nth x1 v9)))) ty95 rfl rfl rfl) ?_
     refine .v rfl rfl (OpL.binI rfl rfl rfl rfl) ?_
     refine .nil ?_
     refine ⟨by kernel_rfl, by kernel_rfl, ?_⟩
     refine W.cond rfl (fun q34 => ?_) (fun q34 => ?_)
     ·have h := ifT q34 h
      refine W.seq ?_
      refine W.pk ?_
      refine .a rfl rfl rfl rfl ?_
      refine .nil ?_
      refine W.ret ?_
      cases h
      refine rdR fun e_ => ?_
      subst e_
      have h := z27
      dsimp only at h
      refine fkR ?_
      cases h
      exact leaves (.inr rfl) rfl (.imm _) (cN (cN .nil)) rfl rfl
     ·have h := ifF q34 h
      refine W.skip ?_
      refine W.pk ?_
      refine .m rfl rfl rfl rfl ?_
      refine .v rfl rfl (OpL.binI rfl rfl rfl rfl) ?_
      refine .a rfl rfl rfl rfl ?_
      refine .nil ?_
      cases h
      exact rdN (Gives.mkR [] (.r rfl rfl (.r rfl rfl (.r rfl rfl .n))) .n rfl rfl rfl)
   ·have h := ifF q28 h
    refine W.exit ?_
    cases h
    refine rdX fun e_ => ?_
    subst e_
    repeat with_reducible refine thru ?_
    refine hit ?_
    exact fkN (Gives.mkR [] .n .n rfl rfl rfl)
  ·intro w24 e_
   subst e_
   clear h
   have h := z27
   dsimp only at h
   refine W.seq ?_
   refine W.pk ?_
   refine .a rfl rfl rfl rfl ?_
   refine .nil ?_
   refine W.ret ?_
   cases h
   exact leaves (.inr rfl) rfl (.imm _) (cN (cN .nil)) rfl rfl

noncomputable def lombardref01_Sub.b0 (x0 : List Int) (x1 : List Int) (v23 : Int) (v24 : Int) (v25 : List Int) : Option ((Int × Int × (List Int)) ⊕ (List Int)) :=
  if (decide (v24 < (List.length x0 : Int))) = true then
    if (0 : Int) ≤ v24 ∧ v24 < (List.length x0 : Int) then
    ((
      if (decide (v24 < (List.length x1 : Int))) = true then
        if (0 : Int) ≤ v24 ∧ v24 < (List.length x1 : Int) then
        some (IntKind.wrap .u64 ((IntKind.wrap .u64 ((IntKind.wrap .u64 ((nth x0 v24) + 65536)) - v23)) - (nth x1 v24)))
        else none
      else
        some (IntKind.wrap .u64 ((IntKind.wrap .u64 ((nth x0 v24) + 65536)) - v23)) : Option (Int))).bind fun o55 =>
    if (List.length v25 + List.length [(Int.tmod o55 65536)]) * 8 ≤ 140737488355328 then
    some (.inl ((IntKind.wrap .u64 (1 - (IntKind.wrap .u64 (Int.tdiv o55 65536)))), (IntKind.wrap .i64 (v24 + 1)), (v25 ++ [(Int.tmod o55 65536)])))
    else none
    else none
  else
    some (.inr v25)
noncomputable def lombardref01_Sub.r0 (x0 : List Int) (x1 : List Int) (s : Int × Int × (List Int)) : Option ((Int × Int × (List Int)) ⊕ (List Int)) := lombardref01_Sub.b0 x0 x1 s.1 s.2.1 s.2.2
noncomputable def lombardref01_Sub.f (x0 : List Int) (x1 : List Int) : Option (List Int) :=
  (loop (lombardref01_Sub.r0 x0 x1) (0, 0, [])).bind fun o47 =>
  (lombardref01_trim.f o47).bind fun t60 =>
  some t60
set_option maxRecDepth 100000 in
set_option maxHeartbeats 4000000 in
theorem lombardref01_Sub.ok {x0 : List Int} {x1 : List Int} {r : List Int} (h : lombardref01_Sub.f x0 x1 = some r) : Pm.Spec prog 78 [.imm (.row 1 (List.map (encI .u64) x0)), .imm (.row 1 (List.map (encI .u64) x1))] (.imm (.row 1 (List.map (encI .u64) r))) [none, none] := by
 unfold lombardref01_Sub.f at h
 refine Pm.Spec.of_body Try.func78 rfl (by kernel_rfl) (Nat.le_of_ble_eq_true rfl) (Nat.le_of_ble_eq_true rfl) ?_
 refine W.ghost (σ' := (mkSt [(0, some (.imm (.row 1 (List.map (encI .u64) x0)))), (1, some (.imm (.row 1 (List.map (encI .u64) x1))))] [] 1000)) (Gives.entry (.c rfl (.c rfl .n)) .n) ?_
 refine W.seq ?_
 refine W.pk ?_
 refine .a rfl rfl rfl rfl ?_
 refine .nil ?_
 refine W.seq ?_
 refine W.pk ?_
 refine .a rfl rfl rfl rfl ?_
 refine .nil ?_
 refine W.seq ?_
 refine W.pk ?_
 refine .a rfl rfl rfl rfl ?_
 refine .nil ?_
 refine W.seq ?_
 refine W.seq ?_
 refine W.pk ?_
 refine .a rfl rfl rfl rfl ?_
 refine .nil ?_
 refine W.ghost (Gives.mintS 5 95 1 rfl) ?_
 obtain ⟨o47, b48, h⟩ := bnd1 h
 refine W.fork (mkSt [(5, some (.own 1000))] [(1000, some (.rows 95 1 (List.map (encI .u64) o47) false))] 1001) ?_ ?_
 ·refine W.seq ?_
  obtain ⟨t60, b61, h⟩ := bnd1 h
  refine W.pk ?_
  refine .m rfl rfl rfl rfl ?_
  refine .call (.imm (.row 1 (List.map (encI .u64) t60))) [(1000, none)] 0 (lombardref01_trim.ok b61) rfl rfl rfl ca77 rfl rfl (cC (.own _ _ _ _ rfl) .nil) rfl rfl rfl rfl rfl ?_
  refine .a rfl rfl rfl rfl ?_
  refine .nil ?_
  refine W.ret ?_
  cases h
  exact leaves (.inr rfl) rfl (.imm _) (cN (cN .nil)) rfl rfl
 ·clear h
  refine W.block ?_
  refine W.loopF (fun (s_ : Int × Int × (List Int)) => mkSt [(0, some (.imm (.row 1 (List.map (encI .u64) x0)))), (1, some (.imm (.row 1 (List.map (encI .u64) x1)))), (5, some (.own 1000)), (6, some (.imm (.val (.int .u64 s_.1)))), (7, some (.i s_.2.1))] [(1000, some (.rows 95 1 (List.map (encI .u64) s_.2.2) false))] 1001) b48 (Gives.mkR [] (.r rfl rfl (.r rfl rfl (.r rfl rfl (.r rfl rfl (.r rfl rfl .n))))) (.r rfl rfl rfl .n) rfl rfl rfl) ?_
  rintro ⟨v23, v24, v25⟩ s_ hr
  have h : lombardref01_Sub.b0 x0 x1 v23 v24 v25 = some s_ := hr
  unfold lombardref01_Sub.b0 at h
  refine W.seq ?_
  refine W.seq ?_
  refine W.pk ?_
  refine .m rfl rfl rfl rfl ?_
  refine .m rfl rfl rfl rfl ?_
  refine .v rfl rfl (O.lenR sl106 rfl rfl) ?_
  refine .v rfl rfl (OpL.binI rfl rfl rfl rfl) ?_
  refine .nil ?_
  refine W.cond rfl (fun q50 => ?_) (fun q50 => ?_)
  ·have h := ifT q50 h
   refine W.skip ?_
   refine W.seq ?_
   refine W.block ?_
   refine W.seq ?_
   obtain ⟨c51, h⟩ := chk h
   refine W.pk ?_
   refine .m rfl rfl rfl rfl ?_
   refine .m rfl rfl rfl rfl ?_
   refine .v rfl rfl (O.idx sl106 c51 rfl rfl rfl) ?_
   refine .v rfl rfl (O.ld (y := .imm (.val (.int .u64 (nth x0 v24)))) ty95 rfl rfl rfl) ?_
   refine .v rfl rfl (OpL.binI rfl rfl rfl rfl) ?_
   refine .m rfl rfl rfl rfl ?_
   refine .v rfl rfl (OpL.binI rfl rfl rfl rfl) ?_
   refine .a rfl rfl rfl rfl ?_
   refine .nil ?_
   refine W.seq ?_
   refine W.seq ?_
   refine W.pk ?_
   refine .m rfl rfl rfl rfl ?_
   refine .m rfl rfl rfl rfl ?_
   refine .v rfl rfl (O.lenR sl106 rfl rfl) ?_
   refine .v rfl rfl (OpL.binI rfl rfl rfl rfl) ?_
   refine .nil ?_
   obtain ⟨o55, b56, h⟩ := bnd1 h
   refine W.fork (mkSt [(0, some (.imm (.row 1 (List.map (encI .u64) x0)))), (1, some (.imm (.row 1 (List.map (encI .u64) x1)))), (5, some (.own 1000)), (7, some (.i v24)), (8, some (.imm (.val (.int .u64 o55))))] [(1000, some (.rows 95 1 (List.map (encI .u64) v25) false))] 1001) ?_ ?_
   ·refine W.seq ?_
    obtain ⟨c59, h⟩ := chk h
    refine W.pk ?_
    refine .m rfl rfl rfl rfl ?_
    refine .m rfl rfl rfl rfl ?_
    refine .v rfl rfl (O.rem rfl rfl rfl (by decide)) ?_
    refine .t rfl rfl (O.lit (enc := (encI .u64)) (l := [(Int.tmod o55 65536)]) sl106 rfl rfl rfl rfl rfl rfl rfl rfl rfl) ?_
    refine .t rfl rfl (O.appO sl106 (EncOk.int .u64) c59 rfl rfl rfl rfl rfl) ?_
    refine .a rfl rfl rfl rfl ?_
    refine .nil ?_
    refine W.pk ?_
    refine .m rfl rfl rfl rfl ?_
    refine .v rfl rfl (O.quo rfl rfl rfl (by decide)) ?_
    refine .v rfl rfl (OpL.binI rfl rfl rfl rfl) ?_
    refine .a rfl rfl rfl rfl ?_
    refine .nil ?_
    refine W.pk ?_
    refine .m rfl rfl rfl rfl ?_
    refine .v rfl rfl (OpL.binI rfl rfl rfl rfl) ?_
    refine .a rfl rfl rfl rfl ?_
    refine .nil ?_
    cases h
    exact rdN (Gives.mkR [(1000, 1002)] (.r rfl rfl (.r rfl rfl (.r rfl rfl (.r rfl rfl (.r rfl rfl .n))))) (.r rfl rfl rfl .n) rfl rfl rfl)
   ·clear h
    have h := b56
    refine W.cond rfl (fun q57 => ?_) (fun q57 => ?_)
    ·have h := ifT q57 h
     obtain ⟨c58, h⟩ := chk h
     refine W.pk ?_
     refine .m rfl rfl rfl rfl ?_
     refine .m rfl rfl rfl rfl ?_
     refine .m rfl rfl rfl rfl ?_
     refine .v rfl rfl (O.idx sl106 c58 rfl rfl rfl) ?_
     refine .v rfl rfl (O.ld (y := .imm (.val (.int .u64 (nth x1 v24)))) ty95 rfl rfl rfl) ?_
     refine .v rfl rfl (OpL.binI rfl rfl rfl rfl) ?_
     refine .a rfl rfl rfl rfl ?_
     refine .nil ?_
     cases h
     exact toN (Gives.mkR [] (.r rfl rfl (.r rfl rfl (.r rfl rfl (.r rfl rfl (.r rfl rfl .n))))) (.r rfl rfl rfl .n) rfl rfl rfl)
    ·have h := ifF q57 h
     refine W.skip ?_
     cases h
     exact toN (Gives.mkR [] (.r rfl rfl (.r rfl rfl (.r rfl rfl (.r rfl rfl (.r rfl rfl .n))))) (.r rfl rfl rfl .n) rfl rfl rfl)
  ·have h := ifF q50 h
   refine W.exit ?_
   cases h
   refine rdX fun e_ => ?_
   subst e_
   repeat with_reducible refine thru ?_
   refine hit ?_
   exact toN (Gives.mkR [] (.r rfl rfl .n) (.r rfl rfl rfl .n) rfl rfl rfl)
end Go.Proofs.Ytdcpdnfalnelkaa
