/- Shows what functions of the program come to, each as a plain function: written by a program of the author's for this claim. -/
import Derived.Test.YtdcpdnfalnelkaaGx1
namespace Go.Proofs.Ytdcpdnfalnelkaa
open Go Go.Pm
set_option linter.unusedVariables false
set_option linter.unusedSimpArgs false
noncomputable def haircut_good.f (x0 : Int) (x1 : Int) : Option (Bool) :=
  some ((((decide (x0 ≥ 1)) && (decide (x0 ≤ 4294967296))) && (decide (x1 ≥ 0))) && (decide (x1 < 1000000)))
set_option maxRecDepth 100000 in
set_option maxHeartbeats 4000000 in
theorem haircut_good.ok {x0 : Int} {x1 : Int} {r : Bool} (h : haircut_good.f x0 x1 = some r) : Pm.Spec prog 33 [.imm (.val (.int .i64 x0)), .imm (.val (.int .i64 x1))] (.imm (.val (.bool r))) [none, none] := by
 unfold haircut_good.f at h
 refine Pm.Spec.of_body Try.func33 rfl (by kernel_rfl) (Nat.le_of_ble_eq_true rfl) (Nat.le_of_ble_eq_true rfl) ?_
 refine W.ghost (σ' := (mkSt [(0, some (.i x0)), (1, some (.i x1))] [] 1000)) (Gives.entry (.c rfl (.c rfl .n)) .n) ?_
 refine W.seq ?_
 refine W.pk ?_
 refine .a rfl rfl rfl rfl ?_
 refine .nil ?_
 refine W.seq ?_
 refine W.fork (mkSt [(4, some (.b ((((decide (x0 ≥ 1)) && (decide (x0 ≤ 4294967296))) && (decide (x1 ≥ 0))) && (decide (x1 < 1000000)))))] [] 1000) ?_ ?_
 ·refine W.ret ?_
  cases h
  exact leaves (.inr rfl) rfl (.imm _) (cN (cN .nil)) rfl rfl
 ·clear h
  rcases tf (decide (x0 ≥ 1)) with g1 | g1
  ·rcases tf (decide (x0 ≤ 4294967296)) with g2 | g2
   ·rcases tf (decide (x1 ≥ 0)) with g3 | g3
    ·refine W.pk ?_
     refine .m rfl rfl rfl rfl ?_
     refine .v rfl rfl (OpL.binI rfl rfl rfl rfl) ?_
     refine .m rfl rfl rfl rfl ?_
     refine .m rfl (met rfl rfl rfl g1) rfl rfl ?_
     refine .v rfl (met rfl rfl rfl g1) (OpL.binI rfl rfl rfl rfl) ?_
     refine .v rfl rfl (O.pickT g1 rfl rfl rfl) ?_
     refine .m rfl rfl rfl rfl ?_
     refine .m rfl (met rfl rfl rfl g2) rfl rfl ?_
     refine .v rfl (met rfl rfl rfl g2) (OpL.binI rfl rfl rfl rfl) ?_
     refine .v rfl rfl (O.pickT g2 rfl rfl rfl) ?_
     refine .m rfl rfl rfl rfl ?_
     refine .m rfl (met rfl rfl rfl g3) rfl rfl ?_
     refine .v rfl (met rfl rfl rfl g3) (OpL.binI rfl rfl rfl rfl) ?_
     refine .v rfl rfl (O.pickT g3 rfl rfl rfl) ?_
     refine .a rfl rfl rfl rfl ?_
     refine .nil ?_
     exact toN (Gives.mkR [] (.c rfl (sbb (by first | (simp only [g1, g2, g3, Bool.true_or, Bool.or_true, Bool.false_or, Bool.or_false, Bool.true_and, Bool.and_true, Bool.false_and, Bool.and_false, Bool.not_true, Bool.not_false, cond_true, cond_false]; done) | (repeat (first | rw [g1] | rw [g2] | rw [g3])) <;> simp only [Bool.true_or, Bool.or_true, Bool.false_or, Bool.or_false, Bool.true_and, Bool.and_true, Bool.false_and, Bool.and_false, Bool.not_true, Bool.not_false, cond_true, cond_false])) rfl .n) .n rfl rfl rfl)
    ·refine W.pk ?_
     refine .m rfl rfl rfl rfl ?_
     refine .v rfl rfl (OpL.binI rfl rfl rfl rfl) ?_
     refine .m rfl rfl rfl rfl ?_
     refine .m rfl (met rfl rfl rfl g1) rfl rfl ?_
     refine .v rfl (met rfl rfl rfl g1) (OpL.binI rfl rfl rfl rfl) ?_
     refine .v rfl rfl (O.pickT g1 rfl rfl rfl) ?_
     refine .m rfl rfl rfl rfl ?_
     refine .m rfl (met rfl rfl rfl g2) rfl rfl ?_
     refine .v rfl (met rfl rfl rfl g2) (OpL.binI rfl rfl rfl rfl) ?_
     refine .v rfl rfl (O.pickT g2 rfl rfl rfl) ?_
     refine .m rfl rfl rfl rfl ?_
     refine .x rfl (unmet rfl rfl rfl g3) ?_
     refine .x rfl (unmet rfl rfl rfl g3) ?_
     refine .v rfl rfl (O.pickF g3 rfl rfl rfl) ?_
     refine .a rfl rfl rfl rfl ?_
     refine .nil ?_
     exact toN (Gives.mkR [] (.c rfl (sbb (by first | (simp only [g1, g2, g3, Bool.true_or, Bool.or_true, Bool.false_or, Bool.or_false, Bool.true_and, Bool.and_true, Bool.false_and, Bool.and_false, Bool.not_true, Bool.not_false, cond_true, cond_false]; done) | (repeat (first | rw [g1] | rw [g2] | rw [g3])) <;> simp only [Bool.true_or, Bool.or_true, Bool.false_or, Bool.or_false, Bool.true_and, Bool.and_true, Bool.false_and, Bool.and_false, Bool.not_true, Bool.not_false, cond_true, cond_false])) rfl .n) .n rfl rfl rfl)
   ·refine W.pk ?_
    refine .m rfl rfl rfl rfl ?_
    refine .v rfl rfl (OpL.binI rfl rfl rfl rfl) ?_
    refine .m rfl rfl rfl rfl ?_
    refine .m rfl (met rfl rfl rfl g1) rfl rfl ?_
    refine .v rfl (met rfl rfl rfl g1) (OpL.binI rfl rfl rfl rfl) ?_
    refine .v rfl rfl (O.pickT g1 rfl rfl rfl) ?_
    refine .m rfl rfl rfl rfl ?_
    refine .x rfl (unmet rfl rfl rfl g2) ?_
    refine .x rfl (unmet rfl rfl rfl g2) ?_
    refine .v rfl rfl (O.pickF g2 rfl rfl rfl) ?_
    refine .m rfl rfl rfl rfl ?_
    refine .x rfl (unmet rfl rfl rfl rfl) ?_
    refine .x rfl (unmet rfl rfl rfl rfl) ?_
    refine .v rfl rfl (O.pickF rfl rfl rfl rfl) ?_
    refine .a rfl rfl rfl rfl ?_
    refine .nil ?_
    exact toN (Gives.mkR [] (.c rfl (sbb (by first | (simp only [g1, g2, Bool.true_or, Bool.or_true, Bool.false_or, Bool.or_false, Bool.true_and, Bool.and_true, Bool.false_and, Bool.and_false, Bool.not_true, Bool.not_false, cond_true, cond_false]; done) | (repeat (first | rw [g1] | rw [g2])) <;> simp only [Bool.true_or, Bool.or_true, Bool.false_or, Bool.or_false, Bool.true_and, Bool.and_true, Bool.false_and, Bool.and_false, Bool.not_true, Bool.not_false, cond_true, cond_false])) rfl .n) .n rfl rfl rfl)
  ·refine W.pk ?_
   refine .m rfl rfl rfl rfl ?_
   refine .v rfl rfl (OpL.binI rfl rfl rfl rfl) ?_
   refine .m rfl rfl rfl rfl ?_
   refine .x rfl (unmet rfl rfl rfl g1) ?_
   refine .x rfl (unmet rfl rfl rfl g1) ?_
   refine .v rfl rfl (O.pickF g1 rfl rfl rfl) ?_
   refine .m rfl rfl rfl rfl ?_
   refine .x rfl (unmet rfl rfl rfl rfl) ?_
   refine .x rfl (unmet rfl rfl rfl rfl) ?_
   refine .v rfl rfl (O.pickF rfl rfl rfl rfl) ?_
   refine .m rfl rfl rfl rfl ?_
   refine .x rfl (unmet rfl rfl rfl rfl) ?_
   refine .x rfl (unmet rfl rfl rfl rfl) ?_
   refine .v rfl rfl (O.pickF rfl rfl rfl rfl) ?_
   refine .a rfl rfl rfl rfl ?_
   refine .nil ?_
   exact toN (Gives.mkR [] (.c rfl (sbb (by simp only [g1, Bool.true_or, Bool.or_true, Bool.false_or, Bool.or_false, Bool.true_and, Bool.and_true, Bool.false_and, Bool.and_false, Bool.not_true, Bool.not_false, cond_true, cond_false])) rfl .n) .n rfl rfl rfl)

noncomputable def fixnum_size.f (x0 : Int) : Option (Int × Bool) :=
  if (decide (x0 < 0)) = true then
    some ((IntKind.wrap .u64 (0 - (IntKind.wrap .u64 x0))), true)
  else
    some ((IntKind.wrap .u64 x0), false)
set_option maxRecDepth 100000 in
set_option maxHeartbeats 4000000 in
theorem fixnum_size.ok {x0 : Int} {r : Int × Bool} (h : fixnum_size.f x0 = some r) : Pm.Spec prog 55 [.imm (.val (.int .i64 x0))] (.tup [.imm (.val (.int .u64 r.1)), .imm (.val (.bool r.2))]) [none] := by
 unfold fixnum_size.f at h
 refine Pm.Spec.of_body Try.func55 rfl (by kernel_rfl) (Nat.le_of_ble_eq_true rfl) (Nat.le_of_ble_eq_true rfl) ?_
 refine W.ghost (σ' := (mkSt [(0, some (.i x0))] [] 1000)) (Gives.entry (.c rfl .n) .n) ?_
 refine W.seq ?_
 refine W.pk ?_
 refine .a rfl rfl rfl rfl ?_
 refine .a rfl rfl rfl rfl ?_
 refine .nil ?_
 refine W.seq ?_
 refine W.seq ?_
 refine W.pk ?_
 refine .m rfl rfl rfl rfl ?_
 refine .v rfl rfl (OpL.binI rfl rfl rfl rfl) ?_
 refine .nil ?_
 refine W.cond rfl (fun q1 => ?_) (fun q1 => ?_)
 ·have h := ifT q1 h
  refine W.seq ?_
  refine W.pk ?_
  refine .m rfl rfl rfl rfl ?_
  refine .v rfl rfl (O.conv h3 u95 rfl rfl) ?_
  refine .v rfl rfl (OpL.unV rfl rfl rfl) ?_
  refine .a rfl rfl rfl rfl ?_
  refine .a rfl rfl rfl rfl ?_
  refine .nil ?_
  refine W.ret ?_
  cases h
  exact leaves (.inr rfl) rfl (.tup _ _ _ _ (cC (.imm _) (cC (.imm _) .nil))) (cN .nil) rfl rfl
 ·have h := ifF q1 h
  refine W.skip ?_
  refine W.seq ?_
  refine W.pk ?_
  refine .m rfl rfl rfl rfl ?_
  refine .v rfl rfl (O.conv h3 u95 rfl rfl) ?_
  refine .a rfl rfl rfl rfl ?_
  refine .a rfl rfl rfl rfl ?_
  refine .nil ?_
  refine W.ret ?_
  cases h
  exact leaves (.inr rfl) rfl (.tup _ _ _ _ (cC (.imm _) (cC (.imm _) .nil))) (cN .nil) rfl rfl

noncomputable def fixnum_Mul.f (x0 : Int) (x1 : Int) : Option (fixnum_Wide) :=
  some (⟨(IntKind.wrap .u64 ((IntKind.wrap .u64 ((IntKind.wrap .u64 ((shrI .u64 x0 32) * (shrI .u64 x1 32))) + (shrI .u64 (IntKind.wrap .u64 ((IntKind.wrap .u64 ((shrI .u64 x0 32) * (bits .and .u64 x1 4294967295))) + (shrI .u64 (IntKind.wrap .u64 ((bits .and .u64 x0 4294967295) * (bits .and .u64 x1 4294967295))) 32))) 32))) + (shrI .u64 (IntKind.wrap .u64 ((IntKind.wrap .u64 ((bits .and .u64 x0 4294967295) * (shrI .u64 x1 32))) + (bits .and .u64 (IntKind.wrap .u64 ((IntKind.wrap .u64 ((shrI .u64 x0 32) * (bits .and .u64 x1 4294967295))) + (shrI .u64 (IntKind.wrap .u64 ((bits .and .u64 x0 4294967295) * (bits .and .u64 x1 4294967295))) 32))) 4294967295))) 32))), (bits .or .u64 (shlI .u64 (IntKind.wrap .u64 ((IntKind.wrap .u64 ((bits .and .u64 x0 4294967295) * (shrI .u64 x1 32))) + (bits .and .u64 (IntKind.wrap .u64 ((IntKind.wrap .u64 ((shrI .u64 x0 32) * (bits .and .u64 x1 4294967295))) + (shrI .u64 (IntKind.wrap .u64 ((bits .and .u64 x0 4294967295) * (bits .and .u64 x1 4294967295))) 32))) 4294967295))) 32) (bits .and .u64 (IntKind.wrap .u64 ((bits .and .u64 x0 4294967295) * (bits .and .u64 x1 4294967295))) 4294967295))⟩ : fixnum_Wide)
set_option maxRecDepth 100000 in
set_option maxHeartbeats 4000000 in
theorem fixnum_Mul.ok {x0 : Int} {x1 : Int} {r : fixnum_Wide} (h : fixnum_Mul.f x0 x1 = some r) : Pm.Spec prog 56 [.imm (.val (.int .u64 x0)), .imm (.val (.int .u64 x1))] (.agg [.imm (.val (.int .u64 r.Hi)), .imm (.val (.int .u64 r.Lo))]) [none, none] := by
 unfold fixnum_Mul.f at h
 refine Pm.Spec.of_body Try.func56 rfl (by kernel_rfl) (Nat.le_of_ble_eq_true rfl) (Nat.le_of_ble_eq_true rfl) ?_
 refine W.ghost (σ' := (mkSt [(0, some (.imm (.val (.int .u64 x0)))), (1, some (.imm (.val (.int .u64 x1))))] [] 1000)) (Gives.entry (.c rfl (.c rfl .n)) .n) ?_
 refine W.seq ?_
 refine W.pk ?_
 refine .t rfl rfl (O.alloc z99 rfl) ?_
 refine .nil ?_
 refine W.seq ?_
 refine W.pk ?_
 refine .m rfl rfl rfl rfl ?_
 refine .v rfl rfl (O.shr (by decide) rfl rfl rfl) ?_
 refine .m rfl rfl rfl rfl ?_
 refine .v rfl rfl (OpL.binI rfl rfl rfl rfl) ?_
 refine .a rfl rfl rfl rfl ?_
 refine .a rfl rfl rfl rfl ?_
 refine .nil ?_
 refine W.seq ?_
 refine W.pk ?_
 refine .m rfl rfl rfl rfl ?_
 refine .v rfl rfl (O.shr (by decide) rfl rfl rfl) ?_
 refine .m rfl rfl rfl rfl ?_
 refine .v rfl rfl (OpL.binI rfl rfl rfl rfl) ?_
 refine .a rfl rfl rfl rfl ?_
 refine .a rfl rfl rfl rfl ?_
 refine .nil ?_
 refine W.seq ?_
 refine W.pk ?_
 refine .m rfl rfl rfl rfl ?_
 refine .m rfl rfl rfl rfl ?_
 refine .v rfl rfl (OpL.binI rfl rfl rfl rfl) ?_
 refine .a rfl rfl rfl rfl ?_
 refine .nil ?_
 refine W.seq ?_
 refine W.pk ?_
 refine .m rfl rfl rfl rfl ?_
 refine .m rfl rfl rfl rfl ?_
 refine .v rfl rfl (OpL.binI rfl rfl rfl rfl) ?_
 refine .m rfl rfl rfl rfl ?_
 refine .v rfl rfl (O.shr (by decide) rfl rfl rfl) ?_
 refine .v rfl rfl (OpL.binI rfl rfl rfl rfl) ?_
 refine .a rfl rfl rfl rfl ?_
 refine .nil ?_
 refine W.seq ?_
 refine W.pk ?_
 refine .m rfl rfl rfl rfl ?_
 refine .m rfl rfl rfl rfl ?_
 refine .v rfl rfl (OpL.binI rfl rfl rfl rfl) ?_
 refine .m rfl rfl rfl rfl ?_
 refine .v rfl rfl (OpL.binI rfl rfl rfl rfl) ?_
 refine .v rfl rfl (OpL.binI rfl rfl rfl rfl) ?_
 refine .a rfl rfl rfl rfl ?_
 refine .nil ?_
 refine W.seq ?_
 refine W.pk ?_
 refine .m rfl rfl rfl rfl ?_
 refine .m rfl rfl rfl rfl ?_
 refine .v rfl rfl (OpL.binI rfl rfl rfl rfl) ?_
 refine .m rfl rfl rfl rfl ?_
 refine .v rfl rfl (O.shr (by decide) rfl rfl rfl) ?_
 refine .v rfl rfl (OpL.binI rfl rfl rfl rfl) ?_
 refine .m rfl rfl rfl rfl ?_
 refine .v rfl rfl (O.shr (by decide) rfl rfl rfl) ?_
 refine .v rfl rfl (OpL.binI rfl rfl rfl rfl) ?_
 refine .m rfl rfl rfl rfl ?_
 refine .v rfl rfl (O.shl (by decide) rfl rfl rfl) ?_
 refine .m rfl rfl rfl rfl ?_
 refine .v rfl rfl (OpL.binI rfl rfl rfl rfl) ?_
 refine .v rfl rfl (OpL.binI rfl rfl rfl rfl) ?_
 refine .v rfl rfl (O.build (out := [.imm (.val (.int .u64 (IntKind.wrap .u64 ((IntKind.wrap .u64 ((IntKind.wrap .u64 ((shrI .u64 x0 32) * (shrI .u64 x1 32))) + (shrI .u64 (IntKind.wrap .u64 ((IntKind.wrap .u64 ((shrI .u64 x0 32) * (bits .and .u64 x1 4294967295))) + (shrI .u64 (IntKind.wrap .u64 ((bits .and .u64 x0 4294967295) * (bits .and .u64 x1 4294967295))) 32))) 32))) + (shrI .u64 (IntKind.wrap .u64 ((IntKind.wrap .u64 ((bits .and .u64 x0 4294967295) * (shrI .u64 x1 32))) + (bits .and .u64 (IntKind.wrap .u64 ((IntKind.wrap .u64 ((shrI .u64 x0 32) * (bits .and .u64 x1 4294967295))) + (shrI .u64 (IntKind.wrap .u64 ((bits .and .u64 x0 4294967295) * (bits .and .u64 x1 4294967295))) 32))) 4294967295))) 32))))), .imm (.val (.int .u64 (bits .or .u64 (shlI .u64 (IntKind.wrap .u64 ((IntKind.wrap .u64 ((bits .and .u64 x0 4294967295) * (shrI .u64 x1 32))) + (bits .and .u64 (IntKind.wrap .u64 ((IntKind.wrap .u64 ((shrI .u64 x0 32) * (bits .and .u64 x1 4294967295))) + (shrI .u64 (IntKind.wrap .u64 ((bits .and .u64 x0 4294967295) * (bits .and .u64 x1 4294967295))) 32))) 4294967295))) 32) (bits .and .u64 (IntKind.wrap .u64 ((bits .and .u64 x0 4294967295) * (bits .and .u64 x1 4294967295))) 4294967295))))]) bl99 rfl rfl rfl rfl (by kernel_rfl)) ?_
 refine .s rfl rfl (O.st ty99 rfl rfl rfl rfl rfl rfl rfl rfl rfl rfl (all' := [.imm (.val (.int .u64 (IntKind.wrap .u64 ((IntKind.wrap .u64 ((IntKind.wrap .u64 ((shrI .u64 x0 32) * (shrI .u64 x1 32))) + (shrI .u64 (IntKind.wrap .u64 ((IntKind.wrap .u64 ((shrI .u64 x0 32) * (bits .and .u64 x1 4294967295))) + (shrI .u64 (IntKind.wrap .u64 ((bits .and .u64 x0 4294967295) * (bits .and .u64 x1 4294967295))) 32))) 32))) + (shrI .u64 (IntKind.wrap .u64 ((IntKind.wrap .u64 ((bits .and .u64 x0 4294967295) * (shrI .u64 x1 32))) + (bits .and .u64 (IntKind.wrap .u64 ((IntKind.wrap .u64 ((shrI .u64 x0 32) * (bits .and .u64 x1 4294967295))) + (shrI .u64 (IntKind.wrap .u64 ((bits .and .u64 x0 4294967295) * (bits .and .u64 x1 4294967295))) 32))) 4294967295))) 32))))), .imm (.val (.int .u64 (bits .or .u64 (shlI .u64 (IntKind.wrap .u64 ((IntKind.wrap .u64 ((bits .and .u64 x0 4294967295) * (shrI .u64 x1 32))) + (bits .and .u64 (IntKind.wrap .u64 ((IntKind.wrap .u64 ((shrI .u64 x0 32) * (bits .and .u64 x1 4294967295))) + (shrI .u64 (IntKind.wrap .u64 ((bits .and .u64 x0 4294967295) * (bits .and .u64 x1 4294967295))) 32))) 4294967295))) 32) (bits .and .u64 (IntKind.wrap .u64 ((bits .and .u64 x0 4294967295) * (bits .and .u64 x1 4294967295))) 4294967295))))]) rfl) ?_
 refine .nil ?_
 refine W.ret ?_
 cases h
 exact leaves (.inr rfl) rfl (.agg _ _ _ _ (cC (.imm _) (cC (.imm _) .nil))) (cN (cN .nil)) rfl rfl

noncomputable def fixnum_Wide_Div.b0 (x0 : fixnum_Wide) (x1 : Int) (v7 : Int) (v8 : Int) (v9 : Int) : Option ((Int × Int × Int) ⊕ (Int × Int)) :=
  if (decide (v8 ≥ 0)) = true then
    if (((shrI .u64 v7 63) == 1) || (decide ((bits .or .u64 (shlI .u64 v7 1) (bits .and .u64 (shrI .u64 x0.Lo (IntKind.wrap .u64 v8)) 1)) ≥ x1))) = true then
      some (.inl ((IntKind.wrap .u64 ((bits .or .u64 (shlI .u64 v7 1) (bits .and .u64 (shrI .u64 x0.Lo (IntKind.wrap .u64 v8)) 1)) - x1)), (IntKind.wrap .i64 (v8 - 1)), (bits .or .u64 v9 (shlI .u64 1 (IntKind.wrap .u64 v8)))))
    else
      some (.inl ((bits .or .u64 (shlI .u64 v7 1) (bits .and .u64 (shrI .u64 x0.Lo (IntKind.wrap .u64 v8)) 1)), (IntKind.wrap .i64 (v8 - 1)), v9))
  else
    some (.inr (v7, v9))
noncomputable def fixnum_Wide_Div.r0 (x0 : fixnum_Wide) (x1 : Int) (s : Int × Int × Int) : Option ((Int × Int × Int) ⊕ (Int × Int)) := fixnum_Wide_Div.b0 x0 x1 s.1 s.2.1 s.2.2
noncomputable def fixnum_Wide_Div.f (x0 : fixnum_Wide) (x1 : Int) : Option (fixnum_Wide × Int) :=
  if (x1 == 0) = true then
    some ((⟨0, 0⟩ : fixnum_Wide), 0)
  else
    if x1 ≠ 0 then
    if x1 ≠ 0 then
    (loop (fixnum_Wide_Div.r0 x0 x1) ((Int.tmod x0.Hi x1), 63, 0)).bind fun o17 =>
    some ((⟨(IntKind.wrap .u64 (Int.tdiv x0.Hi x1)), o17.2⟩ : fixnum_Wide), o17.1)
    else none
    else none
set_option maxRecDepth 100000 in
set_option maxHeartbeats 4000000 in
theorem fixnum_Wide_Div.ok {x0 : fixnum_Wide} {x1 : Int} {r : fixnum_Wide × Int} (h : fixnum_Wide_Div.f x0 x1 = some r) : Pm.Spec prog 57 [.agg [.imm (.val (.int .u64 x0.Hi)), .imm (.val (.int .u64 x0.Lo))], .imm (.val (.int .u64 x1))] (.tup [.agg [.imm (.val (.int .u64 r.1.Hi)), .imm (.val (.int .u64 r.1.Lo))], .imm (.val (.int .u64 r.2))]) [none, none] := by
 unfold fixnum_Wide_Div.f at h
 refine Pm.Spec.of_body Try.func57 rfl (by kernel_rfl) (Nat.le_of_ble_eq_true rfl) (Nat.le_of_ble_eq_true rfl) ?_
 refine W.ghost (σ' := (mkSt [(0, some (.agg [.imm (.val (.int .u64 x0.Hi)), .imm (.val (.int .u64 x0.Lo))])), (1, some (.imm (.val (.int .u64 x1))))] [] 1000)) (Gives.entry (.c rfl (.c rfl .n)) .n) ?_
 refine W.seq ?_
 refine W.pk ?_
 refine .t rfl rfl (O.box rfl rfl rfl rfl rfl) ?_
 refine .t rfl rfl (O.alloc z99 rfl) ?_
 refine .a rfl rfl rfl rfl ?_
 refine .nil ?_
 refine W.seq ?_
 refine W.seq ?_
 refine W.pk ?_
 refine .m rfl rfl rfl rfl ?_
 refine .v rfl rfl (OpL.binI rfl rfl rfl rfl) ?_
 refine .nil ?_
 refine W.cond rfl (fun q1 => ?_) (fun q1 => ?_)
 ·have h := ifT q1 h
  refine W.seq ?_
  refine W.pk ?_
  refine .v rfl rfl (O.build (out := [.imm (.val (.int .u64 0)), .imm (.val (.int .u64 0))]) bl99 rfl rfl rfl rfl (by kernel_rfl)) ?_
  refine .s rfl rfl (O.st ty99 rfl rfl rfl rfl rfl rfl rfl rfl rfl rfl (all' := [.imm (.val (.int .u64 0)), .imm (.val (.int .u64 0))]) rfl) ?_
  refine .a rfl rfl rfl rfl ?_
  refine .nil ?_
  refine W.ret ?_
  cases h
  exact leaves (.inr rfl) rfl (.tup _ _ _ _ (cC (.agg _ _ _ _ (cC (.imm _) (cC (.imm _) .nil))) (cC (.imm _) .nil))) (cN (cN .nil)) rfl rfl
 ·have h := ifF q1 h
  refine W.skip ?_
  refine W.seq ?_
  obtain ⟨c2, h⟩ := chk h
  refine W.pk ?_
  refine .v rfl rfl (O.fld fld99_0 rfl rfl rfl) ?_
  refine .v rfl rfl (O.ld (y := .imm (.val (.int .u64 x0.Hi))) ty95 rfl rfl rfl) ?_
  refine .m rfl rfl rfl rfl ?_
  refine .v rfl rfl (O.quo rfl rfl rfl c2) ?_
  refine .v rfl rfl (O.build (out := [.imm (.val (.int .u64 (IntKind.wrap .u64 (Int.tdiv x0.Hi x1)))), .imm (.val (.int .u64 0))]) bl99 rfl rfl rfl rfl (by kernel_rfl)) ?_
  refine .t rfl rfl (O.alloc z99 rfl) ?_
  refine .s rfl rfl (O.st ty99 rfl rfl rfl rfl rfl rfl rfl rfl rfl rfl (all' := [.imm (.val (.int .u64 (IntKind.wrap .u64 (Int.tdiv x0.Hi x1)))), .imm (.val (.int .u64 0))]) rfl) ?_
  refine .nil ?_
  refine W.seq ?_
  obtain ⟨c3, h⟩ := chk h
  refine W.pk ?_
  refine .v rfl rfl (O.fld fld99_0 rfl rfl rfl) ?_
  refine .v rfl rfl (O.ld (y := .imm (.val (.int .u64 x0.Hi))) ty95 rfl rfl rfl) ?_
  refine .m rfl rfl rfl rfl ?_
  refine .v rfl rfl (O.rem rfl rfl rfl c3) ?_
  refine .a rfl rfl rfl rfl ?_
  refine .nil ?_
  refine W.seq ?_
  refine W.seq ?_
  refine W.pk ?_
  refine .a rfl rfl rfl rfl ?_
  refine .nil ?_
  obtain ⟨o17, b18, h⟩ := bnd1 h
  refine W.fork (mkSt [(4, some (.ptr 1001 0)), (6, some (.ptr 1002 0)), (7, some (.imm (.val (.int .u64 o17.1))))] [(1001, some (.box [.imm (.val (.int .u64 0)), .imm (.val (.int .u64 0))])), (1002, some (.box [.imm (.val (.int .u64 (IntKind.wrap .u64 (Int.tdiv x0.Hi x1)))), .imm (.val (.int .u64 o17.2))]))] 1003) ?_ ?_
  ·refine W.seq ?_
   refine W.pk ?_
   refine .v rfl rfl (O.ldN ty99 rfl rfl rfl) ?_
   refine .m rfl rfl rfl rfl ?_
   refine .s rfl rfl (O.st ty99 rfl rfl rfl rfl rfl rfl rfl rfl rfl rfl (all' := [.imm (.val (.int .u64 (IntKind.wrap .u64 (Int.tdiv x0.Hi x1)))), .imm (.val (.int .u64 o17.2))]) rfl) ?_
   refine .a rfl rfl rfl rfl ?_
   refine .nil ?_
   refine W.ret ?_
   cases h
   exact leaves (.inr rfl) rfl (.tup _ _ _ _ (cC (.agg _ _ _ _ (cC (.imm _) (cC (.imm _) .nil))) (cC (.imm _) .nil))) (cN (cN .nil)) rfl rfl
  ·clear h
   refine W.block ?_
   refine W.loopF (fun (s_ : Int × Int × Int) => mkSt [(1, some (.imm (.val (.int .u64 x1)))), (2, some (.ptr 1000 0)), (4, some (.ptr 1001 0)), (6, some (.ptr 1002 0)), (7, some (.imm (.val (.int .u64 s_.1)))), (8, some (.i s_.2.1))] [(1000, some (.box [.imm (.val (.int .u64 x0.Hi)), .imm (.val (.int .u64 x0.Lo))])), (1001, some (.box [.imm (.val (.int .u64 0)), .imm (.val (.int .u64 0))])), (1002, some (.box [.imm (.val (.int .u64 (IntKind.wrap .u64 (Int.tdiv x0.Hi x1)))), .imm (.val (.int .u64 s_.2.2))]))] 1003) b18 (Gives.mkR [] (.r rfl rfl (.r rfl rfl (.r rfl rfl (.r rfl rfl (.r rfl rfl (.r rfl rfl .n)))))) (.r rfl rfl rfl (.r rfl rfl rfl (.r rfl rfl rfl .n))) rfl rfl rfl) ?_
   rintro ⟨v7, v8, v9⟩ s_ hr
   have h : fixnum_Wide_Div.b0 x0 x1 v7 v8 v9 = some s_ := hr
   unfold fixnum_Wide_Div.b0 at h
   refine W.seq ?_
   refine W.seq ?_
   refine W.pk ?_
   refine .m rfl rfl rfl rfl ?_
   refine .v rfl rfl (OpL.binI rfl rfl rfl rfl) ?_
   refine .nil ?_
   refine W.cond rfl (fun q20 => ?_) (fun q20 => ?_)
   ·have h := ifT q20 h
    refine W.skip ?_
    refine W.seq ?_
    refine W.block ?_
    refine W.seq ?_
    refine W.pk ?_
    refine .m rfl rfl rfl rfl ?_
    refine .v rfl rfl (O.shr (by decide) rfl rfl rfl) ?_
    refine .a rfl rfl rfl rfl ?_
    refine .nil ?_
    refine W.seq ?_
    refine W.pk ?_
    refine .m rfl rfl rfl rfl ?_
    refine .v rfl rfl (O.shl (by decide) rfl rfl rfl) ?_
    refine .v rfl rfl (O.fld fld99_1 rfl rfl rfl) ?_
    refine .v rfl rfl (O.ld (y := .imm (.val (.int .u64 x0.Lo))) ty95 rfl rfl rfl) ?_
    refine .m rfl rfl rfl rfl ?_
    refine .v rfl rfl (O.conv h3 u124 rfl rfl) ?_
    refine .v rfl rfl (O.shr (wrapU _ rfl _) rfl rfl rfl) ?_
    refine .v rfl rfl (OpL.binI rfl rfl rfl rfl) ?_
    refine .v rfl rfl (OpL.binI rfl rfl rfl rfl) ?_
    refine .a rfl rfl rfl rfl ?_
    refine .nil ?_
    refine W.seq ?_
    refine W.fork (mkSt [(1, some (.imm (.val (.int .u64 x1)))), (2, some (.ptr 1000 0)), (4, some (.ptr 1001 0)), (6, some (.ptr 1002 0)), (7, some (.imm (.val (.int .u64 (bits .or .u64 (shlI .u64 v7 1) (bits .and .u64 (shrI .u64 x0.Lo (IntKind.wrap .u64 v8)) 1)))))), (8, some (.i v8)), (43, some (.b (((shrI .u64 v7 63) == 1) || (decide ((bits .or .u64 (shlI .u64 v7 1) (bits .and .u64 (shrI .u64 x0.Lo (IntKind.wrap .u64 v8)) 1)) ≥ x1)))))] [(1000, some (.box [.imm (.val (.int .u64 x0.Hi)), .imm (.val (.int .u64 x0.Lo))])), (1001, some (.box [.imm (.val (.int .u64 0)), .imm (.val (.int .u64 0))])), (1002, some (.box [.imm (.val (.int .u64 (IntKind.wrap .u64 (Int.tdiv x0.Hi x1)))), .imm (.val (.int .u64 v9))]))] 1003) ?_ ?_
    ·refine W.cond rfl (fun q22 => ?_) (fun q22 => ?_)
     ·have h := ifT q22 h
      refine W.seq ?_
      refine W.pk ?_
      refine .m rfl rfl rfl rfl ?_
      refine .m rfl rfl rfl rfl ?_
      refine .v rfl rfl (OpL.binI rfl rfl rfl rfl) ?_
      refine .a rfl rfl rfl rfl ?_
      refine .nil ?_
      refine W.pk ?_
      refine .v rfl rfl (O.fld fld99_1 rfl rfl rfl) ?_
      refine .v rfl rfl (O.ld (y := .imm (.val (.int .u64 v9))) ty95 rfl rfl rfl) ?_
      refine .m rfl rfl rfl rfl ?_
      refine .v rfl rfl (O.conv h3 u124 rfl rfl) ?_
      refine .v rfl rfl (O.shl (wrapU _ rfl _) rfl rfl rfl) ?_
      refine .v rfl rfl (OpL.binI rfl rfl rfl rfl) ?_
      refine .v rfl rfl (O.fld fld99_1 rfl rfl rfl) ?_
      refine .s rfl rfl (O.st ty95 rfl rfl rfl rfl rfl rfl rfl rfl rfl rfl (all' := [.imm (.val (.int .u64 (IntKind.wrap .u64 (Int.tdiv x0.Hi x1)))), .imm (.val (.int .u64 (bits .or .u64 v9 (shlI .u64 1 (IntKind.wrap .u64 v8)))))]) rfl) ?_
      refine .nil ?_
      refine W.pk ?_
      refine .m rfl rfl rfl rfl ?_
      refine .v rfl rfl (OpL.binI rfl rfl rfl rfl) ?_
      refine .a rfl rfl rfl rfl ?_
      refine .nil ?_
      cases h
      exact rdN (Gives.mkR [] (.r rfl rfl (.r rfl rfl (.r rfl rfl (.r rfl rfl (.r rfl rfl (.r rfl rfl .n)))))) (.r rfl rfl rfl (.r rfl rfl rfl (.r rfl rfl rfl .n))) rfl rfl rfl)
     ·have h := ifF q22 h
      refine W.skip ?_
      refine W.pk ?_
      refine .m rfl rfl rfl rfl ?_
      refine .v rfl rfl (OpL.binI rfl rfl rfl rfl) ?_
      refine .a rfl rfl rfl rfl ?_
      refine .nil ?_
      cases h
      exact rdN (Gives.mkR [] (.r rfl rfl (.r rfl rfl (.r rfl rfl (.r rfl rfl (.r rfl rfl (.r rfl rfl .n)))))) (.r rfl rfl rfl (.r rfl rfl rfl (.r rfl rfl rfl .n))) rfl rfl rfl)
    ·clear h
     rcases tf ((shrI .u64 v7 63) == 1) with g21 | g21
     ·refine W.pk ?_
      refine .m rfl rfl rfl rfl ?_
      refine .v rfl rfl (OpL.binI rfl rfl rfl rfl) ?_
      refine .m rfl rfl rfl rfl ?_
      refine .x rfl (unmet rfl rfl rfl g21) ?_
      refine .x rfl (unmet rfl rfl rfl g21) ?_
      refine .x rfl (unmet rfl rfl rfl g21) ?_
      refine .v rfl rfl (O.pickT g21 rfl rfl rfl) ?_
      refine .nil ?_
      exact toN (Gives.mkR [] (.r rfl rfl (.r rfl rfl (.r rfl rfl (.r rfl rfl (.r rfl rfl (.r rfl rfl (.c rfl (sbb (by simp only [g21, Bool.true_or, Bool.or_true, Bool.false_or, Bool.or_false, Bool.true_and, Bool.and_true, Bool.false_and, Bool.and_false, Bool.not_true, Bool.not_false, cond_true, cond_false])) rfl .n))))))) (.r rfl rfl rfl (.r rfl rfl rfl (.r rfl rfl rfl .n))) rfl rfl rfl)
     ·refine W.pk ?_
      refine .m rfl rfl rfl rfl ?_
      refine .v rfl rfl (OpL.binI rfl rfl rfl rfl) ?_
      refine .m rfl rfl rfl rfl ?_
      refine .m rfl (met rfl rfl rfl g21) rfl rfl ?_
      refine .m rfl (met rfl rfl rfl g21) rfl rfl ?_
      refine .v rfl (met rfl rfl rfl g21) (OpL.binI rfl rfl rfl rfl) ?_
      refine .v rfl rfl (O.pickF g21 rfl rfl rfl) ?_
      refine .nil ?_
      exact toN (Gives.mkR [] (.r rfl rfl (.r rfl rfl (.r rfl rfl (.r rfl rfl (.r rfl rfl (.r rfl rfl (.c rfl (sbb (by simp only [g21, Bool.true_or, Bool.or_true, Bool.false_or, Bool.or_false, Bool.true_and, Bool.and_true, Bool.false_and, Bool.and_false, Bool.not_true, Bool.not_false, cond_true, cond_false])) rfl .n))))))) (.r rfl rfl rfl (.r rfl rfl rfl (.r rfl rfl rfl .n))) rfl rfl rfl)
   ·have h := ifF q20 h
    refine W.exit ?_
    cases h
    refine rdX fun e_ => ?_
    subst e_
    repeat with_reducible refine thru ?_
    refine hit ?_
    exact toN (Gives.mkR [] (.r rfl rfl (.r rfl rfl (.r rfl rfl .n))) (.r rfl rfl rfl (.r rfl rfl rfl .n)) rfl rfl rfl)

noncomputable def fixnum_up.f (x0 : Int) (x1 : Int) (x2 : Int) (x3 : Bool) (x4 : Int) : Option (Bool) :=
  if (x1 == 0) = true then
    some false
  else
    if (x4 == 1) = true then
      some x3
    else
      if (x4 == 2) = true then
        some (!x3)
      else
        if (x4 == 4) = true then
          some ((decide (x1 > (IntKind.wrap .u64 (x2 - x1)))) || ((x1 == (IntKind.wrap .u64 (x2 - x1))) && ((bits .and .u64 x0 1) == 1)))
        else
          some false
set_option maxRecDepth 100000 in
set_option maxHeartbeats 4000000 in
theorem fixnum_up.ok {x0 : Int} {x1 : Int} {x2 : Int} {x3 : Bool} {x4 : Int} {r : Bool} (h : fixnum_up.f x0 x1 x2 x3 x4 = some r) : Pm.Spec prog 58 [.imm (.val (.int .u64 x0)), .imm (.val (.int .u64 x1)), .imm (.val (.int .u64 x2)), .imm (.val (.bool x3)), .imm (.val (.int .i64 x4))] (.imm (.val (.bool r))) [none, none, none, none, none] := by
 unfold fixnum_up.f at h
 refine Pm.Spec.of_body Try.func58 rfl (by kernel_rfl) (Nat.le_of_ble_eq_true rfl) (Nat.le_of_ble_eq_true rfl) ?_
 refine W.ghost (σ' := (mkSt [(0, some (.imm (.val (.int .u64 x0)))), (1, some (.imm (.val (.int .u64 x1)))), (2, some (.imm (.val (.int .u64 x2)))), (3, some (.b x3)), (4, some (.i x4))] [] 1000)) (Gives.entry (.c rfl (.c rfl (.c rfl (.c rfl (.c rfl .n))))) .n) ?_
 refine W.seq ?_
 refine W.pk ?_
 refine .a rfl rfl rfl rfl ?_
 refine .nil ?_
 refine W.seq ?_
 refine W.seq ?_
 refine W.pk ?_
 refine .m rfl rfl rfl rfl ?_
 refine .v rfl rfl (OpL.binI rfl rfl rfl rfl) ?_
 refine .nil ?_
 refine W.cond rfl (fun q1 => ?_) (fun q1 => ?_)
 ·have h := ifT q1 h
  refine W.seq ?_
  refine W.pk ?_
  refine .a rfl rfl rfl rfl ?_
  refine .nil ?_
  refine W.ret ?_
  cases h
  exact leaves (.inr rfl) rfl (.imm _) (cN (cN (cN (cN (cN .nil))))) rfl rfl
 ·have h := ifF q1 h
  refine W.skip ?_
  refine W.seq ?_
  refine W.seq ?_
  refine W.pk ?_
  refine .m rfl rfl rfl rfl ?_
  refine .nil ?_
  refine W.block ?_
  refine W.seq ?_
  refine W.pk ?_
  refine .v rfl rfl (OpL.binI rfl rfl rfl rfl) ?_
  refine .a rfl rfl rfl rfl ?_
  refine .nil ?_
  refine W.cond rfl (fun q2 => ?_) (fun q2 => ?_)
  ·have h := ifT q2 h
   refine W.seq ?_
   refine W.pk ?_
   refine .m rfl rfl rfl rfl ?_
   refine .a rfl rfl rfl rfl ?_
   refine .nil ?_
   refine W.ret ?_
   cases h
   exact leaves (.inr rfl) rfl (.imm _) (cN (cN (cN (cN (cN .nil))))) rfl rfl
  ·have h := ifF q2 h
   refine W.seq ?_
   refine W.pk ?_
   refine .v rfl rfl (OpL.binI rfl rfl rfl rfl) ?_
   refine .a rfl rfl rfl rfl ?_
   refine .nil ?_
   refine W.cond rfl (fun q3 => ?_) (fun q3 => ?_)
   ·have h := ifT q3 h
    refine W.seq ?_
    refine W.pk ?_
    refine .m rfl rfl rfl rfl ?_
    refine .v rfl rfl (OpL.unV rfl rfl rfl) ?_
    refine .a rfl rfl rfl rfl ?_
    refine .nil ?_
    refine W.ret ?_
    cases h
    exact leaves (.inr rfl) rfl (.imm _) (cN (cN (cN (cN (cN .nil))))) rfl rfl
   ·have h := ifF q3 h
    refine W.seq ?_
    refine W.pk ?_
    refine .v rfl rfl (OpL.binI rfl rfl rfl rfl) ?_
    refine .a rfl rfl rfl rfl ?_
    refine .nil ?_
    refine W.cond rfl (fun q4 => ?_) (fun q4 => ?_)
    ·have h := ifT q4 h
     refine W.seq ?_
     refine W.pk ?_
     refine .m rfl rfl rfl rfl ?_
     refine .m rfl rfl rfl rfl ?_
     refine .v rfl rfl (OpL.binI rfl rfl rfl rfl) ?_
     refine .a rfl rfl rfl rfl ?_
     refine .nil ?_
     refine W.seq ?_
     refine W.fork (mkSt [(10, some (.b ((decide (x1 > (IntKind.wrap .u64 (x2 - x1)))) || ((x1 == (IntKind.wrap .u64 (x2 - x1))) && ((bits .and .u64 x0 1) == 1)))))] [] 1000) ?_ ?_
     ·refine W.ret ?_
      cases h
      exact leaves (.inr rfl) rfl (.imm _) (cN (cN (cN (cN (cN .nil))))) rfl rfl
     ·clear h
      rcases tf (decide (x1 > (IntKind.wrap .u64 (x2 - x1)))) with g5 | g5
      ·refine W.pk ?_
       refine .m rfl rfl rfl rfl ?_
       refine .m rfl rfl rfl rfl ?_
       refine .v rfl rfl (OpL.binI rfl rfl rfl rfl) ?_
       refine .m rfl rfl rfl rfl ?_
       refine .x rfl (unmet rfl rfl rfl g5) ?_
       refine .x rfl (unmet rfl rfl rfl g5) ?_
       refine .x rfl (unmet rfl rfl rfl g5) ?_
       refine .x rfl (unmet rfl rfl rfl g5) ?_
       refine .x rfl (unmetU rfl rfl rfl) ?_
       refine .x rfl (unmetU rfl rfl rfl) ?_
       refine .x rfl (unmetU rfl rfl rfl) ?_
       refine .x rfl (unmet rfl rfl rfl g5) ?_
       refine .v rfl rfl (O.pickT g5 rfl rfl rfl) ?_
       refine .a rfl rfl rfl rfl ?_
       refine .nil ?_
       exact toN (Gives.mkR [] (.c rfl (sbb (by simp only [g5, Bool.true_or, Bool.or_true, Bool.false_or, Bool.or_false, Bool.true_and, Bool.and_true, Bool.false_and, Bool.and_false, Bool.not_true, Bool.not_false, cond_true, cond_false])) rfl .n) .n rfl rfl rfl)
      ·rcases tf (x1 == (IntKind.wrap .u64 (x2 - x1))) with g6 | g6
       ·refine W.pk ?_
        refine .m rfl rfl rfl rfl ?_
        refine .m rfl rfl rfl rfl ?_
        refine .v rfl rfl (OpL.binI rfl rfl rfl rfl) ?_
        refine .m rfl rfl rfl rfl ?_
        refine .m rfl (met rfl rfl rfl g5) rfl rfl ?_
        refine .m rfl (met rfl rfl rfl g5) rfl rfl ?_
        refine .v rfl (met rfl rfl rfl g5) (OpL.binI rfl rfl rfl rfl) ?_
        refine .m rfl (met rfl rfl rfl g5) rfl rfl ?_
        refine .m rfl (met rfl rfl rfl g6) rfl rfl ?_
        refine .v rfl (met rfl rfl rfl g6) (OpL.binI rfl rfl rfl rfl) ?_
        refine .v rfl (met rfl rfl rfl g6) (OpL.binI rfl rfl rfl rfl) ?_
        refine .v rfl (met rfl rfl rfl g5) (O.pickT g6 rfl rfl rfl) ?_
        refine .v rfl rfl (O.pickF g5 rfl rfl rfl) ?_
        refine .a rfl rfl rfl rfl ?_
        refine .nil ?_
        exact toN (Gives.mkR [] (.c rfl (sbb (by first | (simp only [g5, g6, Bool.true_or, Bool.or_true, Bool.false_or, Bool.or_false, Bool.true_and, Bool.and_true, Bool.false_and, Bool.and_false, Bool.not_true, Bool.not_false, cond_true, cond_false]; done) | (repeat (first | rw [g5] | rw [g6])) <;> simp only [Bool.true_or, Bool.or_true, Bool.false_or, Bool.or_false, Bool.true_and, Bool.and_true, Bool.false_and, Bool.and_false, Bool.not_true, Bool.not_false, cond_true, cond_false])) rfl .n) .n rfl rfl rfl)
       ·refine W.pk ?_
        refine .m rfl rfl rfl rfl ?_
        refine .m rfl rfl rfl rfl ?_
        refine .v rfl rfl (OpL.binI rfl rfl rfl rfl) ?_
        refine .m rfl rfl rfl rfl ?_
        refine .m rfl (met rfl rfl rfl g5) rfl rfl ?_
        refine .m rfl (met rfl rfl rfl g5) rfl rfl ?_
        refine .v rfl (met rfl rfl rfl g5) (OpL.binI rfl rfl rfl rfl) ?_
        refine .m rfl (met rfl rfl rfl g5) rfl rfl ?_
        refine .x rfl (unmet rfl rfl rfl g6) ?_
        refine .x rfl (unmet rfl rfl rfl g6) ?_
        refine .x rfl (unmet rfl rfl rfl g6) ?_
        refine .v rfl (met rfl rfl rfl g5) (O.pickF g6 rfl rfl rfl) ?_
        refine .v rfl rfl (O.pickF g5 rfl rfl rfl) ?_
        refine .a rfl rfl rfl rfl ?_
        refine .nil ?_
        exact toN (Gives.mkR [] (.c rfl (sbb (by first | (simp only [g5, g6, Bool.true_or, Bool.or_true, Bool.false_or, Bool.or_false, Bool.true_and, Bool.and_true, Bool.false_and, Bool.and_false, Bool.not_true, Bool.not_false, cond_true, cond_false]; done) | (repeat (first | rw [g5] | rw [g6])) <;> simp only [Bool.true_or, Bool.or_true, Bool.false_or, Bool.or_false, Bool.true_and, Bool.and_true, Bool.false_and, Bool.and_false, Bool.not_true, Bool.not_false, cond_true, cond_false])) rfl .n) .n rfl rfl rfl)
    ·have h := ifF q4 h
     refine W.skip ?_
     refine W.seq ?_
     refine W.pk ?_
     refine .a rfl rfl rfl rfl ?_
     refine .nil ?_
     refine W.ret ?_
     cases h
     exact leaves (.inr rfl) rfl (.imm _) (cN (cN (cN (cN (cN .nil))))) rfl rfl

noncomputable def fixnum_signed.f (x0 : Int) (x1 : Bool) : Option (Int × Int) :=
  if (x1 && (x0 == 9223372036854775808)) = true then
    some (-9223372036854775808, 0)
  else
    if (decide (x0 ≥ 9223372036854775808)) = true then
      some (0, 9)
    else
      if x1 = true then
        some ((IntKind.wrap .i64 (0 - (IntKind.wrap .i64 x0))), 0)
      else
        some ((IntKind.wrap .i64 x0), 0)
set_option maxRecDepth 100000 in
set_option maxHeartbeats 4000000 in
theorem fixnum_signed.ok {x0 : Int} {x1 : Bool} {r : Int × Int} (h : fixnum_signed.f x0 x1 = some r) : Pm.Spec prog 59 [.imm (.val (.int .u64 x0)), .imm (.val (.bool x1))] (.tup [.imm (.val (.int .i64 r.1)), .imm (.val (.int .i64 r.2))]) [none, none] := by
 unfold fixnum_signed.f at h
 refine Pm.Spec.of_body Try.func59 rfl (by kernel_rfl) (Nat.le_of_ble_eq_true rfl) (Nat.le_of_ble_eq_true rfl) ?_
 refine W.ghost (σ' := (mkSt [(0, some (.imm (.val (.int .u64 x0)))), (1, some (.b x1))] [] 1000)) (Gives.entry (.c rfl (.c rfl .n)) .n) ?_
 refine W.seq ?_
 refine W.pk ?_
 refine .a rfl rfl rfl rfl ?_
 refine .a rfl rfl rfl rfl ?_
 refine .nil ?_
 refine W.seq ?_
 refine W.block ?_
 refine W.seq ?_
 refine W.fork (mkSt [(0, some (.imm (.val (.int .u64 x0)))), (1, some (.b x1)), (6, some (.b (x1 && (x0 == 9223372036854775808))))] [] 1000) ?_ ?_
 ·refine W.cond rfl (fun q2 => ?_) (fun q2 => ?_)
  ·have h := ifT q2 h
   refine W.seq ?_
   refine W.pk ?_
   refine .a rfl rfl rfl rfl ?_
   refine .a rfl rfl rfl rfl ?_
   refine .nil ?_
   refine W.ret ?_
   cases h
   exact leaves (.inr rfl) rfl (.tup _ _ _ _ (cC (.imm _) (cC (.imm _) .nil))) (cN (cN .nil)) rfl rfl
  ·have h := ifF q2 h
   refine W.seq ?_
   refine W.pk ?_
   refine .m rfl rfl rfl rfl ?_
   refine .v rfl rfl (OpL.binI rfl rfl rfl rfl) ?_
   refine .a rfl rfl rfl rfl ?_
   refine .nil ?_
   refine W.cond rfl (fun q3 => ?_) (fun q3 => ?_)
   ·have h := ifT q3 h
    refine W.seq ?_
    refine W.pk ?_
    refine .a rfl rfl rfl rfl ?_
    refine .a rfl rfl rfl rfl ?_
    refine .nil ?_
    refine W.ret ?_
    cases h
    exact leaves (.inr rfl) rfl (.tup _ _ _ _ (cC (.imm _) (cC (.imm _) .nil))) (cN (cN .nil)) rfl rfl
   ·have h := ifF q3 h
    refine W.seq ?_
    refine W.pk ?_
    refine .m rfl rfl rfl rfl ?_
    refine .a rfl rfl rfl rfl ?_
    refine .nil ?_
    refine W.cond rfl (fun q4 => ?_) (fun q4 => ?_)
    ·have h := ifT q4 h
     refine W.seq ?_
     refine W.pk ?_
     refine .m rfl rfl rfl rfl ?_
     refine .v rfl rfl (O.conv h95 u3 rfl rfl) ?_
     refine .v rfl rfl (OpL.unV rfl rfl rfl) ?_
     refine .a rfl rfl rfl rfl ?_
     refine .a rfl rfl rfl rfl ?_
     refine .nil ?_
     refine W.ret ?_
     cases h
     exact leaves (.inr rfl) rfl (.tup _ _ _ _ (cC (.imm _) (cC (.imm _) .nil))) (cN (cN .nil)) rfl rfl
    ·have h := ifF q4 h
     refine W.skip ?_
     refine W.seq ?_
     refine W.pk ?_
     refine .m rfl rfl rfl rfl ?_
     refine .v rfl rfl (O.conv h95 u3 rfl rfl) ?_
     refine .a rfl rfl rfl rfl ?_
     refine .a rfl rfl rfl rfl ?_
     refine .nil ?_
     refine W.ret ?_
     cases h
     exact leaves (.inr rfl) rfl (.tup _ _ _ _ (cC (.imm _) (cC (.imm _) .nil))) (cN (cN .nil)) rfl rfl
 ·clear h
  rcases tf x1 with g1 | g1
  ·refine W.pk ?_
   refine .m rfl rfl rfl rfl ?_
   refine .m rfl rfl rfl rfl ?_
   refine .m rfl (met rfl rfl rfl g1) rfl rfl ?_
   refine .v rfl (met rfl rfl rfl g1) (OpL.binI rfl rfl rfl rfl) ?_
   refine .v rfl rfl (O.pickT g1 rfl rfl rfl) ?_
   refine .a rfl rfl rfl rfl ?_
   refine .nil ?_
   exact toN (Gives.mkR [] (.r rfl rfl (.r rfl rfl (.c rfl (sbb (by simp only [g1, Bool.true_or, Bool.or_true, Bool.false_or, Bool.or_false, Bool.true_and, Bool.and_true, Bool.false_and, Bool.and_false, Bool.not_true, Bool.not_false, cond_true, cond_false])) rfl .n))) .n rfl rfl rfl)
  ·refine W.pk ?_
   refine .m rfl rfl rfl rfl ?_
   refine .m rfl rfl rfl rfl ?_
   refine .x rfl (unmet rfl rfl rfl g1) ?_
   refine .x rfl (unmet rfl rfl rfl g1) ?_
   refine .v rfl rfl (O.pickF g1 rfl rfl rfl) ?_
   refine .a rfl rfl rfl rfl ?_
   refine .nil ?_
   exact toN (Gives.mkR [] (.r rfl rfl (.r rfl rfl (.c rfl (sbb (by simp only [g1, Bool.true_or, Bool.or_true, Bool.false_or, Bool.or_false, Bool.true_and, Bool.and_true, Bool.false_and, Bool.and_false, Bool.not_true, Bool.not_false, cond_true, cond_false])) rfl .n))) .n rfl rfl rfl)

noncomputable def fixnum_MulDiv.f (x0 : Int) (x1 : Int) (x2 : Int) (x3 : Int) : Option (Int × Int) :=
  if (((x2 == 0) || (decide (x3 < 1))) || (decide (x3 > 4))) = true then
    some (0, 1)
  else
    (fixnum_size.f x0).bind fun t4 =>
    (fixnum_size.f x1).bind fun t6 =>
    (fixnum_size.f x2).bind fun t8 =>
    (fixnum_Mul.f t4.1 t6.1).bind fun t10 =>
    (fixnum_Wide_Div.f t10 t8.1).bind fun t12 =>
    if (decide (t12.1.Hi > 0)) = true then
      some (0, 9)
    else
      (fixnum_up.f t12.1.Lo t12.2 t8.1 (!((!(t4.2 == t6.2)) == t8.2)) x3).bind fun t15 =>
      ((
        if t15 = true then
          if ((IntKind.wrap .u64 (t12.1.Lo + 1)) == 0) = true then
            some (.inl (0, 9))
          else
            some (.inr (IntKind.wrap .u64 (t12.1.Lo + 1)))
        else
          some (.inr t12.1.Lo) : Option ((Int × Int) ⊕ Int))).bind fun o20 =>
      match o20 with
      | .inl r28 => some r28
      | .inr w22 =>
        (fixnum_signed.f w22 (!((!(t4.2 == t6.2)) == t8.2))).bind fun t26 =>
        some (t26.1, t26.2)
set_option maxRecDepth 100000 in
set_option maxHeartbeats 4000000 in
theorem fixnum_MulDiv.ok {x0 : Int} {x1 : Int} {x2 : Int} {x3 : Int} {r : Int × Int} (h : fixnum_MulDiv.f x0 x1 x2 x3 = some r) : Pm.Spec prog 35 [.imm (.val (.int .i64 x0)), .imm (.val (.int .i64 x1)), .imm (.val (.int .i64 x2)), .imm (.val (.int .i64 x3))] (.tup [.imm (.val (.int .i64 r.1)), .imm (.val (.int .i64 r.2))]) [none, none, none, none] := by
 unfold fixnum_MulDiv.f at h
 refine Pm.Spec.of_body Try.func35 rfl (by kernel_rfl) (Nat.le_of_ble_eq_true rfl) (Nat.le_of_ble_eq_true rfl) ?_
 refine W.ghost (σ' := (mkSt [(0, some (.i x0)), (1, some (.i x1)), (2, some (.i x2)), (3, some (.i x3))] [] 1000)) (Gives.entry (.c rfl (.c rfl (.c rfl (.c rfl .n)))) .n) ?_
 refine W.seq ?_
 refine W.pk ?_
 refine .a rfl rfl rfl rfl ?_
 refine .a rfl rfl rfl rfl ?_
 refine .nil ?_
 refine W.seq ?_
 refine W.seq ?_
 refine W.fork (mkSt [(0, some (.i x0)), (1, some (.i x1)), (2, some (.i x2)), (3, some (.i x3)), (28, some (.b (((x2 == 0) || (decide (x3 < 1))) || (decide (x3 > 4)))))] [] 1000) ?_ ?_
 ·refine W.cond rfl (fun q3 => ?_) (fun q3 => ?_)
  ·have h := ifT q3 h
   refine W.seq ?_
   refine W.pk ?_
   refine .a rfl rfl rfl rfl ?_
   refine .a rfl rfl rfl rfl ?_
   refine .nil ?_
   refine W.ret ?_
   cases h
   exact leaves (.inr rfl) rfl (.tup _ _ _ _ (cC (.imm _) (cC (.imm _) .nil))) (cN (cN (cN (cN .nil)))) rfl rfl
  ·have h := ifF q3 h
   refine W.skip ?_
   refine W.seq ?_
   obtain ⟨t4, b5, h⟩ := bnd1 h
   refine W.pk ?_
   refine .m rfl rfl rfl rfl ?_
   refine .call (.tup [.imm (.val (.int .u64 t4.1)), .b t4.2]) [] 0 (fixnum_size.ok b5) rfl rfl rfl ca55 rfl rfl (cC (.imm _) .nil) rfl rfl rfl rfl rfl ?_
   refine .m rfl rfl rfl rfl ?_
   refine .v rfl rfl (OpL.extract rfl rfl rfl) ?_
   refine .v rfl rfl (OpL.extract rfl rfl rfl) ?_
   refine .a rfl rfl rfl rfl ?_
   refine .a rfl rfl rfl rfl ?_
   refine .nil ?_
   refine W.seq ?_
   obtain ⟨t6, b7, h⟩ := bnd1 h
   refine W.pk ?_
   refine .m rfl rfl rfl rfl ?_
   refine .call (.tup [.imm (.val (.int .u64 t6.1)), .b t6.2]) [] 0 (fixnum_size.ok b7) rfl rfl rfl ca55 rfl rfl (cC (.imm _) .nil) rfl rfl rfl rfl rfl ?_
   refine .m rfl rfl rfl rfl ?_
   refine .v rfl rfl (OpL.extract rfl rfl rfl) ?_
   refine .v rfl rfl (OpL.extract rfl rfl rfl) ?_
   refine .a rfl rfl rfl rfl ?_
   refine .a rfl rfl rfl rfl ?_
   refine .nil ?_
   refine W.seq ?_
   obtain ⟨t8, b9, h⟩ := bnd1 h
   refine W.pk ?_
   refine .m rfl rfl rfl rfl ?_
   refine .call (.tup [.imm (.val (.int .u64 t8.1)), .b t8.2]) [] 0 (fixnum_size.ok b9) rfl rfl rfl ca55 rfl rfl (cC (.imm _) .nil) rfl rfl rfl rfl rfl ?_
   refine .m rfl rfl rfl rfl ?_
   refine .v rfl rfl (OpL.extract rfl rfl rfl) ?_
   refine .v rfl rfl (OpL.extract rfl rfl rfl) ?_
   refine .a rfl rfl rfl rfl ?_
   refine .a rfl rfl rfl rfl ?_
   refine .nil ?_
   refine W.seq ?_
   refine W.pk ?_
   refine .m rfl rfl rfl rfl ?_
   refine .m rfl rfl rfl rfl ?_
   refine .v rfl rfl (OpL.neB rfl u4 rfl rfl) ?_
   refine .m rfl rfl rfl rfl ?_
   refine .v rfl rfl (OpL.neB rfl u4 rfl rfl) ?_
   refine .a rfl rfl rfl rfl ?_
   refine .nil ?_
   refine W.seq ?_
   obtain ⟨t10, b11, h⟩ := bnd1 h
   obtain ⟨t12, b13, h⟩ := bnd1 h
   refine W.pk ?_
   refine .m rfl rfl rfl rfl ?_
   refine .m rfl rfl rfl rfl ?_
   refine .call (.agg [.imm (.val (.int .u64 t10.Hi)), .imm (.val (.int .u64 t10.Lo))]) [] 0 (fixnum_Mul.ok b11) rfl rfl rfl ca56 rfl rfl (cC (.imm _) (cC (.imm _) .nil)) rfl rfl rfl rfl rfl ?_
   refine .m rfl rfl rfl rfl ?_
   refine .call (.tup [.agg [.imm (.val (.int .u64 t12.1.Hi)), .imm (.val (.int .u64 t12.1.Lo))], .imm (.val (.int .u64 t12.2))]) [] 0 (fixnum_Wide_Div.ok b13) rfl rfl rfl ca57 rfl rfl (cC (.agg _ _ _ _ (cC (.imm _) (cC (.imm _) .nil))) (cC (.imm _) .nil)) rfl rfl rfl rfl rfl ?_
   refine .m rfl rfl rfl rfl ?_
   refine .v rfl rfl (OpL.extract rfl rfl rfl) ?_
   refine .v rfl rfl (OpL.extract rfl rfl rfl) ?_
   refine .t rfl rfl (O.alloc z99 rfl) ?_
   refine .s rfl rfl (O.st ty99 rfl rfl rfl rfl rfl rfl rfl rfl rfl rfl (all' := [.imm (.val (.int .u64 t12.1.Hi)), .imm (.val (.int .u64 t12.1.Lo))]) rfl) ?_
   refine .a rfl rfl rfl rfl ?_
   refine .nil ?_
   refine W.seq ?_
   refine W.seq ?_
   refine W.pk ?_
   refine .v rfl rfl (O.fld fld99_0 rfl rfl rfl) ?_
   refine .v rfl rfl (O.ld (y := .imm (.val (.int .u64 t12.1.Hi))) ty95 rfl rfl rfl) ?_
   refine .v rfl rfl (OpL.binI rfl rfl rfl rfl) ?_
   refine .nil ?_
   refine W.cond rfl (fun q14 => ?_) (fun q14 => ?_)
   ·have h := ifT q14 h
    refine W.seq ?_
    refine W.pk ?_
    refine .a rfl rfl rfl rfl ?_
    refine .a rfl rfl rfl rfl ?_
    refine .nil ?_
    refine W.ret ?_
    cases h
    exact leaves (.inr rfl) rfl (.tup _ _ _ _ (cC (.imm _) (cC (.imm _) .nil))) (cN (cN (cN (cN .nil)))) rfl rfl
   ·have h := ifF q14 h
    refine W.skip ?_
    refine W.seq ?_
    refine W.seq ?_
    obtain ⟨t15, b16, h⟩ := bnd1 h
    refine W.pk ?_
    refine .v rfl rfl (O.fld fld99_1 rfl rfl rfl) ?_
    refine .v rfl rfl (O.ld (y := .imm (.val (.int .u64 t12.1.Lo))) ty95 rfl rfl rfl) ?_
    refine .m rfl rfl rfl rfl ?_
    refine .m rfl rfl rfl rfl ?_
    refine .m rfl rfl rfl rfl ?_
    refine .m rfl rfl rfl rfl ?_
    refine .call (.b t15) [] 0 (fixnum_up.ok b16) rfl rfl rfl ca58 rfl rfl (cC (.imm _) (cC (.imm _) (cC (.imm _) (cC (.imm _) (cC (.imm _) .nil))))) rfl rfl rfl rfl rfl ?_
    refine .nil ?_
    obtain ⟨o20, b21, z23⟩ := bnd1 h
    refine W.fork2 (out := o20) (fun (w22 : Int) => mkSt [(16, some (.b (!((!(t4.2 == t6.2)) == t8.2)))), (17, some (.ptr 1000 0))] [(1000, some (.box [.imm (.val (.int .u64 t12.1.Hi)), .imm (.val (.int .u64 w22))]))] 1001) ?_ ?_
    ·clear h
     have h := b21
     refine W.cond rfl (fun q24 => ?_) (fun q24 => ?_)
     ·have h := ifT q24 h
      refine W.seq ?_
      refine W.pk ?_
      refine .v rfl rfl (O.fld fld99_1 rfl rfl rfl) ?_
      refine .v rfl rfl (O.ld (y := .imm (.val (.int .u64 t12.1.Lo))) ty95 rfl rfl rfl) ?_
      refine .v rfl rfl (OpL.binI rfl rfl rfl rfl) ?_
      refine .v rfl rfl (O.fld fld99_1 rfl rfl rfl) ?_
      refine .s rfl rfl (O.st ty95 rfl rfl rfl rfl rfl rfl rfl rfl rfl rfl (all' := [.imm (.val (.int .u64 t12.1.Hi)), .imm (.val (.int .u64 (IntKind.wrap .u64 (t12.1.Lo + 1))))]) rfl) ?_
      refine .nil ?_
      refine W.seq ?_
      refine W.pk ?_
      refine .v rfl rfl (O.fld fld99_1 rfl rfl rfl) ?_
      refine .v rfl rfl (O.ld (y := .imm (.val (.int .u64 (IntKind.wrap .u64 (t12.1.Lo + 1))))) ty95 rfl rfl rfl) ?_
      refine .v rfl rfl (OpL.binI rfl rfl rfl rfl) ?_
      refine .nil ?_
      refine W.cond rfl (fun q25 => ?_) (fun q25 => ?_)
      ·have h := ifT q25 h
       refine W.seq ?_
       refine W.pk ?_
       refine .a rfl rfl rfl rfl ?_
       refine .a rfl rfl rfl rfl ?_
       refine .nil ?_
       refine W.ret ?_
       cases h
       have h := z23
       dsimp only at h
       refine fkR ?_
       cases h
       exact leaves (.inr rfl) rfl (.tup _ _ _ _ (cC (.imm _) (cC (.imm _) .nil))) (cN (cN (cN (cN .nil)))) rfl rfl
      ·have h := ifF q25 h
       refine W.skip ?_
       cases h
       exact fkN (Gives.mkR [] (.r rfl rfl (.r rfl rfl .n)) (.r rfl rfl rfl .n) rfl rfl rfl)
     ·have h := ifF q24 h
      refine W.skip ?_
      cases h
      exact fkN (Gives.mkR [] (.r rfl rfl (.r rfl rfl .n)) (.r rfl rfl rfl .n) rfl rfl rfl)
    ·intro w22 e_
     subst e_
     clear h
     have h := z23
     dsimp only at h
     refine W.seq ?_
     obtain ⟨t26, b27, h⟩ := bnd1 h
     refine W.pk ?_
     refine .v rfl rfl (O.fld fld99_1 rfl rfl rfl) ?_
     refine .v rfl rfl (O.ld (y := .imm (.val (.int .u64 w22))) ty95 rfl rfl rfl) ?_
     refine .m rfl rfl rfl rfl ?_
     refine .call (.tup [.i t26.1, .i t26.2]) [] 0 (fixnum_signed.ok b27) rfl rfl rfl ca59 rfl rfl (cC (.imm _) (cC (.imm _) .nil)) rfl rfl rfl rfl rfl ?_
     refine .v rfl rfl (OpL.extract rfl rfl rfl) ?_
     refine .v rfl rfl (OpL.extract rfl rfl rfl) ?_
     refine .a rfl rfl rfl rfl ?_
     refine .a rfl rfl rfl rfl ?_
     refine .nil ?_
     refine W.ret ?_
     cases h
     exact leaves (.inr rfl) rfl (.tup _ _ _ _ (cC (.imm _) (cC (.imm _) .nil))) (cN (cN (cN (cN .nil)))) rfl rfl
 ·clear h
  rcases tf (x2 == 0) with g1 | g1
  ·refine W.pk ?_
   refine .m rfl rfl rfl rfl ?_
   refine .v rfl rfl (OpL.binI rfl rfl rfl rfl) ?_
   refine .m rfl rfl rfl rfl ?_
   refine .x rfl (unmet rfl rfl rfl g1) ?_
   refine .x rfl (unmet rfl rfl rfl g1) ?_
   refine .v rfl rfl (O.pickT g1 rfl rfl rfl) ?_
   refine .m rfl rfl rfl rfl ?_
   refine .x rfl (unmet rfl rfl rfl rfl) ?_
   refine .x rfl (unmet rfl rfl rfl rfl) ?_
   refine .v rfl rfl (O.pickT rfl rfl rfl rfl) ?_
   refine .nil ?_
   exact toN (Gives.mkR [] (.r rfl rfl (.r rfl rfl (.r rfl rfl (.r rfl rfl (.c rfl (sbb (by simp only [g1, Bool.true_or, Bool.or_true, Bool.false_or, Bool.or_false, Bool.true_and, Bool.and_true, Bool.false_and, Bool.and_false, Bool.not_true, Bool.not_false, cond_true, cond_false])) rfl .n))))) .n rfl rfl rfl)
  ·rcases tf (decide (x3 < 1)) with g2 | g2
   ·refine W.pk ?_
    refine .m rfl rfl rfl rfl ?_
    refine .v rfl rfl (OpL.binI rfl rfl rfl rfl) ?_
    refine .m rfl rfl rfl rfl ?_
    refine .m rfl (met rfl rfl rfl g1) rfl rfl ?_
    refine .v rfl (met rfl rfl rfl g1) (OpL.binI rfl rfl rfl rfl) ?_
    refine .v rfl rfl (O.pickF g1 rfl rfl rfl) ?_
    refine .m rfl rfl rfl rfl ?_
    refine .x rfl (unmet rfl rfl rfl g2) ?_
    refine .x rfl (unmet rfl rfl rfl g2) ?_
    refine .v rfl rfl (O.pickT g2 rfl rfl rfl) ?_
    refine .nil ?_
    exact toN (Gives.mkR [] (.r rfl rfl (.r rfl rfl (.r rfl rfl (.r rfl rfl (.c rfl (sbb (by first | (simp only [g1, g2, Bool.true_or, Bool.or_true, Bool.false_or, Bool.or_false, Bool.true_and, Bool.and_true, Bool.false_and, Bool.and_false, Bool.not_true, Bool.not_false, cond_true, cond_false]; done) | (repeat (first | rw [g1] | rw [g2])) <;> simp only [Bool.true_or, Bool.or_true, Bool.false_or, Bool.or_false, Bool.true_and, Bool.and_true, Bool.false_and, Bool.and_false, Bool.not_true, Bool.not_false, cond_true, cond_false])) rfl .n))))) .n rfl rfl rfl)
   ·refine W.pk ?_
    refine .m rfl rfl rfl rfl ?_
    refine .v rfl rfl (OpL.binI rfl rfl rfl rfl) ?_
    refine .m rfl rfl rfl rfl ?_
    refine .m rfl (met rfl rfl rfl g1) rfl rfl ?_
    refine .v rfl (met rfl rfl rfl g1) (OpL.binI rfl rfl rfl rfl) ?_
    refine .v rfl rfl (O.pickF g1 rfl rfl rfl) ?_
    refine .m rfl rfl rfl rfl ?_
    refine .m rfl (met rfl rfl rfl g2) rfl rfl ?_
    refine .v rfl (met rfl rfl rfl g2) (OpL.binI rfl rfl rfl rfl) ?_
    refine .v rfl rfl (O.pickF g2 rfl rfl rfl) ?_
    refine .nil ?_
    exact toN (Gives.mkR [] (.r rfl rfl (.r rfl rfl (.r rfl rfl (.r rfl rfl (.c rfl (sbb (by first | (simp only [g1, g2, Bool.true_or, Bool.or_true, Bool.false_or, Bool.or_false, Bool.true_and, Bool.and_true, Bool.false_and, Bool.and_false, Bool.not_true, Bool.not_false, cond_true, cond_false]; done) | (repeat (first | rw [g1] | rw [g2])) <;> simp only [Bool.true_or, Bool.or_true, Bool.false_or, Bool.or_false, Bool.true_and, Bool.and_true, Bool.false_and, Bool.and_false, Bool.not_true, Bool.not_false, cond_true, cond_false])) rfl .n))))) .n rfl rfl rfl)

noncomputable def asset_Worth.f (x0 : Int) (x1 : Int) : Option (Int × Int) :=
  if ((((decide (x0 < 0)) || (decide (x0 > 1125899906842624))) || (decide (x1 < 1))) || (decide (x1 > 4294967296))) = true then
    some (0, 1)
  else
    (fixnum_MulDiv.f x0 x1 1000000 1).bind fun t5 =>
    some (t5.1, t5.2)
set_option maxRecDepth 100000 in
set_option maxHeartbeats 4000000 in
theorem asset_Worth.ok {x0 : Int} {x1 : Int} {r : Int × Int} (h : asset_Worth.f x0 x1 = some r) : Pm.Spec prog 34 [.imm (.val (.int .i64 x0)), .imm (.val (.int .i64 x1))] (.tup [.imm (.val (.int .i64 r.1)), .imm (.val (.int .i64 r.2))]) [none, none] := by
 unfold asset_Worth.f at h
 refine Pm.Spec.of_body Try.func34 rfl (by kernel_rfl) (Nat.le_of_ble_eq_true rfl) (Nat.le_of_ble_eq_true rfl) ?_
 refine W.ghost (σ' := (mkSt [(0, some (.i x0)), (1, some (.i x1))] [] 1000)) (Gives.entry (.c rfl (.c rfl .n)) .n) ?_
 refine W.seq ?_
 refine W.pk ?_
 refine .a rfl rfl rfl rfl ?_
 refine .a rfl rfl rfl rfl ?_
 refine .nil ?_
 refine W.seq ?_
 refine W.seq ?_
 refine W.fork (mkSt [(0, some (.i x0)), (1, some (.i x1)), (19, some (.b ((((decide (x0 < 0)) || (decide (x0 > 1125899906842624))) || (decide (x1 < 1))) || (decide (x1 > 4294967296)))))] [] 1000) ?_ ?_
 ·refine W.cond rfl (fun q4 => ?_) (fun q4 => ?_)
  ·have h := ifT q4 h
   refine W.seq ?_
   refine W.pk ?_
   refine .a rfl rfl rfl rfl ?_
   refine .a rfl rfl rfl rfl ?_
   refine .nil ?_
   refine W.ret ?_
   cases h
   exact leaves (.inr rfl) rfl (.tup _ _ _ _ (cC (.imm _) (cC (.imm _) .nil))) (cN (cN .nil)) rfl rfl
  ·have h := ifF q4 h
   refine W.skip ?_
   refine W.seq ?_
   obtain ⟨t5, b6, h⟩ := bnd1 h
   refine W.pk ?_
   refine .m rfl rfl rfl rfl ?_
   refine .m rfl rfl rfl rfl ?_
   refine .call (.tup [.i t5.1, .i t5.2]) [] 0 (fixnum_MulDiv.ok b6) rfl rfl rfl ca35 rfl rfl (cC (.imm _) (cC (.imm _) (cC (.imm _) (cC (.imm _) .nil)))) rfl rfl rfl rfl rfl ?_
   refine .v rfl rfl (OpL.extract rfl rfl rfl) ?_
   refine .v rfl rfl (OpL.extract rfl rfl rfl) ?_
   refine .a rfl rfl rfl rfl ?_
   refine .a rfl rfl rfl rfl ?_
   refine .nil ?_
   refine W.ret ?_
   cases h
   exact leaves (.inr rfl) rfl (.tup _ _ _ _ (cC (.imm _) (cC (.imm _) .nil))) (cN (cN .nil)) rfl rfl
 ·clear h
  rcases tf (decide (x0 < 0)) with g1 | g1
  ·refine W.pk ?_
   refine .m rfl rfl rfl rfl ?_
   refine .v rfl rfl (OpL.binI rfl rfl rfl rfl) ?_
   refine .m rfl rfl rfl rfl ?_
   refine .x rfl (unmet rfl rfl rfl g1) ?_
   refine .x rfl (unmet rfl rfl rfl g1) ?_
   refine .v rfl rfl (O.pickT g1 rfl rfl rfl) ?_
   refine .m rfl rfl rfl rfl ?_
   refine .x rfl (unmet rfl rfl rfl rfl) ?_
   refine .x rfl (unmet rfl rfl rfl rfl) ?_
   refine .v rfl rfl (O.pickT rfl rfl rfl rfl) ?_
   refine .m rfl rfl rfl rfl ?_
   refine .x rfl (unmet rfl rfl rfl rfl) ?_
   refine .x rfl (unmet rfl rfl rfl rfl) ?_
   refine .v rfl rfl (O.pickT rfl rfl rfl rfl) ?_
   refine .nil ?_
   exact toN (Gives.mkR [] (.r rfl rfl (.r rfl rfl (.c rfl (sbb (by simp only [g1, Bool.true_or, Bool.or_true, Bool.false_or, Bool.or_false, Bool.true_and, Bool.and_true, Bool.false_and, Bool.and_false, Bool.not_true, Bool.not_false, cond_true, cond_false])) rfl .n))) .n rfl rfl rfl)
  ·rcases tf (decide (x0 > 1125899906842624)) with g2 | g2
   ·refine W.pk ?_
    refine .m rfl rfl rfl rfl ?_
    refine .v rfl rfl (OpL.binI rfl rfl rfl rfl) ?_
    refine .m rfl rfl rfl rfl ?_
    refine .m rfl (met rfl rfl rfl g1) rfl rfl ?_
    refine .v rfl (met rfl rfl rfl g1) (OpL.binI rfl rfl rfl rfl) ?_
    refine .v rfl rfl (O.pickF g1 rfl rfl rfl) ?_
    refine .m rfl rfl rfl rfl ?_
    refine .x rfl (unmet rfl rfl rfl g2) ?_
    refine .x rfl (unmet rfl rfl rfl g2) ?_
    refine .v rfl rfl (O.pickT g2 rfl rfl rfl) ?_
    refine .m rfl rfl rfl rfl ?_
    refine .x rfl (unmet rfl rfl rfl rfl) ?_
    refine .x rfl (unmet rfl rfl rfl rfl) ?_
    refine .v rfl rfl (O.pickT rfl rfl rfl rfl) ?_
    refine .nil ?_
    exact toN (Gives.mkR [] (.r rfl rfl (.r rfl rfl (.c rfl (sbb (by first | (simp only [g1, g2, Bool.true_or, Bool.or_true, Bool.false_or, Bool.or_false, Bool.true_and, Bool.and_true, Bool.false_and, Bool.and_false, Bool.not_true, Bool.not_false, cond_true, cond_false]; done) | (repeat (first | rw [g1] | rw [g2])) <;> simp only [Bool.true_or, Bool.or_true, Bool.false_or, Bool.or_false, Bool.true_and, Bool.and_true, Bool.false_and, Bool.and_false, Bool.not_true, Bool.not_false, cond_true, cond_false])) rfl .n))) .n rfl rfl rfl)
   ·rcases tf (decide (x1 < 1)) with g3 | g3
    ·refine W.pk ?_
     refine .m rfl rfl rfl rfl ?_
     refine .v rfl rfl (OpL.binI rfl rfl rfl rfl) ?_
     refine .m rfl rfl rfl rfl ?_
     refine .m rfl (met rfl rfl rfl g1) rfl rfl ?_
     refine .v rfl (met rfl rfl rfl g1) (OpL.binI rfl rfl rfl rfl) ?_
     refine .v rfl rfl (O.pickF g1 rfl rfl rfl) ?_
     refine .m rfl rfl rfl rfl ?_
     refine .m rfl (met rfl rfl rfl g2) rfl rfl ?_
     refine .v rfl (met rfl rfl rfl g2) (OpL.binI rfl rfl rfl rfl) ?_
     refine .v rfl rfl (O.pickF g2 rfl rfl rfl) ?_
     refine .m rfl rfl rfl rfl ?_
     refine .x rfl (unmet rfl rfl rfl g3) ?_
     refine .x rfl (unmet rfl rfl rfl g3) ?_
     refine .v rfl rfl (O.pickT g3 rfl rfl rfl) ?_
     refine .nil ?_
     exact toN (Gives.mkR [] (.r rfl rfl (.r rfl rfl (.c rfl (sbb (by first | (simp only [g1, g2, g3, Bool.true_or, Bool.or_true, Bool.false_or, Bool.or_false, Bool.true_and, Bool.and_true, Bool.false_and, Bool.and_false, Bool.not_true, Bool.not_false, cond_true, cond_false]; done) | (repeat (first | rw [g1] | rw [g2] | rw [g3])) <;> simp only [Bool.true_or, Bool.or_true, Bool.false_or, Bool.or_false, Bool.true_and, Bool.and_true, Bool.false_and, Bool.and_false, Bool.not_true, Bool.not_false, cond_true, cond_false])) rfl .n))) .n rfl rfl rfl)
    ·refine W.pk ?_
     refine .m rfl rfl rfl rfl ?_
     refine .v rfl rfl (OpL.binI rfl rfl rfl rfl) ?_
     refine .m rfl rfl rfl rfl ?_
     refine .m rfl (met rfl rfl rfl g1) rfl rfl ?_
     refine .v rfl (met rfl rfl rfl g1) (OpL.binI rfl rfl rfl rfl) ?_
     refine .v rfl rfl (O.pickF g1 rfl rfl rfl) ?_
     refine .m rfl rfl rfl rfl ?_
     refine .m rfl (met rfl rfl rfl g2) rfl rfl ?_
     refine .v rfl (met rfl rfl rfl g2) (OpL.binI rfl rfl rfl rfl) ?_
     refine .v rfl rfl (O.pickF g2 rfl rfl rfl) ?_
     refine .m rfl rfl rfl rfl ?_
     refine .m rfl (met rfl rfl rfl g3) rfl rfl ?_
     refine .v rfl (met rfl rfl rfl g3) (OpL.binI rfl rfl rfl rfl) ?_
     refine .v rfl rfl (O.pickF g3 rfl rfl rfl) ?_
     refine .nil ?_
     exact toN (Gives.mkR [] (.r rfl rfl (.r rfl rfl (.c rfl (sbb (by first | (simp only [g1, g2, g3, Bool.true_or, Bool.or_true, Bool.false_or, Bool.or_false, Bool.true_and, Bool.and_true, Bool.false_and, Bool.and_false, Bool.not_true, Bool.not_false, cond_true, cond_false]; done) | (repeat (first | rw [g1] | rw [g2] | rw [g3])) <;> simp only [Bool.true_or, Bool.or_true, Bool.false_or, Bool.or_false, Bool.true_and, Bool.and_true, Bool.false_and, Bool.and_false, Bool.not_true, Bool.not_false, cond_true, cond_false])) rfl .n))) .n rfl rfl rfl)
end Go.Proofs.Ytdcpdnfalnelkaa
