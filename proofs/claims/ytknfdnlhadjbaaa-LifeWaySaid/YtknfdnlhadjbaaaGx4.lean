/- Shows what functions of the program come to, each as a plain function: written by a program of the author's for this claim. -/
import Derived.Test.YtknfdnlhadjbaaaGx3
namespace Go.Proofs.Ytknfdnlhadjbaaa
open Go Go.Pm
set_option linter.unusedVariables false
set_option linter.unusedSimpArgs false
noncomputable def accrue_Run.b0 (x0 : Int) (x1 : List api_Reset) (x3 : Int) (v22 : Int) (v23 : Int) (v24 : Int) : Option ((Int × Int × Int) ⊕ ((accrue_Meter × Int) ⊕ (Int × Int))) :=
  if (decide (v22 < x3)) = true then
    (accrue_Rate.f x1 v22).bind fun t42 =>
    (accrue_Meter_Day.f (⟨v23, v24⟩ : accrue_Meter) x0 t42.1).bind fun t44 =>
    if (t44.2 != 0) = true then
      some (.inr (.inl ((⟨0, 0⟩ : accrue_Meter), t44.2)))
    else
      some (.inl ((IntKind.wrap .i64 (v22 + 1)), t44.1.Units, t44.1.Rest))
  else
    some (.inr (.inr (v23, v24)))
noncomputable def accrue_Run.r0 (x0 : Int) (x1 : List api_Reset) (x3 : Int) (s : Int × Int × Int) : Option ((Int × Int × Int) ⊕ ((accrue_Meter × Int) ⊕ (Int × Int))) := accrue_Run.b0 x0 x1 x3 s.1 s.2.1 s.2.2
noncomputable def accrue_Run.f (x0 : Int) (x1 : List api_Reset) (x2 : Int) (x3 : Int) : Option (accrue_Meter × Int) :=
  (accrue_Check.f x1).bind fun t1 =>
  if (t1 != 0) = true then
    some ((⟨0, 0⟩ : accrue_Meter), t1)
  else
    (calendar_Good.f x2).bind fun t4 =>
    (if (!t4) = false then calendar_Good.f x3 else some default).bind fun t6 =>
    if (((((!t4) || (!t6)) || (decide (x2 > x3))) || (decide ((IntKind.wrap .i64 (x3 - x2)) > 3660))) = false → (0 : Int) ≤ 0 ∧ 0 < (List.length x1 : Int)) then
    if (((((!t4) || (!t6)) || (decide (x2 > x3))) || (decide ((IntKind.wrap .i64 (x3 - x2)) > 3660))) || (decide (x2 < ((nth x1 0).Day)))) = true then
      some ((⟨0, 0⟩ : accrue_Meter), 10)
    else
      if ((decide (x0 < 0)) || (decide (x0 > 1125899906842624))) = true then
        some ((⟨0, 0⟩ : accrue_Meter), 1)
      else
        (loop (accrue_Run.r0 x0 x1 x3) (x2, 0, 0)).bind fun o38 =>
        match o38 with
        | .inl r47 => some r47
        | .inr w37 =>
          some ((⟨w37.1, w37.2⟩ : accrue_Meter), 0)
    else none
set_option maxRecDepth 100000 in
set_option maxHeartbeats 4000000 in
theorem accrue_Run.ok {x0 : Int} {x1 : List api_Reset} {x2 : Int} {x3 : Int} {r : accrue_Meter × Int} (h : accrue_Run.f x0 x1 x2 x3 = some r) : Pm.Spec prog 53 [.imm (.val (.int .i64 x0)), .imm (.row 2 (List.map api_Reset.enc x1)), .imm (.val (.int .i64 x2)), .imm (.val (.int .i64 x3))] (.tup [.agg [.imm (.val (.int .i64 r.1.Units)), .imm (.val (.int .i64 r.1.Rest))], .imm (.val (.int .i64 r.2))]) [none, none, none, none] := by
 unfold accrue_Run.f at h
 refine Pm.Spec.of_body Try.func53 rfl (by kernel_rfl) (Nat.le_of_ble_eq_true rfl) (Nat.le_of_ble_eq_true rfl) ?_
 refine W.ghost (σ' := (mkSt [(0, some (.i x0)), (1, some (.imm (.row 2 (List.map api_Reset.enc x1)))), (2, some (.i x2)), (3, some (.i x3))] [] 1000)) (Gives.entry (.c rfl (.c rfl (.c rfl (.c rfl .n)))) .n) ?_
 refine W.seq ?_
 refine W.pk ?_
 refine .t rfl rfl (O.alloc z72 rfl) ?_
 refine .a rfl rfl rfl rfl ?_
 refine .nil ?_
 refine W.seq ?_
 refine W.seq ?_
 obtain ⟨t1, b2, h⟩ := bnd1 h
 refine W.pk ?_
 refine .m rfl rfl rfl rfl ?_
 refine .call (.i t1) [] 0 (accrue_Check.ok b2) rfl rfl rfl ca60 rfl rfl (cC (.imm _) .nil) rfl rfl rfl rfl rfl ?_
 refine .a rfl rfl rfl rfl ?_
 refine .nil ?_
 refine W.seq ?_
 refine W.pk ?_
 refine .m rfl rfl rfl rfl ?_
 refine .v rfl rfl (OpL.binI rfl rfl rfl rfl) ?_
 refine .nil ?_
 refine W.cond rfl (fun q3 => ?_) (fun q3 => ?_)
 ·have h := ifT q3 h
  refine W.seq ?_
  refine W.pk ?_
  refine .v rfl rfl (O.build (out := [.i 0, .i 0]) bl72 rfl rfl rfl rfl (by kernel_rfl)) ?_
  refine .m rfl rfl rfl rfl ?_
  refine .s rfl rfl (O.st ty72 rfl rfl rfl rfl rfl rfl rfl rfl rfl rfl (all' := [.i 0, .i 0]) rfl) ?_
  refine .a rfl rfl rfl rfl ?_
  refine .nil ?_
  refine W.ret ?_
  cases h
  exact leaves (.inr rfl) rfl (.tup _ _ _ _ (cC (.agg _ _ _ _ (cC (.imm _) (cC (.imm _) .nil))) (cC (.imm _) .nil))) (cN (cN (cN (cN .nil)))) rfl rfl
 ·have h := ifF q3 h
  refine W.skip ?_
  refine W.seq ?_
  refine W.block ?_
  refine W.seq ?_
  obtain ⟨t4, b5, h⟩ := bnd1 h
  obtain ⟨t6, b7, h⟩ := bnd1 h
  obtain ⟨c8, h⟩ := chk h
  refine W.fork (mkSt [(0, some (.i x0)), (1, some (.imm (.row 2 (List.map api_Reset.enc x1)))), (2, some (.i x2)), (3, some (.i x3)), (8, some (.ptr 1000 0)), (22, some (.b (((((!t4) || (!t6)) || (decide (x2 > x3))) || (decide ((IntKind.wrap .i64 (x3 - x2)) > 3660))) || (decide (x2 < ((nth x1 0).Day))))))] [(1000, some (.box [.i 0, .i 0]))] 1001) ?_ ?_
  ·refine W.cond rfl (fun q13 => ?_) (fun q13 => ?_)
   ·have h := ifT q13 h
    refine W.seq ?_
    refine W.pk ?_
    refine .v rfl rfl (O.build (out := [.i 0, .i 0]) bl72 rfl rfl rfl rfl (by kernel_rfl)) ?_
    refine .s rfl rfl (O.st ty72 rfl rfl rfl rfl rfl rfl rfl rfl rfl rfl (all' := [.i 0, .i 0]) rfl) ?_
    refine .a rfl rfl rfl rfl ?_
    refine .nil ?_
    refine W.ret ?_
    cases h
    exact leaves (.inr rfl) rfl (.tup _ _ _ _ (cC (.agg _ _ _ _ (cC (.imm _) (cC (.imm _) .nil))) (cC (.imm _) .nil))) (cN (cN (cN (cN .nil)))) rfl rfl
   ·have h := ifF q13 h
    refine W.seq ?_
    refine W.fork (mkSt [(0, some (.i x0)), (1, some (.imm (.row 2 (List.map api_Reset.enc x1)))), (2, some (.i x2)), (3, some (.i x3)), (8, some (.ptr 1000 0)), (51, some (.b ((decide (x0 < 0)) || (decide (x0 > 1125899906842624)))))] [(1000, some (.box [.i 0, .i 0]))] 1001) ?_ ?_
    ·refine W.cond rfl (fun q15 => ?_) (fun q15 => ?_)
     ·have h := ifT q15 h
      refine W.seq ?_
      refine W.pk ?_
      refine .v rfl rfl (O.build (out := [.i 0, .i 0]) bl72 rfl rfl rfl rfl (by kernel_rfl)) ?_
      refine .s rfl rfl (O.st ty72 rfl rfl rfl rfl rfl rfl rfl rfl rfl rfl (all' := [.i 0, .i 0]) rfl) ?_
      refine .a rfl rfl rfl rfl ?_
      refine .nil ?_
      refine W.ret ?_
      cases h
      exact leaves (.inr rfl) rfl (.tup _ _ _ _ (cC (.agg _ _ _ _ (cC (.imm _) (cC (.imm _) .nil))) (cC (.imm _) .nil))) (cN (cN (cN (cN .nil)))) rfl rfl
     ·have h := ifF q15 h
      refine W.skip ?_
      refine W.seq ?_
      refine W.pk ?_
      refine .t rfl rfl (O.alloc z72 rfl) ?_
      refine .nil ?_
      refine W.seq ?_
      refine W.pk ?_
      refine .a rfl rfl rfl rfl ?_
      refine .nil ?_
      refine W.seq ?_
      refine W.seq ?_
      refine W.pk ?_
      refine .m rfl rfl rfl rfl ?_
      refine .a rfl rfl rfl rfl ?_
      refine .nil ?_
      obtain ⟨o38, b39, z40⟩ := bnd1 h
      refine W.fork2 (out := o38) (fun (w37 : Int × Int) => mkSt [(8, some (.ptr 1000 0)), (11, some (.ptr 1001 0))] [(1000, some (.box [.i 0, .i 0])), (1001, some (.box [.i w37.1, .i w37.2]))] 1002) ?_ ?_
      ·clear h
       refine W.block ?_
       refine W.loopF (fun (s_ : Int × Int × Int) => mkSt [(0, some (.i x0)), (1, some (.imm (.row 2 (List.map api_Reset.enc x1)))), (3, some (.i x3)), (8, some (.ptr 1000 0)), (11, some (.ptr 1001 0)), (13, some (.i s_.1))] [(1000, some (.box [.i 0, .i 0])), (1001, some (.box [.i s_.2.1, .i s_.2.2]))] 1002) b39 (Gives.mkR [] (.r rfl rfl (.r rfl rfl (.r rfl rfl (.r rfl rfl (.r rfl rfl (.r rfl rfl .n)))))) (.r rfl rfl rfl (.r rfl rfl rfl .n)) rfl rfl rfl) ?_
       rintro ⟨v22, v23, v24⟩ s_ hr
       have h : accrue_Run.b0 x0 x1 x3 v22 v23 v24 = some s_ := hr
       unfold accrue_Run.b0 at h
       refine W.seq ?_
       refine W.seq ?_
       refine W.pk ?_
       refine .m rfl rfl rfl rfl ?_
       refine .m rfl rfl rfl rfl ?_
       refine .v rfl rfl (OpL.binI rfl rfl rfl rfl) ?_
       refine .nil ?_
       refine W.cond rfl (fun q41 => ?_) (fun q41 => ?_)
       ·have h := ifT q41 h
        refine W.skip ?_
        refine W.seq ?_
        refine W.block ?_
        refine W.seq ?_
        obtain ⟨t42, b43, h⟩ := bnd1 h
        refine W.pk ?_
        refine .m rfl rfl rfl rfl ?_
        refine .m rfl rfl rfl rfl ?_
        refine .call (.tup [.i t42.1, .b t42.2]) [] 0 (accrue_Rate.ok b43) rfl rfl rfl ca48 rfl rfl (cC (.imm _) (cC (.imm _) .nil)) rfl rfl rfl rfl rfl ?_
        refine .m rfl rfl rfl rfl ?_
        refine .v rfl rfl (OpL.extract rfl rfl rfl) ?_
        refine .v rfl rfl (OpL.extract rfl rfl rfl) ?_
        refine .a rfl rfl rfl rfl ?_
        refine .a rfl rfl rfl rfl ?_
        refine .nil ?_
        refine W.seq ?_
        obtain ⟨t44, b45, h⟩ := bnd1 h
        refine W.pk ?_
        refine .v rfl rfl (O.ldN ty72 rfl rfl rfl) ?_
        refine .m rfl rfl rfl rfl ?_
        refine .m rfl rfl rfl rfl ?_
        refine .call (.tup [.agg [.i t44.1.Units, .i t44.1.Rest], .i t44.2]) [] 0 (accrue_Meter_Day.ok b45) rfl rfl rfl ca61 rfl rfl (cC (.agg _ _ _ _ (cC (.imm _) (cC (.imm _) .nil))) (cC (.imm _) (cC (.imm _) .nil))) rfl rfl rfl rfl rfl ?_
        refine .m rfl rfl rfl rfl ?_
        refine .v rfl rfl (OpL.extract rfl rfl rfl) ?_
        refine .v rfl rfl (OpL.extract rfl rfl rfl) ?_
        refine .s rfl rfl (O.st ty72 rfl rfl rfl rfl rfl rfl rfl rfl rfl rfl (all' := [.i t44.1.Units, .i t44.1.Rest]) rfl) ?_
        refine .a rfl rfl rfl rfl ?_
        refine .nil ?_
        refine W.seq ?_
        refine W.pk ?_
        refine .m rfl rfl rfl rfl ?_
        refine .v rfl rfl (OpL.binI rfl rfl rfl rfl) ?_
        refine .nil ?_
        refine W.cond rfl (fun q46 => ?_) (fun q46 => ?_)
        ·have h := ifT q46 h
         refine W.seq ?_
         refine W.pk ?_
         refine .v rfl rfl (O.build (out := [.i 0, .i 0]) bl72 rfl rfl rfl rfl (by kernel_rfl)) ?_
         refine .m rfl rfl rfl rfl ?_
         refine .s rfl rfl (O.st ty72 rfl rfl rfl rfl rfl rfl rfl rfl rfl rfl (all' := [.i 0, .i 0]) rfl) ?_
         refine .a rfl rfl rfl rfl ?_
         refine .nil ?_
         refine W.ret ?_
         cases h
         refine rdR fun e_ => ?_
         subst e_
         have h := z40
         dsimp only at h
         refine fkR ?_
         cases h
         exact leaves (.inr rfl) rfl (.tup _ _ _ _ (cC (.agg _ _ _ _ (cC (.imm _) (cC (.imm _) .nil))) (cC (.imm _) .nil))) (cN (cN (cN (cN .nil)))) rfl rfl
        ·have h := ifF q46 h
         refine W.skip ?_
         refine W.pk ?_
         refine .m rfl rfl rfl rfl ?_
         refine .v rfl rfl (OpL.binI rfl rfl rfl rfl) ?_
         refine .a rfl rfl rfl rfl ?_
         refine .nil ?_
         cases h
         exact rdN (Gives.mkR [] (.r rfl rfl (.r rfl rfl (.r rfl rfl (.r rfl rfl (.r rfl rfl (.r rfl rfl .n)))))) (.r rfl rfl rfl (.r rfl rfl rfl .n)) rfl rfl rfl)
       ·have h := ifF q41 h
        refine W.exit ?_
        cases h
        refine rdX fun e_ => ?_
        subst e_
        repeat with_reducible refine thru ?_
        refine hit ?_
        exact fkN (Gives.mkR [] (.r rfl rfl (.r rfl rfl .n)) (.r rfl rfl rfl (.r rfl rfl rfl .n)) rfl rfl rfl)
      ·intro w37 e_
       subst e_
       clear h
       have h := z40
       dsimp only at h
       refine W.seq ?_
       refine W.pk ?_
       refine .v rfl rfl (O.ldN ty72 rfl rfl rfl) ?_
       refine .s rfl rfl (O.st ty72 rfl rfl rfl rfl rfl rfl rfl rfl rfl rfl (all' := [.i w37.1, .i w37.2]) rfl) ?_
       refine .a rfl rfl rfl rfl ?_
       refine .nil ?_
       refine W.ret ?_
       cases h
       exact leaves (.inr rfl) rfl (.tup _ _ _ _ (cC (.agg _ _ _ _ (cC (.imm _) (cC (.imm _) .nil))) (cC (.imm _) .nil))) (cN (cN (cN (cN .nil)))) rfl rfl
    ·clear h
     rcases tf (decide (x0 < 0)) with g14 | g14
     ·refine W.pk ?_
      refine .m rfl rfl rfl rfl ?_
      refine .v rfl rfl (OpL.binI rfl rfl rfl rfl) ?_
      refine .m rfl rfl rfl rfl ?_
      refine .x rfl (unmet rfl rfl rfl g14) ?_
      refine .x rfl (unmet rfl rfl rfl g14) ?_
      refine .v rfl rfl (O.pickT g14 rfl rfl rfl) ?_
      refine .a rfl rfl rfl rfl ?_
      refine .nil ?_
      exact toN (Gives.mkR [] (.r rfl rfl (.r rfl rfl (.r rfl rfl (.r rfl rfl (.r rfl rfl (.c rfl (sbb (by simp only [g14, Bool.true_or, Bool.or_true, Bool.false_or, Bool.or_false, Bool.true_and, Bool.and_true, Bool.false_and, Bool.and_false, Bool.not_true, Bool.not_false, cond_true, cond_false])) rfl .n)))))) (.r rfl rfl rfl .n) rfl rfl rfl)
     ·refine W.pk ?_
      refine .m rfl rfl rfl rfl ?_
      refine .v rfl rfl (OpL.binI rfl rfl rfl rfl) ?_
      refine .m rfl rfl rfl rfl ?_
      refine .m rfl (met rfl rfl rfl g14) rfl rfl ?_
      refine .v rfl (met rfl rfl rfl g14) (OpL.binI rfl rfl rfl rfl) ?_
      refine .v rfl rfl (O.pickF g14 rfl rfl rfl) ?_
      refine .a rfl rfl rfl rfl ?_
      refine .nil ?_
      exact toN (Gives.mkR [] (.r rfl rfl (.r rfl rfl (.r rfl rfl (.r rfl rfl (.r rfl rfl (.c rfl (sbb (by simp only [g14, Bool.true_or, Bool.or_true, Bool.false_or, Bool.or_false, Bool.true_and, Bool.and_true, Bool.false_and, Bool.and_false, Bool.not_true, Bool.not_false, cond_true, cond_false])) rfl .n)))))) (.r rfl rfl rfl .n) rfl rfl rfl)
  ·clear h
   rcases tf t4 with g9 | g9
   ·rcases tf t6 with g10 | g10
    ·rcases tf (decide (x2 > x3)) with g11 | g11
     ·refine W.pk ?_
      refine .m rfl rfl rfl rfl ?_
      refine .call (.b t4) [] 0 (calendar_Good.ok b5) rfl rfl rfl ca41 rfl rfl (cC (.imm _) .nil) rfl rfl rfl rfl rfl ?_
      refine .v rfl rfl (OpL.unV rfl rfl rfl) ?_
      refine .m rfl rfl rfl rfl ?_
      refine .m rfl (met rfl rfl rfl (notT g9)) rfl rfl ?_
      refine .call (.b t6) [] 0 (calendar_Good.ok ((if_pos (by first | (simp only [g9, g10, g11, Bool.true_or, Bool.or_true, Bool.false_or, Bool.or_false, Bool.true_and, Bool.and_true, Bool.false_and, Bool.and_false, Bool.not_true, Bool.not_false, cond_true, cond_false]; done) | (repeat (first | rw [g9] | rw [g10] | rw [g11])) <;> simp only [Bool.true_or, Bool.or_true, Bool.false_or, Bool.or_false, Bool.true_and, Bool.and_true, Bool.false_and, Bool.and_false, Bool.not_true, Bool.not_false, cond_true, cond_false])).symm.trans b7)) rfl (met rfl rfl rfl (notT g9)) rfl ca41 rfl rfl (cC (.imm _) .nil) rfl rfl rfl rfl rfl ?_
      refine .v rfl (met rfl rfl rfl (notT g9)) (OpL.unV rfl rfl rfl) ?_
      refine .v rfl rfl (O.pickF (notT g9) rfl rfl rfl) ?_
      refine .m rfl rfl rfl rfl ?_
      refine .m rfl (met rfl rfl rfl (notT g10)) rfl rfl ?_
      refine .m rfl (met rfl rfl rfl (notT g10)) rfl rfl ?_
      refine .v rfl (met rfl rfl rfl (notT g10)) (OpL.binI rfl rfl rfl rfl) ?_
      refine .v rfl rfl (O.pickF (notT g10) rfl rfl rfl) ?_
      refine .m rfl rfl rfl rfl ?_
      refine .x rfl (unmet rfl rfl rfl g11) ?_
      refine .x rfl (unmet rfl rfl rfl g11) ?_
      refine .x rfl (unmet rfl rfl rfl g11) ?_
      refine .x rfl (unmet rfl rfl rfl g11) ?_
      refine .v rfl rfl (O.pickT g11 rfl rfl rfl) ?_
      refine .m rfl rfl rfl rfl ?_
      refine .x rfl (unmet rfl rfl rfl rfl) ?_
      refine .x rfl (unmet rfl rfl rfl rfl) ?_
      refine .x rfl (unmet rfl rfl rfl rfl) ?_
      refine .x rfl (unmet rfl rfl rfl rfl) ?_
      refine .x rfl (unmet rfl rfl rfl rfl) ?_
      refine .x rfl (unmet rfl rfl rfl rfl) ?_
      refine .v rfl rfl (O.pickT rfl rfl rfl rfl) ?_
      refine .a rfl rfl rfl rfl ?_
      refine .nil ?_
      exact toN (Gives.mkR [] (.r rfl rfl (.r rfl rfl (.r rfl rfl (.r rfl rfl (.r rfl rfl (.c rfl (sbb (by first | (simp only [g9, g10, g11, Bool.true_or, Bool.or_true, Bool.false_or, Bool.or_false, Bool.true_and, Bool.and_true, Bool.false_and, Bool.and_false, Bool.not_true, Bool.not_false, cond_true, cond_false]; done) | (repeat (first | rw [g9] | rw [g10] | rw [g11])) <;> simp only [Bool.true_or, Bool.or_true, Bool.false_or, Bool.or_false, Bool.true_and, Bool.and_true, Bool.false_and, Bool.and_false, Bool.not_true, Bool.not_false, cond_true, cond_false])) rfl .n)))))) (.r rfl rfl rfl .n) rfl rfl rfl)
     ·rcases tf (decide ((IntKind.wrap .i64 (x3 - x2)) > 3660)) with g12 | g12
      ·refine W.pk ?_
       refine .m rfl rfl rfl rfl ?_
       refine .call (.b t4) [] 0 (calendar_Good.ok b5) rfl rfl rfl ca41 rfl rfl (cC (.imm _) .nil) rfl rfl rfl rfl rfl ?_
       refine .v rfl rfl (OpL.unV rfl rfl rfl) ?_
       refine .m rfl rfl rfl rfl ?_
       refine .m rfl (met rfl rfl rfl (notT g9)) rfl rfl ?_
       refine .call (.b t6) [] 0 (calendar_Good.ok ((if_pos (by first | (simp only [g9, g10, g11, g12, Bool.true_or, Bool.or_true, Bool.false_or, Bool.or_false, Bool.true_and, Bool.and_true, Bool.false_and, Bool.and_false, Bool.not_true, Bool.not_false, cond_true, cond_false]; done) | (repeat (first | rw [g9] | rw [g10] | rw [g11] | rw [g12])) <;> simp only [Bool.true_or, Bool.or_true, Bool.false_or, Bool.or_false, Bool.true_and, Bool.and_true, Bool.false_and, Bool.and_false, Bool.not_true, Bool.not_false, cond_true, cond_false])).symm.trans b7)) rfl (met rfl rfl rfl (notT g9)) rfl ca41 rfl rfl (cC (.imm _) .nil) rfl rfl rfl rfl rfl ?_
       refine .v rfl (met rfl rfl rfl (notT g9)) (OpL.unV rfl rfl rfl) ?_
       refine .v rfl rfl (O.pickF (notT g9) rfl rfl rfl) ?_
       refine .m rfl rfl rfl rfl ?_
       refine .m rfl (met rfl rfl rfl (notT g10)) rfl rfl ?_
       refine .m rfl (met rfl rfl rfl (notT g10)) rfl rfl ?_
       refine .v rfl (met rfl rfl rfl (notT g10)) (OpL.binI rfl rfl rfl rfl) ?_
       refine .v rfl rfl (O.pickF (notT g10) rfl rfl rfl) ?_
       refine .m rfl rfl rfl rfl ?_
       refine .m rfl (met rfl rfl rfl g11) rfl rfl ?_
       refine .m rfl (met rfl rfl rfl g11) rfl rfl ?_
       refine .v rfl (met rfl rfl rfl g11) (OpL.binI rfl rfl rfl rfl) ?_
       refine .v rfl (met rfl rfl rfl g11) (OpL.binI rfl rfl rfl rfl) ?_
       refine .v rfl rfl (O.pickF g11 rfl rfl rfl) ?_
       refine .m rfl rfl rfl rfl ?_
       refine .x rfl (unmet rfl rfl rfl g12) ?_
       refine .x rfl (unmet rfl rfl rfl g12) ?_
       refine .x rfl (unmet rfl rfl rfl g12) ?_
       refine .x rfl (unmet rfl rfl rfl g12) ?_
       refine .x rfl (unmet rfl rfl rfl g12) ?_
       refine .x rfl (unmet rfl rfl rfl g12) ?_
       refine .v rfl rfl (O.pickT g12 rfl rfl rfl) ?_
       refine .a rfl rfl rfl rfl ?_
       refine .nil ?_
       exact toN (Gives.mkR [] (.r rfl rfl (.r rfl rfl (.r rfl rfl (.r rfl rfl (.r rfl rfl (.c rfl (sbb (by first | (simp only [g9, g10, g11, g12, Bool.true_or, Bool.or_true, Bool.false_or, Bool.or_false, Bool.true_and, Bool.and_true, Bool.false_and, Bool.and_false, Bool.not_true, Bool.not_false, cond_true, cond_false]; done) | (repeat (first | rw [g9] | rw [g10] | rw [g11] | rw [g12])) <;> simp only [Bool.true_or, Bool.or_true, Bool.false_or, Bool.or_false, Bool.true_and, Bool.and_true, Bool.false_and, Bool.and_false, Bool.not_true, Bool.not_false, cond_true, cond_false])) rfl .n)))))) (.r rfl rfl rfl .n) rfl rfl rfl)
      ·refine W.pk ?_
       refine .m rfl rfl rfl rfl ?_
       refine .call (.b t4) [] 0 (calendar_Good.ok b5) rfl rfl rfl ca41 rfl rfl (cC (.imm _) .nil) rfl rfl rfl rfl rfl ?_
       refine .v rfl rfl (OpL.unV rfl rfl rfl) ?_
       refine .m rfl rfl rfl rfl ?_
       refine .m rfl (met rfl rfl rfl (notT g9)) rfl rfl ?_
       refine .call (.b t6) [] 0 (calendar_Good.ok ((if_pos (by first | (simp only [g9, g10, g11, g12, Bool.true_or, Bool.or_true, Bool.false_or, Bool.or_false, Bool.true_and, Bool.and_true, Bool.false_and, Bool.and_false, Bool.not_true, Bool.not_false, cond_true, cond_false]; done) | (repeat (first | rw [g9] | rw [g10] | rw [g11] | rw [g12])) <;> simp only [Bool.true_or, Bool.or_true, Bool.false_or, Bool.or_false, Bool.true_and, Bool.and_true, Bool.false_and, Bool.and_false, Bool.not_true, Bool.not_false, cond_true, cond_false])).symm.trans b7)) rfl (met rfl rfl rfl (notT g9)) rfl ca41 rfl rfl (cC (.imm _) .nil) rfl rfl rfl rfl rfl ?_
       refine .v rfl (met rfl rfl rfl (notT g9)) (OpL.unV rfl rfl rfl) ?_
       refine .v rfl rfl (O.pickF (notT g9) rfl rfl rfl) ?_
       refine .m rfl rfl rfl rfl ?_
       refine .m rfl (met rfl rfl rfl (notT g10)) rfl rfl ?_
       refine .m rfl (met rfl rfl rfl (notT g10)) rfl rfl ?_
       refine .v rfl (met rfl rfl rfl (notT g10)) (OpL.binI rfl rfl rfl rfl) ?_
       refine .v rfl rfl (O.pickF (notT g10) rfl rfl rfl) ?_
       refine .m rfl rfl rfl rfl ?_
       refine .m rfl (met rfl rfl rfl g11) rfl rfl ?_
       refine .m rfl (met rfl rfl rfl g11) rfl rfl ?_
       refine .v rfl (met rfl rfl rfl g11) (OpL.binI rfl rfl rfl rfl) ?_
       refine .v rfl (met rfl rfl rfl g11) (OpL.binI rfl rfl rfl rfl) ?_
       refine .v rfl rfl (O.pickF g11 rfl rfl rfl) ?_
       refine .m rfl rfl rfl rfl ?_
       refine .m rfl (met rfl rfl rfl g12) rfl rfl ?_
       refine .m rfl (met rfl rfl rfl g12) rfl rfl ?_
       refine .v rfl (met rfl rfl rfl g12) (O.idx sl22 (c8 (by first | (simp only [g9, g10, g11, g12, Bool.true_or, Bool.or_true, Bool.false_or, Bool.or_false, Bool.true_and, Bool.and_true, Bool.false_and, Bool.and_false, Bool.not_true, Bool.not_false, cond_true, cond_false]; done) | (repeat (first | rw [g9] | rw [g10] | rw [g11] | rw [g12])) <;> simp only [Bool.true_or, Bool.or_true, Bool.false_or, Bool.or_false, Bool.true_and, Bool.and_true, Bool.false_and, Bool.and_false, Bool.not_true, Bool.not_false, cond_true, cond_false])) rfl rfl rfl) ?_
       refine .v rfl (met rfl rfl rfl g12) (O.fld fld46_0 rfl rfl rfl) ?_
       refine .v rfl (met rfl rfl rfl g12) (O.ld (y := .i ((nth x1 0).Day)) ty3 rfl rfl rfl) ?_
       refine .v rfl (met rfl rfl rfl g12) (OpL.binI rfl rfl rfl rfl) ?_
       refine .v rfl rfl (O.pickF g12 rfl rfl rfl) ?_
       refine .a rfl rfl rfl rfl ?_
       refine .nil ?_
       exact toN (Gives.mkR [] (.r rfl rfl (.r rfl rfl (.r rfl rfl (.r rfl rfl (.r rfl rfl (.c rfl (sbb (by first | (simp only [g9, g10, g11, g12, Bool.true_or, Bool.or_true, Bool.false_or, Bool.or_false, Bool.true_and, Bool.and_true, Bool.false_and, Bool.and_false, Bool.not_true, Bool.not_false, cond_true, cond_false]; done) | (repeat (first | rw [g9] | rw [g10] | rw [g11] | rw [g12])) <;> simp only [Bool.true_or, Bool.or_true, Bool.false_or, Bool.or_false, Bool.true_and, Bool.and_true, Bool.false_and, Bool.and_false, Bool.not_true, Bool.not_false, cond_true, cond_false])) rfl .n)))))) (.r rfl rfl rfl .n) rfl rfl rfl)
    ·refine W.pk ?_
     refine .m rfl rfl rfl rfl ?_
     refine .call (.b t4) [] 0 (calendar_Good.ok b5) rfl rfl rfl ca41 rfl rfl (cC (.imm _) .nil) rfl rfl rfl rfl rfl ?_
     refine .v rfl rfl (OpL.unV rfl rfl rfl) ?_
     refine .m rfl rfl rfl rfl ?_
     refine .m rfl (met rfl rfl rfl (notT g9)) rfl rfl ?_
     refine .call (.b t6) [] 0 (calendar_Good.ok ((if_pos (by first | (simp only [g9, g10, Bool.true_or, Bool.or_true, Bool.false_or, Bool.or_false, Bool.true_and, Bool.and_true, Bool.false_and, Bool.and_false, Bool.not_true, Bool.not_false, cond_true, cond_false]; done) | (repeat (first | rw [g9] | rw [g10])) <;> simp only [Bool.true_or, Bool.or_true, Bool.false_or, Bool.or_false, Bool.true_and, Bool.and_true, Bool.false_and, Bool.and_false, Bool.not_true, Bool.not_false, cond_true, cond_false])).symm.trans b7)) rfl (met rfl rfl rfl (notT g9)) rfl ca41 rfl rfl (cC (.imm _) .nil) rfl rfl rfl rfl rfl ?_
     refine .v rfl (met rfl rfl rfl (notT g9)) (OpL.unV rfl rfl rfl) ?_
     refine .v rfl rfl (O.pickF (notT g9) rfl rfl rfl) ?_
     refine .m rfl rfl rfl rfl ?_
     refine .x rfl (unmet rfl rfl rfl (notF g10)) ?_
     refine .x rfl (unmet rfl rfl rfl (notF g10)) ?_
     refine .x rfl (unmet rfl rfl rfl (notF g10)) ?_
     refine .v rfl rfl (O.pickT (notF g10) rfl rfl rfl) ?_
     refine .m rfl rfl rfl rfl ?_
     refine .x rfl (unmet rfl rfl rfl rfl) ?_
     refine .x rfl (unmet rfl rfl rfl rfl) ?_
     refine .x rfl (unmet rfl rfl rfl rfl) ?_
     refine .x rfl (unmet rfl rfl rfl rfl) ?_
     refine .v rfl rfl (O.pickT rfl rfl rfl rfl) ?_
     refine .m rfl rfl rfl rfl ?_
     refine .x rfl (unmet rfl rfl rfl rfl) ?_
     refine .x rfl (unmet rfl rfl rfl rfl) ?_
     refine .x rfl (unmet rfl rfl rfl rfl) ?_
     refine .x rfl (unmet rfl rfl rfl rfl) ?_
     refine .x rfl (unmet rfl rfl rfl rfl) ?_
     refine .x rfl (unmet rfl rfl rfl rfl) ?_
     refine .v rfl rfl (O.pickT rfl rfl rfl rfl) ?_
     refine .a rfl rfl rfl rfl ?_
     refine .nil ?_
     exact toN (Gives.mkR [] (.r rfl rfl (.r rfl rfl (.r rfl rfl (.r rfl rfl (.r rfl rfl (.c rfl (sbb (by first | (simp only [g9, g10, Bool.true_or, Bool.or_true, Bool.false_or, Bool.or_false, Bool.true_and, Bool.and_true, Bool.false_and, Bool.and_false, Bool.not_true, Bool.not_false, cond_true, cond_false]; done) | (repeat (first | rw [g9] | rw [g10])) <;> simp only [Bool.true_or, Bool.or_true, Bool.false_or, Bool.or_false, Bool.true_and, Bool.and_true, Bool.false_and, Bool.and_false, Bool.not_true, Bool.not_false, cond_true, cond_false])) rfl .n)))))) (.r rfl rfl rfl .n) rfl rfl rfl)
   ·refine W.pk ?_
    refine .m rfl rfl rfl rfl ?_
    refine .call (.b t4) [] 0 (calendar_Good.ok b5) rfl rfl rfl ca41 rfl rfl (cC (.imm _) .nil) rfl rfl rfl rfl rfl ?_
    refine .v rfl rfl (OpL.unV rfl rfl rfl) ?_
    refine .m rfl rfl rfl rfl ?_
    refine .x rfl (unmet rfl rfl rfl (notF g9)) ?_
    refine .x rfl (unmet rfl rfl rfl (notF g9)) ?_
    refine .x rfl (unmet rfl rfl rfl (notF g9)) ?_
    refine .v rfl rfl (O.pickT (notF g9) rfl rfl rfl) ?_
    refine .m rfl rfl rfl rfl ?_
    refine .x rfl (unmet rfl rfl rfl rfl) ?_
    refine .x rfl (unmet rfl rfl rfl rfl) ?_
    refine .x rfl (unmet rfl rfl rfl rfl) ?_
    refine .v rfl rfl (O.pickT rfl rfl rfl rfl) ?_
    refine .m rfl rfl rfl rfl ?_
    refine .x rfl (unmet rfl rfl rfl rfl) ?_
    refine .x rfl (unmet rfl rfl rfl rfl) ?_
    refine .x rfl (unmet rfl rfl rfl rfl) ?_
    refine .x rfl (unmet rfl rfl rfl rfl) ?_
    refine .v rfl rfl (O.pickT rfl rfl rfl rfl) ?_
    refine .m rfl rfl rfl rfl ?_
    refine .x rfl (unmet rfl rfl rfl rfl) ?_
    refine .x rfl (unmet rfl rfl rfl rfl) ?_
    refine .x rfl (unmet rfl rfl rfl rfl) ?_
    refine .x rfl (unmet rfl rfl rfl rfl) ?_
    refine .x rfl (unmet rfl rfl rfl rfl) ?_
    refine .x rfl (unmet rfl rfl rfl rfl) ?_
    refine .v rfl rfl (O.pickT rfl rfl rfl rfl) ?_
    refine .a rfl rfl rfl rfl ?_
    refine .nil ?_
    exact toN (Gives.mkR [] (.r rfl rfl (.r rfl rfl (.r rfl rfl (.r rfl rfl (.r rfl rfl (.c rfl (sbb (by simp only [g9, Bool.true_or, Bool.or_true, Bool.false_or, Bool.or_false, Bool.true_and, Bool.and_true, Bool.false_and, Bool.and_false, Bool.not_true, Bool.not_false, cond_true, cond_false])) rfl .n)))))) (.r rfl rfl rfl .n) rfl rfl rfl)

noncomputable def accrue_Between.f (x0 : Int) (x1 : List api_Reset) (x2 : Int) (x3 : Int) : Option (Int × Int) :=
  (accrue_Run.f x0 x1 x2 x3).bind fun t1 =>
  some (t1.1.Units, t1.2)
set_option maxRecDepth 100000 in
set_option maxHeartbeats 4000000 in
theorem accrue_Between.ok {x0 : Int} {x1 : List api_Reset} {x2 : Int} {x3 : Int} {r : Int × Int} (h : accrue_Between.f x0 x1 x2 x3 = some r) : Pm.Spec prog 42 [.imm (.val (.int .i64 x0)), .imm (.row 2 (List.map api_Reset.enc x1)), .imm (.val (.int .i64 x2)), .imm (.val (.int .i64 x3))] (.tup [.imm (.val (.int .i64 r.1)), .imm (.val (.int .i64 r.2))]) [none, none, none, none] := by
 unfold accrue_Between.f at h
 refine Pm.Spec.of_body Try.func42 rfl (by kernel_rfl) (Nat.le_of_ble_eq_true rfl) (Nat.le_of_ble_eq_true rfl) ?_
 refine W.ghost (σ' := (mkSt [(0, some (.i x0)), (1, some (.imm (.row 2 (List.map api_Reset.enc x1)))), (2, some (.i x2)), (3, some (.i x3))] [] 1000)) (Gives.entry (.c rfl (.c rfl (.c rfl (.c rfl .n)))) .n) ?_
 refine W.seq ?_
 refine W.pk ?_
 refine .a rfl rfl rfl rfl ?_
 refine .a rfl rfl rfl rfl ?_
 refine .nil ?_
 refine W.seq ?_
 obtain ⟨t1, b2, h⟩ := bnd1 h
 refine W.pk ?_
 refine .m rfl rfl rfl rfl ?_
 refine .m rfl rfl rfl rfl ?_
 refine .m rfl rfl rfl rfl ?_
 refine .m rfl rfl rfl rfl ?_
 refine .call (.tup [.agg [.i t1.1.Units, .i t1.1.Rest], .i t1.2]) [] 0 (accrue_Run.ok b2) rfl rfl rfl ca53 rfl rfl (cC (.imm _) (cC (.imm _) (cC (.imm _) (cC (.imm _) .nil)))) rfl rfl rfl rfl rfl ?_
 refine .m rfl rfl rfl rfl ?_
 refine .v rfl rfl (OpL.extract rfl rfl rfl) ?_
 refine .v rfl rfl (OpL.extract rfl rfl rfl) ?_
 refine .t rfl rfl (O.alloc z72 rfl) ?_
 refine .s rfl rfl (O.st ty72 rfl rfl rfl rfl rfl rfl rfl rfl rfl rfl (all' := [.i t1.1.Units, .i t1.1.Rest]) rfl) ?_
 refine .a rfl rfl rfl rfl ?_
 refine .nil ?_
 refine W.seq ?_
 refine W.pk ?_
 refine .v rfl rfl (O.fld fld72_0 rfl rfl rfl) ?_
 refine .v rfl rfl (O.ld (y := .i t1.1.Units) ty3 rfl rfl rfl) ?_
 refine .m rfl rfl rfl rfl ?_
 refine .a rfl rfl rfl rfl ?_
 refine .a rfl rfl rfl rfl ?_
 refine .nil ?_
 refine W.ret ?_
 cases h
 exact leaves (.inr rfl) rfl (.tup _ _ _ _ (cC (.imm _) (cC (.imm _) .nil))) (cN (cN (cN (cN .nil)))) rfl rfl

noncomputable def life_Interest.f (x0 : api_Trade) (x1 : Int) : Option (Int × Int) :=
  (calendar_Good.f x1).bind fun t1 =>
  if (!t1) = true then
    some (0, 10)
  else
    (life_until.f x0 x1).bind fun t4 =>
    (accrue_Between.f x0.Amount x0.Resets x0.Start t4).bind fun t6 =>
    some (t6.1, t6.2)
set_option maxRecDepth 100000 in
set_option maxHeartbeats 4000000 in
theorem life_Interest.ok {x0 : api_Trade} {x1 : Int} {r : Int × Int} (h : life_Interest.f x0 x1 = some r) : Pm.Spec prog 11 [.agg [.imm (.val (.int .i64 x0.ID)), .imm (.val (.int .i64 x0.Twin)), .imm (.val (.int .i64 x0.Member)), .imm (.val (.int .i64 x0.Side)), .imm (.val (.int .i64 x0.Basket)), .imm (.val (.int .i64 x0.Amount)), .imm (.val (.int .i64 x0.Start)), .imm (.val (.int .i64 x0.End)), .imm (.row 2 (List.map api_Reset.enc x0.Resets)), .imm (.val (.int .i64 x0.Stage)), .imm (.val (.bool x0.Short))], .imm (.val (.int .i64 x1))] (.tup [.imm (.val (.int .i64 r.1)), .imm (.val (.int .i64 r.2))]) [none, none] := by
 unfold life_Interest.f at h
 refine Pm.Spec.of_body Try.func11 rfl (by kernel_rfl) (Nat.le_of_ble_eq_true rfl) (Nat.le_of_ble_eq_true rfl) ?_
 refine W.ghost (σ' := (mkSt [(0, some (.agg (api_Trade.av x0))), (1, some (.i x1))] [] 1000)) (Gives.entry (.c rfl (.c rfl .n)) .n) ?_
 refine W.seq ?_
 refine W.pk ?_
 refine .t rfl rfl (O.box rfl rfl rfl rfl rfl) ?_
 refine .a rfl rfl rfl rfl ?_
 refine .a rfl rfl rfl rfl ?_
 refine .nil ?_
 refine W.seq ?_
 refine W.seq ?_
 obtain ⟨t1, b2, h⟩ := bnd1 h
 refine W.pk ?_
 refine .m rfl rfl rfl rfl ?_
 refine .call (.b t1) [] 0 (calendar_Good.ok b2) rfl rfl rfl ca41 rfl rfl (cC (.imm _) .nil) rfl rfl rfl rfl rfl ?_
 refine .v rfl rfl (OpL.unV rfl rfl rfl) ?_
 refine .nil ?_
 refine W.cond rfl (fun q3 => ?_) (fun q3 => ?_)
 ·have h := ifT q3 h
  refine W.seq ?_
  refine W.pk ?_
  refine .a rfl rfl rfl rfl ?_
  refine .a rfl rfl rfl rfl ?_
  refine .nil ?_
  refine W.ret ?_
  cases h
  exact leaves (.inr rfl) rfl (.tup _ _ _ _ (cC (.imm _) (cC (.imm _) .nil))) (cN (cN .nil)) rfl rfl
 ·have h := ifF q3 h
  refine W.skip ?_
  refine W.seq ?_
  obtain ⟨t4, b5, h⟩ := bnd1 h
  obtain ⟨t6, b7, h⟩ := bnd1 h
  refine W.dk (unm 14 [0, 1, 0, 4, 0, 16, 0, 0, 192, 511, 1023, 1023, 4095, 8191]) rfl (by kernel_rfl) ?_
  refine .v rfl rfl (O.fld fld24_5 rfl rfl rfl) ?_
  refine .v rfl rfl (O.ld (y := .i x0.Amount) ty3 rfl rfl rfl) ?_
  refine .v rfl rfl (O.fld fld24_8 rfl rfl rfl) ?_
  refine .v rfl rfl (O.ld (y := .imm (.row 2 (List.map api_Reset.enc x0.Resets))) ty22 rfl rfl rfl) ?_
  refine .v rfl rfl (O.fld fld24_6 rfl rfl rfl) ?_
  refine .v rfl rfl (O.ld (y := .i x0.Start) ty3 rfl rfl rfl) ?_
  refine .v rfl rfl (O.ldN ty24 rfl rfl rfl) ?_
  refine .m rfl rfl rfl rfl ?_
  refine .call (.i t4) [] 0 (life_until.ok b5) rfl rfl rfl ca43 rfl rfl (cC (.agg _ _ _ _ (cC (.imm _) (cC (.imm _) (cC (.imm _) (cC (.imm _) (cC (.imm _) (cC (.imm _) (cC (.imm _) (cC (.imm _) (cC (.imm _) (cC (.imm _) (cC (.imm _) .nil)))))))))))) (cC (.imm _) .nil)) rfl rfl rfl rfl rfl ?_
  refine .call (.tup [.i t6.1, .i t6.2]) [] 0 (accrue_Between.ok b7) rfl rfl rfl ca42 rfl rfl (cC (.imm _) (cC (.imm _) (cC (.imm _) (cC (.imm _) .nil)))) rfl rfl rfl rfl rfl ?_
  refine .v rfl rfl (OpL.extract rfl rfl rfl) ?_
  refine .v rfl rfl (OpL.extract rfl rfl rfl) ?_
  refine .a rfl rfl rfl rfl ?_
  refine .a rfl rfl rfl rfl ?_
  refine .nil ?_
  refine ⟨by kernel_rfl, by kernel_rfl, ?_⟩
  refine W.ret ?_
  cases h
  exact leaves (.inr rfl) rfl (.tup _ _ _ _ (cC (.imm _) (cC (.imm _) .nil))) (cN (cN .nil)) rfl rfl

noncomputable def life_Today.f (x0 : api_Trade) (x1 : Int) : Option (Int × Int) :=
  (life_Interest.f x0 x1).bind fun t1 =>
  if (t1.2 != 0) = true then
    some (0, t1.2)
  else
    (life_Interest.f x0 (minI (IntKind.wrap .i64 (x1 + 1)) 200000)).bind fun t4 =>
    if (t4.2 != 0) = true then
      some (0, t4.2)
    else
      some ((IntKind.wrap .i64 (t4.1 - t1.1)), 0)
set_option maxRecDepth 100000 in
set_option maxHeartbeats 4000000 in
theorem life_Today.ok {x0 : api_Trade} {x1 : Int} {r : Int × Int} (h : life_Today.f x0 x1 = some r) : Pm.Spec prog 12 [.agg [.imm (.val (.int .i64 x0.ID)), .imm (.val (.int .i64 x0.Twin)), .imm (.val (.int .i64 x0.Member)), .imm (.val (.int .i64 x0.Side)), .imm (.val (.int .i64 x0.Basket)), .imm (.val (.int .i64 x0.Amount)), .imm (.val (.int .i64 x0.Start)), .imm (.val (.int .i64 x0.End)), .imm (.row 2 (List.map api_Reset.enc x0.Resets)), .imm (.val (.int .i64 x0.Stage)), .imm (.val (.bool x0.Short))], .imm (.val (.int .i64 x1))] (.tup [.imm (.val (.int .i64 r.1)), .imm (.val (.int .i64 r.2))]) [none, none] := by
 unfold life_Today.f at h
 refine Pm.Spec.of_body Try.func12 rfl (by kernel_rfl) (Nat.le_of_ble_eq_true rfl) (Nat.le_of_ble_eq_true rfl) ?_
 refine W.ghost (σ' := (mkSt [(0, some (.agg (api_Trade.av x0))), (1, some (.i x1))] [] 1000)) (Gives.entry (.c rfl (.c rfl .n)) .n) ?_
 refine W.seq ?_
 refine W.pk ?_
 refine .t rfl rfl (O.box rfl rfl rfl rfl rfl) ?_
 refine .a rfl rfl rfl rfl ?_
 refine .a rfl rfl rfl rfl ?_
 refine .nil ?_
 refine W.seq ?_
 obtain ⟨t1, b2, h⟩ := bnd1 h
 refine W.pk ?_
 refine .v rfl rfl (O.ldN ty24 rfl rfl rfl) ?_
 refine .m rfl rfl rfl rfl ?_
 refine .call (.tup [.i t1.1, .i t1.2]) [] 0 (life_Interest.ok b2) rfl rfl rfl ca11 rfl rfl (cC (.agg _ _ _ _ (cC (.imm _) (cC (.imm _) (cC (.imm _) (cC (.imm _) (cC (.imm _) (cC (.imm _) (cC (.imm _) (cC (.imm _) (cC (.imm _) (cC (.imm _) (cC (.imm _) .nil)))))))))))) (cC (.imm _) .nil)) rfl rfl rfl rfl rfl ?_
 refine .m rfl rfl rfl rfl ?_
 refine .v rfl rfl (OpL.extract rfl rfl rfl) ?_
 refine .v rfl rfl (OpL.extract rfl rfl rfl) ?_
 refine .a rfl rfl rfl rfl ?_
 refine .a rfl rfl rfl rfl ?_
 refine .nil ?_
 refine W.seq ?_
 refine W.seq ?_
 refine W.pk ?_
 refine .m rfl rfl rfl rfl ?_
 refine .v rfl rfl (OpL.binI rfl rfl rfl rfl) ?_
 refine .nil ?_
 refine W.cond rfl (fun q3 => ?_) (fun q3 => ?_)
 ·have h := ifT q3 h
  refine W.seq ?_
  refine W.pk ?_
  refine .m rfl rfl rfl rfl ?_
  refine .a rfl rfl rfl rfl ?_
  refine .a rfl rfl rfl rfl ?_
  refine .nil ?_
  refine W.ret ?_
  cases h
  exact leaves (.inr rfl) rfl (.tup _ _ _ _ (cC (.imm _) (cC (.imm _) .nil))) (cN (cN .nil)) rfl rfl
 ·have h := ifF q3 h
  refine W.skip ?_
  refine W.seq ?_
  obtain ⟨t4, b5, h⟩ := bnd1 h
  refine W.pk ?_
  refine .v rfl rfl (O.ldN ty24 rfl rfl rfl) ?_
  refine .m rfl rfl rfl rfl ?_
  refine .v rfl rfl (OpL.binI rfl rfl rfl rfl) ?_
  refine .v rfl rfl (O.min2 rfl rfl rfl) ?_
  refine .call (.tup [.i t4.1, .i t4.2]) [] 0 (life_Interest.ok b5) rfl rfl rfl ca11 rfl rfl (cC (.agg _ _ _ _ (cC (.imm _) (cC (.imm _) (cC (.imm _) (cC (.imm _) (cC (.imm _) (cC (.imm _) (cC (.imm _) (cC (.imm _) (cC (.imm _) (cC (.imm _) (cC (.imm _) .nil)))))))))))) (cC (.imm _) .nil)) rfl rfl rfl rfl rfl ?_
  refine .m rfl rfl rfl rfl ?_
  refine .v rfl rfl (OpL.extract rfl rfl rfl) ?_
  refine .v rfl rfl (OpL.extract rfl rfl rfl) ?_
  refine .a rfl rfl rfl rfl ?_
  refine .a rfl rfl rfl rfl ?_
  refine .nil ?_
  refine W.seq ?_
  refine W.seq ?_
  refine W.pk ?_
  refine .m rfl rfl rfl rfl ?_
  refine .v rfl rfl (OpL.binI rfl rfl rfl rfl) ?_
  refine .nil ?_
  refine W.cond rfl (fun q6 => ?_) (fun q6 => ?_)
  ·have h := ifT q6 h
   refine W.seq ?_
   refine W.pk ?_
   refine .m rfl rfl rfl rfl ?_
   refine .a rfl rfl rfl rfl ?_
   refine .a rfl rfl rfl rfl ?_
   refine .nil ?_
   refine W.ret ?_
   cases h
   exact leaves (.inr rfl) rfl (.tup _ _ _ _ (cC (.imm _) (cC (.imm _) .nil))) (cN (cN .nil)) rfl rfl
  ·have h := ifF q6 h
   refine W.skip ?_
   refine W.seq ?_
   refine W.pk ?_
   refine .m rfl rfl rfl rfl ?_
   refine .m rfl rfl rfl rfl ?_
   refine .v rfl rfl (OpL.binI rfl rfl rfl rfl) ?_
   refine .a rfl rfl rfl rfl ?_
   refine .a rfl rfl rfl rfl ?_
   refine .nil ?_
   refine W.ret ?_
   cases h
   exact leaves (.inr rfl) rfl (.tup _ _ _ _ (cC (.imm _) (cC (.imm _) .nil))) (cN (cN .nil)) rfl rfl

noncomputable def life_Notice.f (x0 : api_Trade) (x1 : Int) (x2 : Int) : Option (api_Trade × Int) :=
  (if (x0.Stage != 2) = false then life_Open.f x0 else some default).bind fun t1 =>
  if ((x0.Stage != 2) || (!t1)) = true then
    some (x0, 8)
  else
    (calendar_Good.f x1).bind fun t5 =>
    (if (!t5) = false then calendar_Good.f x2 else some default).bind fun t7 =>
    if (((((!t5) || (!t7)) || (decide (x2 ≤ x1))) || (decide (x2 ≤ x0.Start))) || (decide ((IntKind.wrap .i64 (x2 - x0.Start)) > 3660))) = true then
      some (x0, 10)
    else
      some ((⟨x0.ID, x0.Twin, x0.Member, x0.Side, x0.Basket, x0.Amount, x0.Start, x2, x0.Resets, 3, x0.Short⟩ : api_Trade), 0)
set_option maxRecDepth 100000 in
set_option maxHeartbeats 4000000 in
theorem life_Notice.ok {x0 : api_Trade} {x1 : Int} {x2 : Int} {r : api_Trade × Int} (h : life_Notice.f x0 x1 x2 = some r) : Pm.Spec prog 25 [.agg [.imm (.val (.int .i64 x0.ID)), .imm (.val (.int .i64 x0.Twin)), .imm (.val (.int .i64 x0.Member)), .imm (.val (.int .i64 x0.Side)), .imm (.val (.int .i64 x0.Basket)), .imm (.val (.int .i64 x0.Amount)), .imm (.val (.int .i64 x0.Start)), .imm (.val (.int .i64 x0.End)), .imm (.row 2 (List.map api_Reset.enc x0.Resets)), .imm (.val (.int .i64 x0.Stage)), .imm (.val (.bool x0.Short))], .imm (.val (.int .i64 x1)), .imm (.val (.int .i64 x2))] (.tup [.agg [.imm (.val (.int .i64 r.1.ID)), .imm (.val (.int .i64 r.1.Twin)), .imm (.val (.int .i64 r.1.Member)), .imm (.val (.int .i64 r.1.Side)), .imm (.val (.int .i64 r.1.Basket)), .imm (.val (.int .i64 r.1.Amount)), .imm (.val (.int .i64 r.1.Start)), .imm (.val (.int .i64 r.1.End)), .imm (.row 2 (List.map api_Reset.enc r.1.Resets)), .imm (.val (.int .i64 r.1.Stage)), .imm (.val (.bool r.1.Short))], .imm (.val (.int .i64 r.2))]) [none, none, none] := by
 unfold life_Notice.f at h
 refine Pm.Spec.of_body Try.func25 rfl (by kernel_rfl) (Nat.le_of_ble_eq_true rfl) (Nat.le_of_ble_eq_true rfl) ?_
 refine W.ghost (σ' := (mkSt [(0, some (.agg (api_Trade.av x0))), (1, some (.i x1)), (2, some (.i x2))] [] 1000)) (Gives.entry (.c rfl (.c rfl (.c rfl .n))) .n) ?_
 refine W.seq ?_
 refine W.pk ?_
 refine .t rfl rfl (O.box rfl rfl rfl rfl rfl) ?_
 refine .t rfl rfl (O.alloc z24 rfl) ?_
 refine .a rfl rfl rfl rfl ?_
 refine .nil ?_
 refine W.seq ?_
 refine W.block ?_
 refine W.seq ?_
 obtain ⟨t1, b2, h⟩ := bnd1 h
 refine W.fork (mkSt [(1, some (.i x1)), (2, some (.i x2)), (3, some (.ptr 1000 0)), (6, some (.ptr 1001 0)), (8, some (.b ((x0.Stage != 2) || (!t1))))] [(1000, some (.box [.i x0.ID, .i x0.Twin, .i x0.Member, .i x0.Side, .i x0.Basket, .i x0.Amount, .i x0.Start, .i x0.End, .imm (.row 2 (List.map api_Reset.enc x0.Resets)), .i x0.Stage, .b x0.Short])), (1001, some (.box [.i 0, .i 0, .i 0, .i 0, .i 0, .i 0, .i 0, .i 0, .imm (.val (.slice none 0 0)), .i 0, .b false]))] 1002) ?_ ?_
 ·refine W.cond rfl (fun q4 => ?_) (fun q4 => ?_)
  ·have h := ifT q4 h
   refine W.seq ?_
   refine W.pk ?_
   refine .v rfl rfl (O.ldN ty24 rfl rfl rfl) ?_
   refine .s rfl rfl (O.st ty24 rfl rfl rfl rfl rfl rfl rfl rfl rfl rfl (all' := [.i x0.ID, .i x0.Twin, .i x0.Member, .i x0.Side, .i x0.Basket, .i x0.Amount, .i x0.Start, .i x0.End, .imm (.row 2 (List.map api_Reset.enc x0.Resets)), .i x0.Stage, .b x0.Short]) rfl) ?_
   refine .a rfl rfl rfl rfl ?_
   refine .nil ?_
   refine W.ret ?_
   cases h
   exact leaves (.inr rfl) rfl (.tup _ _ _ _ (cC (.agg _ _ _ _ (cC (.imm _) (cC (.imm _) (cC (.imm _) (cC (.imm _) (cC (.imm _) (cC (.imm _) (cC (.imm _) (cC (.imm _) (cC (.imm _) (cC (.imm _) (cC (.imm _) .nil)))))))))))) (cC (.imm _) .nil))) (cN (cN (cN .nil))) rfl rfl
  ·have h := ifF q4 h
   refine W.seq ?_
   obtain ⟨t5, b6, h⟩ := bnd1 h
   obtain ⟨t7, b8, h⟩ := bnd1 h
   refine W.fork (mkSt [(2, some (.i x2)), (3, some (.ptr 1000 0)), (6, some (.ptr 1001 0)), (18, some (.b (((((!t5) || (!t7)) || (decide (x2 ≤ x1))) || (decide (x2 ≤ x0.Start))) || (decide ((IntKind.wrap .i64 (x2 - x0.Start)) > 3660)))))] [(1000, some (.box [.i x0.ID, .i x0.Twin, .i x0.Member, .i x0.Side, .i x0.Basket, .i x0.Amount, .i x0.Start, .i x0.End, .imm (.row 2 (List.map api_Reset.enc x0.Resets)), .i x0.Stage, .b x0.Short])), (1001, some (.box [.i 0, .i 0, .i 0, .i 0, .i 0, .i 0, .i 0, .i 0, .imm (.val (.slice none 0 0)), .i 0, .b false]))] 1002) ?_ ?_
   ·refine W.cond rfl (fun q13 => ?_) (fun q13 => ?_)
    ·have h := ifT q13 h
     refine W.seq ?_
     refine W.pk ?_
     refine .v rfl rfl (O.ldN ty24 rfl rfl rfl) ?_
     refine .s rfl rfl (O.st ty24 rfl rfl rfl rfl rfl rfl rfl rfl rfl rfl (all' := [.i x0.ID, .i x0.Twin, .i x0.Member, .i x0.Side, .i x0.Basket, .i x0.Amount, .i x0.Start, .i x0.End, .imm (.row 2 (List.map api_Reset.enc x0.Resets)), .i x0.Stage, .b x0.Short]) rfl) ?_
     refine .a rfl rfl rfl rfl ?_
     refine .nil ?_
     refine W.ret ?_
     cases h
     exact leaves (.inr rfl) rfl (.tup _ _ _ _ (cC (.agg _ _ _ _ (cC (.imm _) (cC (.imm _) (cC (.imm _) (cC (.imm _) (cC (.imm _) (cC (.imm _) (cC (.imm _) (cC (.imm _) (cC (.imm _) (cC (.imm _) (cC (.imm _) .nil)))))))))))) (cC (.imm _) .nil))) (cN (cN (cN .nil))) rfl rfl
    ·have h := ifF q13 h
     refine W.skip ?_
     refine W.seq ?_
     refine W.pk ?_
     refine .m rfl rfl rfl rfl ?_
     refine .v rfl rfl (O.fld fld24_7 rfl rfl rfl) ?_
     refine .s rfl rfl (O.st ty3 rfl rfl rfl rfl rfl rfl rfl rfl rfl rfl (all' := [.i x0.ID, .i x0.Twin, .i x0.Member, .i x0.Side, .i x0.Basket, .i x0.Amount, .i x0.Start, .i x2, .imm (.row 2 (List.map api_Reset.enc x0.Resets)), .i x0.Stage, .b x0.Short]) rfl) ?_
     refine .nil ?_
     refine W.seq ?_
     refine W.pk ?_
     refine .v rfl rfl (O.fld fld24_9 rfl rfl rfl) ?_
     refine .s rfl rfl (O.st ty3 rfl rfl rfl rfl rfl rfl rfl rfl rfl rfl (all' := [.i x0.ID, .i x0.Twin, .i x0.Member, .i x0.Side, .i x0.Basket, .i x0.Amount, .i x0.Start, .i x2, .imm (.row 2 (List.map api_Reset.enc x0.Resets)), .i 3, .b x0.Short]) rfl) ?_
     refine .nil ?_
     refine W.seq ?_
     refine W.pk ?_
     refine .v rfl rfl (O.ldN ty24 rfl rfl rfl) ?_
     refine .s rfl rfl (O.st ty24 rfl rfl rfl rfl rfl rfl rfl rfl rfl rfl (all' := [.i x0.ID, .i x0.Twin, .i x0.Member, .i x0.Side, .i x0.Basket, .i x0.Amount, .i x0.Start, .i x2, .imm (.row 2 (List.map api_Reset.enc x0.Resets)), .i 3, .b x0.Short]) rfl) ?_
     refine .a rfl rfl rfl rfl ?_
     refine .nil ?_
     refine W.ret ?_
     cases h
     exact leaves (.inr rfl) rfl (.tup _ _ _ _ (cC (.agg _ _ _ _ (cC (.imm _) (cC (.imm _) (cC (.imm _) (cC (.imm _) (cC (.imm _) (cC (.imm _) (cC (.imm _) (cC (.imm _) (cC (.imm _) (cC (.imm _) (cC (.imm _) .nil)))))))))))) (cC (.imm _) .nil))) (cN (cN (cN .nil))) rfl rfl
   ·clear h
    rcases tf t5 with g9 | g9
    ·rcases tf t7 with g10 | g10
     ·rcases tf (decide (x2 ≤ x1)) with g11 | g11
      ·refine W.pk ?_
       refine .m rfl rfl rfl rfl ?_
       refine .call (.b t5) [] 0 (calendar_Good.ok b6) rfl rfl rfl ca41 rfl rfl (cC (.imm _) .nil) rfl rfl rfl rfl rfl ?_
       refine .v rfl rfl (OpL.unV rfl rfl rfl) ?_
       refine .m rfl rfl rfl rfl ?_
       refine .m rfl (met rfl rfl rfl (notT g9)) rfl rfl ?_
       refine .call (.b t7) [] 0 (calendar_Good.ok ((if_pos (by first | (simp only [g9, g10, g11, Bool.true_or, Bool.or_true, Bool.false_or, Bool.or_false, Bool.true_and, Bool.and_true, Bool.false_and, Bool.and_false, Bool.not_true, Bool.not_false, cond_true, cond_false]; done) | (repeat (first | rw [g9] | rw [g10] | rw [g11])) <;> simp only [Bool.true_or, Bool.or_true, Bool.false_or, Bool.or_false, Bool.true_and, Bool.and_true, Bool.false_and, Bool.and_false, Bool.not_true, Bool.not_false, cond_true, cond_false])).symm.trans b8)) rfl (met rfl rfl rfl (notT g9)) rfl ca41 rfl rfl (cC (.imm _) .nil) rfl rfl rfl rfl rfl ?_
       refine .v rfl (met rfl rfl rfl (notT g9)) (OpL.unV rfl rfl rfl) ?_
       refine .v rfl rfl (O.pickF (notT g9) rfl rfl rfl) ?_
       refine .m rfl rfl rfl rfl ?_
       refine .m rfl (met rfl rfl rfl (notT g10)) rfl rfl ?_
       refine .m rfl (met rfl rfl rfl (notT g10)) rfl rfl ?_
       refine .v rfl (met rfl rfl rfl (notT g10)) (OpL.binI rfl rfl rfl rfl) ?_
       refine .v rfl rfl (O.pickF (notT g10) rfl rfl rfl) ?_
       refine .m rfl rfl rfl rfl ?_
       refine .x rfl (unmet rfl rfl rfl g11) ?_
       refine .x rfl (unmet rfl rfl rfl g11) ?_
       refine .x rfl (unmet rfl rfl rfl g11) ?_
       refine .x rfl (unmet rfl rfl rfl g11) ?_
       refine .v rfl rfl (O.pickT g11 rfl rfl rfl) ?_
       refine .m rfl rfl rfl rfl ?_
       refine .x rfl (unmet rfl rfl rfl rfl) ?_
       refine .x rfl (unmet rfl rfl rfl rfl) ?_
       refine .x rfl (unmet rfl rfl rfl rfl) ?_
       refine .x rfl (unmet rfl rfl rfl rfl) ?_
       refine .x rfl (unmet rfl rfl rfl rfl) ?_
       refine .v rfl rfl (O.pickT rfl rfl rfl rfl) ?_
       refine .a rfl rfl rfl rfl ?_
       refine .nil ?_
       exact toN (Gives.mkR [] (.r rfl rfl (.r rfl rfl (.r rfl rfl (.c rfl (sbb (by first | (simp only [g9, g10, g11, Bool.true_or, Bool.or_true, Bool.false_or, Bool.or_false, Bool.true_and, Bool.and_true, Bool.false_and, Bool.and_false, Bool.not_true, Bool.not_false, cond_true, cond_false]; done) | (repeat (first | rw [g9] | rw [g10] | rw [g11])) <;> simp only [Bool.true_or, Bool.or_true, Bool.false_or, Bool.or_false, Bool.true_and, Bool.and_true, Bool.false_and, Bool.and_false, Bool.not_true, Bool.not_false, cond_true, cond_false])) rfl .n)))) (.r rfl rfl rfl (.r rfl rfl rfl .n)) rfl rfl rfl)
      ·rcases tf (decide (x2 ≤ x0.Start)) with g12 | g12
       ·refine W.pk ?_
        refine .m rfl rfl rfl rfl ?_
        refine .call (.b t5) [] 0 (calendar_Good.ok b6) rfl rfl rfl ca41 rfl rfl (cC (.imm _) .nil) rfl rfl rfl rfl rfl ?_
        refine .v rfl rfl (OpL.unV rfl rfl rfl) ?_
        refine .m rfl rfl rfl rfl ?_
        refine .m rfl (met rfl rfl rfl (notT g9)) rfl rfl ?_
        refine .call (.b t7) [] 0 (calendar_Good.ok ((if_pos (by first | (simp only [g9, g10, g11, g12, Bool.true_or, Bool.or_true, Bool.false_or, Bool.or_false, Bool.true_and, Bool.and_true, Bool.false_and, Bool.and_false, Bool.not_true, Bool.not_false, cond_true, cond_false]; done) | (repeat (first | rw [g9] | rw [g10] | rw [g11] | rw [g12])) <;> simp only [Bool.true_or, Bool.or_true, Bool.false_or, Bool.or_false, Bool.true_and, Bool.and_true, Bool.false_and, Bool.and_false, Bool.not_true, Bool.not_false, cond_true, cond_false])).symm.trans b8)) rfl (met rfl rfl rfl (notT g9)) rfl ca41 rfl rfl (cC (.imm _) .nil) rfl rfl rfl rfl rfl ?_
        refine .v rfl (met rfl rfl rfl (notT g9)) (OpL.unV rfl rfl rfl) ?_
        refine .v rfl rfl (O.pickF (notT g9) rfl rfl rfl) ?_
        refine .m rfl rfl rfl rfl ?_
        refine .m rfl (met rfl rfl rfl (notT g10)) rfl rfl ?_
        refine .m rfl (met rfl rfl rfl (notT g10)) rfl rfl ?_
        refine .v rfl (met rfl rfl rfl (notT g10)) (OpL.binI rfl rfl rfl rfl) ?_
        refine .v rfl rfl (O.pickF (notT g10) rfl rfl rfl) ?_
        refine .m rfl rfl rfl rfl ?_
        refine .m rfl (met rfl rfl rfl g11) rfl rfl ?_
        refine .v rfl (met rfl rfl rfl g11) (O.fld fld24_6 rfl rfl rfl) ?_
        refine .v rfl (met rfl rfl rfl g11) (O.ld (y := .i x0.Start) ty3 rfl rfl rfl) ?_
        refine .v rfl (met rfl rfl rfl g11) (OpL.binI rfl rfl rfl rfl) ?_
        refine .v rfl rfl (O.pickF g11 rfl rfl rfl) ?_
        refine .m rfl rfl rfl rfl ?_
        refine .x rfl (unmet rfl rfl rfl g12) ?_
        refine .x rfl (unmet rfl rfl rfl g12) ?_
        refine .x rfl (unmet rfl rfl rfl g12) ?_
        refine .x rfl (unmet rfl rfl rfl g12) ?_
        refine .x rfl (unmet rfl rfl rfl g12) ?_
        refine .v rfl rfl (O.pickT g12 rfl rfl rfl) ?_
        refine .a rfl rfl rfl rfl ?_
        refine .nil ?_
        exact toN (Gives.mkR [] (.r rfl rfl (.r rfl rfl (.r rfl rfl (.c rfl (sbb (by first | (simp only [g9, g10, g11, g12, Bool.true_or, Bool.or_true, Bool.false_or, Bool.or_false, Bool.true_and, Bool.and_true, Bool.false_and, Bool.and_false, Bool.not_true, Bool.not_false, cond_true, cond_false]; done) | (repeat (first | rw [g9] | rw [g10] | rw [g11] | rw [g12])) <;> simp only [Bool.true_or, Bool.or_true, Bool.false_or, Bool.or_false, Bool.true_and, Bool.and_true, Bool.false_and, Bool.and_false, Bool.not_true, Bool.not_false, cond_true, cond_false])) rfl .n)))) (.r rfl rfl rfl (.r rfl rfl rfl .n)) rfl rfl rfl)
       ·refine W.pk ?_
        refine .m rfl rfl rfl rfl ?_
        refine .call (.b t5) [] 0 (calendar_Good.ok b6) rfl rfl rfl ca41 rfl rfl (cC (.imm _) .nil) rfl rfl rfl rfl rfl ?_
        refine .v rfl rfl (OpL.unV rfl rfl rfl) ?_
        refine .m rfl rfl rfl rfl ?_
        refine .m rfl (met rfl rfl rfl (notT g9)) rfl rfl ?_
        refine .call (.b t7) [] 0 (calendar_Good.ok ((if_pos (by first | (simp only [g9, g10, g11, g12, Bool.true_or, Bool.or_true, Bool.false_or, Bool.or_false, Bool.true_and, Bool.and_true, Bool.false_and, Bool.and_false, Bool.not_true, Bool.not_false, cond_true, cond_false]; done) | (repeat (first | rw [g9] | rw [g10] | rw [g11] | rw [g12])) <;> simp only [Bool.true_or, Bool.or_true, Bool.false_or, Bool.or_false, Bool.true_and, Bool.and_true, Bool.false_and, Bool.and_false, Bool.not_true, Bool.not_false, cond_true, cond_false])).symm.trans b8)) rfl (met rfl rfl rfl (notT g9)) rfl ca41 rfl rfl (cC (.imm _) .nil) rfl rfl rfl rfl rfl ?_
        refine .v rfl (met rfl rfl rfl (notT g9)) (OpL.unV rfl rfl rfl) ?_
        refine .v rfl rfl (O.pickF (notT g9) rfl rfl rfl) ?_
        refine .m rfl rfl rfl rfl ?_
        refine .m rfl (met rfl rfl rfl (notT g10)) rfl rfl ?_
        refine .m rfl (met rfl rfl rfl (notT g10)) rfl rfl ?_
        refine .v rfl (met rfl rfl rfl (notT g10)) (OpL.binI rfl rfl rfl rfl) ?_
        refine .v rfl rfl (O.pickF (notT g10) rfl rfl rfl) ?_
        refine .m rfl rfl rfl rfl ?_
        refine .m rfl (met rfl rfl rfl g11) rfl rfl ?_
        refine .v rfl (met rfl rfl rfl g11) (O.fld fld24_6 rfl rfl rfl) ?_
        refine .v rfl (met rfl rfl rfl g11) (O.ld (y := .i x0.Start) ty3 rfl rfl rfl) ?_
        refine .v rfl (met rfl rfl rfl g11) (OpL.binI rfl rfl rfl rfl) ?_
        refine .v rfl rfl (O.pickF g11 rfl rfl rfl) ?_
        refine .m rfl rfl rfl rfl ?_
        refine .m rfl (met rfl rfl rfl g12) rfl rfl ?_
        refine .v rfl (met rfl rfl rfl g12) (O.fld fld24_6 rfl rfl rfl) ?_
        refine .v rfl (met rfl rfl rfl g12) (O.ld (y := .i x0.Start) ty3 rfl rfl rfl) ?_
        refine .v rfl (met rfl rfl rfl g12) (OpL.binI rfl rfl rfl rfl) ?_
        refine .v rfl (met rfl rfl rfl g12) (OpL.binI rfl rfl rfl rfl) ?_
        refine .v rfl rfl (O.pickF g12 rfl rfl rfl) ?_
        refine .a rfl rfl rfl rfl ?_
        refine .nil ?_
        exact toN (Gives.mkR [] (.r rfl rfl (.r rfl rfl (.r rfl rfl (.c rfl (sbb (by first | (simp only [g9, g10, g11, g12, Bool.true_or, Bool.or_true, Bool.false_or, Bool.or_false, Bool.true_and, Bool.and_true, Bool.false_and, Bool.and_false, Bool.not_true, Bool.not_false, cond_true, cond_false]; done) | (repeat (first | rw [g9] | rw [g10] | rw [g11] | rw [g12])) <;> simp only [Bool.true_or, Bool.or_true, Bool.false_or, Bool.or_false, Bool.true_and, Bool.and_true, Bool.false_and, Bool.and_false, Bool.not_true, Bool.not_false, cond_true, cond_false])) rfl .n)))) (.r rfl rfl rfl (.r rfl rfl rfl .n)) rfl rfl rfl)
     ·refine W.pk ?_
      refine .m rfl rfl rfl rfl ?_
      refine .call (.b t5) [] 0 (calendar_Good.ok b6) rfl rfl rfl ca41 rfl rfl (cC (.imm _) .nil) rfl rfl rfl rfl rfl ?_
      refine .v rfl rfl (OpL.unV rfl rfl rfl) ?_
      refine .m rfl rfl rfl rfl ?_
      refine .m rfl (met rfl rfl rfl (notT g9)) rfl rfl ?_
      refine .call (.b t7) [] 0 (calendar_Good.ok ((if_pos (by first | (simp only [g9, g10, Bool.true_or, Bool.or_true, Bool.false_or, Bool.or_false, Bool.true_and, Bool.and_true, Bool.false_and, Bool.and_false, Bool.not_true, Bool.not_false, cond_true, cond_false]; done) | (repeat (first | rw [g9] | rw [g10])) <;> simp only [Bool.true_or, Bool.or_true, Bool.false_or, Bool.or_false, Bool.true_and, Bool.and_true, Bool.false_and, Bool.and_false, Bool.not_true, Bool.not_false, cond_true, cond_false])).symm.trans b8)) rfl (met rfl rfl rfl (notT g9)) rfl ca41 rfl rfl (cC (.imm _) .nil) rfl rfl rfl rfl rfl ?_
      refine .v rfl (met rfl rfl rfl (notT g9)) (OpL.unV rfl rfl rfl) ?_
      refine .v rfl rfl (O.pickF (notT g9) rfl rfl rfl) ?_
      refine .m rfl rfl rfl rfl ?_
      refine .x rfl (unmet rfl rfl rfl (notF g10)) ?_
      refine .x rfl (unmet rfl rfl rfl (notF g10)) ?_
      refine .x rfl (unmet rfl rfl rfl (notF g10)) ?_
      refine .v rfl rfl (O.pickT (notF g10) rfl rfl rfl) ?_
      refine .m rfl rfl rfl rfl ?_
      refine .x rfl (unmet rfl rfl rfl rfl) ?_
      refine .x rfl (unmet rfl rfl rfl rfl) ?_
      refine .x rfl (unmet rfl rfl rfl rfl) ?_
      refine .x rfl (unmet rfl rfl rfl rfl) ?_
      refine .v rfl rfl (O.pickT rfl rfl rfl rfl) ?_
      refine .m rfl rfl rfl rfl ?_
      refine .x rfl (unmet rfl rfl rfl rfl) ?_
      refine .x rfl (unmet rfl rfl rfl rfl) ?_
      refine .x rfl (unmet rfl rfl rfl rfl) ?_
      refine .x rfl (unmet rfl rfl rfl rfl) ?_
      refine .x rfl (unmet rfl rfl rfl rfl) ?_
      refine .v rfl rfl (O.pickT rfl rfl rfl rfl) ?_
      refine .a rfl rfl rfl rfl ?_
      refine .nil ?_
      exact toN (Gives.mkR [] (.r rfl rfl (.r rfl rfl (.r rfl rfl (.c rfl (sbb (by first | (simp only [g9, g10, Bool.true_or, Bool.or_true, Bool.false_or, Bool.or_false, Bool.true_and, Bool.and_true, Bool.false_and, Bool.and_false, Bool.not_true, Bool.not_false, cond_true, cond_false]; done) | (repeat (first | rw [g9] | rw [g10])) <;> simp only [Bool.true_or, Bool.or_true, Bool.false_or, Bool.or_false, Bool.true_and, Bool.and_true, Bool.false_and, Bool.and_false, Bool.not_true, Bool.not_false, cond_true, cond_false])) rfl .n)))) (.r rfl rfl rfl (.r rfl rfl rfl .n)) rfl rfl rfl)
    ·refine W.pk ?_
     refine .m rfl rfl rfl rfl ?_
     refine .call (.b t5) [] 0 (calendar_Good.ok b6) rfl rfl rfl ca41 rfl rfl (cC (.imm _) .nil) rfl rfl rfl rfl rfl ?_
     refine .v rfl rfl (OpL.unV rfl rfl rfl) ?_
     refine .m rfl rfl rfl rfl ?_
     refine .x rfl (unmet rfl rfl rfl (notF g9)) ?_
     refine .x rfl (unmet rfl rfl rfl (notF g9)) ?_
     refine .x rfl (unmet rfl rfl rfl (notF g9)) ?_
     refine .v rfl rfl (O.pickT (notF g9) rfl rfl rfl) ?_
     refine .m rfl rfl rfl rfl ?_
     refine .x rfl (unmet rfl rfl rfl rfl) ?_
     refine .x rfl (unmet rfl rfl rfl rfl) ?_
     refine .x rfl (unmet rfl rfl rfl rfl) ?_
     refine .v rfl rfl (O.pickT rfl rfl rfl rfl) ?_
     refine .m rfl rfl rfl rfl ?_
     refine .x rfl (unmet rfl rfl rfl rfl) ?_
     refine .x rfl (unmet rfl rfl rfl rfl) ?_
     refine .x rfl (unmet rfl rfl rfl rfl) ?_
     refine .x rfl (unmet rfl rfl rfl rfl) ?_
     refine .v rfl rfl (O.pickT rfl rfl rfl rfl) ?_
     refine .m rfl rfl rfl rfl ?_
     refine .x rfl (unmet rfl rfl rfl rfl) ?_
     refine .x rfl (unmet rfl rfl rfl rfl) ?_
     refine .x rfl (unmet rfl rfl rfl rfl) ?_
     refine .x rfl (unmet rfl rfl rfl rfl) ?_
     refine .x rfl (unmet rfl rfl rfl rfl) ?_
     refine .v rfl rfl (O.pickT rfl rfl rfl rfl) ?_
     refine .a rfl rfl rfl rfl ?_
     refine .nil ?_
     exact toN (Gives.mkR [] (.r rfl rfl (.r rfl rfl (.r rfl rfl (.c rfl (sbb (by simp only [g9, Bool.true_or, Bool.or_true, Bool.false_or, Bool.or_false, Bool.true_and, Bool.and_true, Bool.false_and, Bool.and_false, Bool.not_true, Bool.not_false, cond_true, cond_false])) rfl .n)))) (.r rfl rfl rfl (.r rfl rfl rfl .n)) rfl rfl rfl)
 ·clear h
  rcases tf (x0.Stage != 2) with g3 | g3
  ·refine W.pk ?_
   refine .v rfl rfl (O.fld fld24_9 rfl rfl rfl) ?_
   refine .v rfl rfl (O.ld (y := .i x0.Stage) ty3 rfl rfl rfl) ?_
   refine .v rfl rfl (OpL.binI rfl rfl rfl rfl) ?_
   refine .m rfl rfl rfl rfl ?_
   refine .x rfl (unmet rfl rfl rfl g3) ?_
   refine .x rfl (unmet rfl rfl rfl g3) ?_
   refine .x rfl (unmet rfl rfl rfl g3) ?_
   refine .v rfl rfl (O.pickT g3 rfl rfl rfl) ?_
   refine .a rfl rfl rfl rfl ?_
   refine .nil ?_
   exact toN (Gives.mkR [] (.r rfl rfl (.r rfl rfl (.r rfl rfl (.r rfl rfl (.c rfl (sbb (by simp only [g3, Bool.true_or, Bool.or_true, Bool.false_or, Bool.or_false, Bool.true_and, Bool.and_true, Bool.false_and, Bool.and_false, Bool.not_true, Bool.not_false, cond_true, cond_false])) rfl .n))))) (.r rfl rfl rfl (.r rfl rfl rfl .n)) rfl rfl rfl)
  ·refine W.pk ?_
   refine .v rfl rfl (O.fld fld24_9 rfl rfl rfl) ?_
   refine .v rfl rfl (O.ld (y := .i x0.Stage) ty3 rfl rfl rfl) ?_
   refine .v rfl rfl (OpL.binI rfl rfl rfl rfl) ?_
   refine .m rfl rfl rfl rfl ?_
   refine .v rfl (met rfl rfl rfl g3) (O.ldN ty24 rfl rfl rfl) ?_
   refine .call (.b t1) [] 0 (life_Open.ok ((if_pos (by simp only [g3, Bool.true_or, Bool.or_true, Bool.false_or, Bool.or_false, Bool.true_and, Bool.and_true, Bool.false_and, Bool.and_false, Bool.not_true, Bool.not_false, cond_true, cond_false])).symm.trans b2)) rfl (met rfl rfl rfl g3) rfl ca34 rfl rfl (cC (.agg _ _ _ _ (cC (.imm _) (cC (.imm _) (cC (.imm _) (cC (.imm _) (cC (.imm _) (cC (.imm _) (cC (.imm _) (cC (.imm _) (cC (.imm _) (cC (.imm _) (cC (.imm _) .nil)))))))))))) .nil) rfl rfl rfl rfl rfl ?_
   refine .v rfl (met rfl rfl rfl g3) (OpL.unV rfl rfl rfl) ?_
   refine .v rfl rfl (O.pickF g3 rfl rfl rfl) ?_
   refine .a rfl rfl rfl rfl ?_
   refine .nil ?_
   exact toN (Gives.mkR [] (.r rfl rfl (.r rfl rfl (.r rfl rfl (.r rfl rfl (.c rfl (sbb (by simp only [g3, Bool.true_or, Bool.or_true, Bool.false_or, Bool.or_false, Bool.true_and, Bool.and_true, Bool.false_and, Bool.and_false, Bool.not_true, Bool.not_false, cond_true, cond_false])) rfl .n))))) (.r rfl rfl rfl (.r rfl rfl rfl .n)) rfl rfl rfl)
end Go.Proofs.Ytknfdnlhadjbaaa
